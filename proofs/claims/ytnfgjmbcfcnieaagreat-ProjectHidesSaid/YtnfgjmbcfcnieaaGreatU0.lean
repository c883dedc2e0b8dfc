/- Of the reckoning machine, and what is proved with it: texts joined by program. -/
import Derived.Test.YtnfgjmbcfcnieaaGreatK3
import Derived.Laws.Externs
set_option linter.all false
namespace Go.UM
open Go.AM
namespace Z
instance (n:Nat):OfNat Sc n:=⟨.t (OfNat.ofNat n)⟩
instance (n:Nat):OfNat xu n:=⟨.t (OfNat.ofNat n)⟩
theorem zt (n:Nat):(OfNat.ofNat n:Sc)=.t (OfNat.ofNat n):=rfl
theorem zr (n:Nat):(OfNat.ofNat n:xu)=.t (OfNat.ofNat n):=rfl
def o (d:Nat) (x:vQ):ct:=⟨some d,none,x⟩
def m (d:Nat) (x:Sc):ct:=⟨some d,none,.mv x⟩
def l (d n:Nat) (x:Sc):ct:=⟨some d,none,.load false n x⟩
def g (d n:Nat) (x:Sc):ct:=⟨some d,none,.load true n x⟩
def f (d n:Nat) (x:Sc):ct:=⟨some d,none,.aB n x⟩
def b (d:Nat) (p:BinOp) (x y:Sc):ct:=⟨some d,none,.bin p x y⟩
def c (d n:Nat) (l:List Sc):ct:=⟨some d,none,.call n l⟩
def e (d:Nat) (x:Sc) (n:Nat):ct:=⟨some d,none,.ext x n⟩
def n (d:Nat) (x:Sc):ct:=⟨some d,none,.fH x⟩
def w (d:Nat) (c a b:Sc):ct:=⟨some d,none,.pick c a b⟩
def x (d n:Nat) (a:Sc):ct:=⟨some d,none,.box n a⟩
def a (d n:Nat) (z:List AV):ct:=⟨some d,none,.alloc n z⟩
def u (d n:Nat) (x i:Sc):ct:=⟨some d,none,.lW n x i⟩
def v (x:vQ):ct:=⟨none,none,x⟩
def r (n:Nat) (x y:Sc):ct:=⟨none,none,.store n x y⟩
def i (n:Int):Sc:=.k (.int .i64 n)
def j (n:Int):AV:=.int .i64 n
def k (l:List Nat) (c:cU):cU:=.sV l c
def q (l:List ct) (c:cU):cU:=.seq (.ops l) c
def s (a b:cU):cU:=.seq a b
def p (l:List ct):cU:=.ops l
def h (c:Sc) (a b:cU):cU:=.cond c a b
def t (l:List ct):cU:=.seq (.ops l) .ret
def y (l:List Nat) (o:List ct) (c:cU):cU:=.sV l (.seq (.ops o) c)
def Z1:List AV:=[j 0,j 0,.int .u64 0,j 0,.int .u32 0,.int .u8 0,.int .u8 0,.int .u8 0,.int .u8 0,.int .u8 0,.int .u8 0,.int .u8 0,.int .u8 0,.int .u32 0,.int .u32 0,j 0,j 0,j 0,.ai,.ai,.ai,j 0,.ai,j 0,j 0,j 0,j 0,j 0,j 0,j 0,j 0,j 0,j 0,j 0,j 0,j 0,j 0,j 0,j 0,j 0,j 0,j 0,j 0,j 0,j 0,j 0,j 0,j 0,j 0,j 0,j 0,j 0,j 0,j 0,j 0,j 0,j 0]
def Z2:List AV:=[j 0,.int .u64 0,j 0,.int .u32 0,.int .u8 0,.int .u8 0,.int .u8 0,.int .u8 0,.int .u8 0,.int .u8 0,.int .u8 0,.int .u8 0,.int .u32 0,.int .u32 0,j 0,j 0,j 0,.ai,.ai,.ai,j 0,.ai,j 0,j 0,j 0,j 0,j 0,j 0,j 0,j 0,j 0,j 0,j 0,j 0,j 0,j 0,j 0,j 0,j 0,j 0]
def Z3:List AV:=[.int .u64 0,j 0,.int .u32 0,.int .u8 0,.int .u8 0,.int .u8 0,.int .u8 0,.int .u8 0,.int .u8 0,.int .u8 0,.int .u8 0,.int .u32 0,.int .u32 0,j 0,j 0]
def Z4:List AV:=[j 0,.ai,.ai,.ai,j 0,.ai,j 0,j 0,j 0,j 0,j 0,j 0,j 0,j 0,j 0,j 0,j 0,j 0,j 0,j 0,j 0,j 0,j 0,j 0]
def Z5:List AV:=[.int .u8 0,.int .u8 0,.int .u8 0,.int .u8 0,.int .u8 0,.int .u8 0,.int .u8 0,.int .u8 0]
def Z6:List AV:=[j 0,j 0,j 0,j 0,j 0,j 0,j 0,j 0,j 0,j 0,j 0,j 0,j 0,j 0,j 0,j 0,j 0,j 0,.int .u8 0]
def Z7:List AV:=[.ai,.ai,.ai,.ai,.ai,.ai,.int .u32 0,.int .u32 0,.int .u32 0]
def Z8:List AV:=[j 0,j 0,j 0,j 0,j 0,j 0,j 0,j 0,j 0,j 0,j 0,j 0,j 0,j 0,j 0,j 0]
def Z9:List AV:=[j 0,j 0,j 0,j 0,j 0,j 0,j 0,j 0,j 0,j 0,j 0,j 0,j 0]
def Kn:List AV:=[j 0,j 0,j 0,j 0,j 0,j 0,j 0,j 0,j 0,j 0,j 0,j 0]
def RX:List AV:=[.int .u32 0,.int .u32 0]
@[reducible] def Nf {b:bt} (a:bt) (_:a=b:=by dsimp only[zt,zr,o,m,l,g,f,b,c,e,n,w,x,a,u,v,r,i,j,k,q,s,p,h,t,y,Z1,Z2,Z3,Z4,Z5,Z6,Z7,Z8,Z9,Kn,RX]):bt:=b
end Z
open Z
def c62:bt:=Nf ⟨1,[2],q [m 2 (.k .ai)] (s (q [m 3 0,o 4 (.Bc false 3)] (h 4 (t [m 2 (.k .ai)]) .skip)) (k [0] (t [o 5 (.aC 4 1 0 [.int .u8 0] []),m 6 0,o 7 (.app 4 1 5 6),m 2 7])))⟩
structure N62 (R:Env):Prop where
 o62:R.Fn 62 c62
def Tv:bt:=Nf ⟨2,[4],q [m 4 (i 0)] (s (q [m 6 0,n 7 6,m 8 (i 0)] (k [0,1,7,8] (.block 0 (.loop (q [b 9 .lss 8 7] (s (h 9 .skip (.exit 0)) (k [0,1,7,8] (s (.block 1 (q [m 10 8,m 5 10] (q [m 11 1,m 12 0,m 13 5,u 14 1 12 13,l 15 1 14,b 16 .eql 11 15] (k [0,1,5,7,8,16] (h 16 (t [m 17 5,m 4 17]) .skip))))) (k [0,1,7,8] (p [b 18 .add 8 (i 1),m 8 18])))))))))) (k [] (t [m 4 (i (-1))])))⟩
structure OA (R:Env):Prop where
 Tw:R.Fn 106 Tv
def Tx:bt:=Nf ⟨2,[4],q [m 4 (.k (.bool false))] (q [m 5 0,m 6 1,c 7 106 [5,6],b 8 .geq 7 (i 0),m 4 8] (k [4] .ret))⟩
structure OB (R:Env):Prop where
 Ty:R.Fn 100 Tx
 n106:OA R
def Tz:bt:=Nf ⟨1,[2],q [m 2 (.k .ai)] (s (q [m 3 0,o 4 (.Bc false 3)] (h 4 (t [m 2 (.k .ai)]) .skip)) (k [0] (t [o 5 (.aC 13 3 0 [j 0,j 0,j 0] []),m 6 0,o 7 (.app 13 3 5 6),m 2 7])))⟩
structure Ko (R:Env):Prop where
 OC:R.Fn 101 Tz
def TA:bt:=Nf ⟨2,[4],q [m 4 (i 0)] (s (q [m 6 0,n 7 6,m 8 (i 0)] (k [0,1,7,8] (.block 0 (.loop (q [b 9 .lss 8 7] (s (h 9 .skip (.exit 0)) (k [0,1,7,8] (s (.block 1 (q [m 10 8,m 5 10] (q [m 11 1,m 12 0,m 13 5,u 14 3 12 13,g 15 3 14,o 16 (.gI 11 [15])] (k [0,1,5,7,8,16] (h 16 (t [m 17 5,m 4 17]) .skip))))) (k [0,1,7,8] (p [b 18 .add 8 (i 1),m 8 18])))))))))) (k [] (t [m 4 (i (-1))])))⟩
structure OD (R:Env):Prop where
 TB:R.Fn 217 TA
def TC:bt:=Nf ⟨2,[4],q [m 4 (.k (.bool false))] (q [m 5 0,m 6 1,c 7 217 [5,6],b 8 .geq 7 (i 0),m 4 8] (k [4] .ret))⟩
structure OE (R:Env):Prop where
 TE:R.Fn 209 TC
 n217:OD R
def TF:bt:=Nf ⟨2,[4],q [m 4 (i 0)] (s (q [m 6 0,n 7 6,m 8 (i 0)] (k [0,1,7,8] (.block 0 (.loop (q [b 9 .lss 8 7] (s (h 9 .skip (.exit 0)) (k [0,1,7,8] (s (.block 1 (q [m 10 8,m 5 10] (q [m 11 1,m 12 0,m 13 5,u 14 2 12 13,g 15 2 14,o 16 (.gI 11 [15])] (k [0,1,5,7,8,16] (h 16 (t [m 17 5,m 4 17]) .skip))))) (k [0,1,7,8] (p [b 18 .add 8 (i 1),m 8 18])))))))))) (k [] (t [m 4 (i (-1))])))⟩
structure OF (R:Env):Prop where
 TG:R.Fn 218 TF
def TH:bt:=Nf ⟨2,[4],q [m 4 (.k (.bool false))] (q [m 5 0,m 6 1,c 7 218 [5,6],b 8 .geq 7 (i 0),m 4 8] (k [4] .ret))⟩
structure OG (R:Env):Prop where
 TI:R.Fn 210 TH
 n218:OF R
def TJ:bt:=Nf ⟨2,[4],q [m 4 (i 0)] (s (q [m 6 0,n 7 6,m 8 (i 0)] (k [0,1,7,8] (.block 0 (.loop (q [b 9 .lss 8 7] (s (h 9 .skip (.exit 0)) (k [0,1,7,8] (s (.block 1 (q [m 10 8,m 5 10] (q [m 11 1,m 12 0,m 13 5,u 14 3 12 13,g 15 3 14,o 16 (.gI 11 [15])] (k [0,1,5,7,8,16] (h 16 (t [m 17 5,m 4 17]) .skip))))) (k [0,1,7,8] (p [b 18 .add 8 (i 1),m 8 18])))))))))) (k [] (t [m 4 (i (-1))])))⟩
structure OH (R:Env):Prop where
 aaR:R.Fn 219 TJ
def TK:bt:=Nf ⟨2,[4],q [m 4 (.k (.bool false))] (q [m 5 0,m 6 1,c 7 219 [5,6],b 8 .geq 7 (i 0),m 4 8] (k [4] .ret))⟩
structure OI (R:Env):Prop where
 aaS:R.Fn 211 TK
 n219:OH R
def TL:bt:=Nf ⟨2,[4,5],q [m 4 (.k (.int .u64 0)),m 5 (.k (.int .u64 0))] (q [m 14 0,b 15 .and 14 (.k (.int .u64 4294967295)),m 6 15] (q [m 16 0,b 17 .shr 16 (.k (.int .u64 32)),m 7 17] (q [m 18 1,b 19 .and 18 (.k (.int .u64 4294967295)),m 8 19] (q [m 20 1,b 21 .shr 20 (.k (.int .u64 32)),m 9 21] (q [m 22 6,m 23 8,b 24 .mul 22 23,m 10 24] (q [m 25 7,m 26 8,b 27 .mul 25 26,m 28 10,b 29 .shr 28 (.k (.int .u64 32)),b 30 .add 27 29,m 11 30] (y [0,1,6,7,9,11] [m 31 11,b 32 .and 31 (.k (.int .u64 4294967295)),m 12 32] (q [m 33 11,b 34 .shr 33 (.k (.int .u64 32)),m 13 34] (q [m 35 12,m 36 6,m 37 9,b 38 .mul 36 37,b 39 .add 35 38,m 12 39] (y [0,1,7,9,12,13] [m 40 7,m 41 9,b 42 .mul 40 41,m 43 13,b 44 .add 42 43,m 45 12,b 46 .shr 45 (.k (.int .u64 32)),b 47 .add 44 46,m 4 47] (k [0,1,4] (t [m 48 0,m 49 1,b 50 .mul 48 49,m 5 50]))))))))))))⟩
structure Kq (R:Env):Prop where
 OJ:R.Fn 276 TL
structure TM (R:Env):Prop where
 TN:R.Xn 286 "math/bits.Sub64"
def TO:bt:=Nf ⟨2,[4],q [m 4 (i 0)] (s (q [m 6 0,n 7 6,m 8 (i 0)] (k [0,1,7,8] (.block 0 (.loop (q [b 9 .lss 8 7] (s (h 9 .skip (.exit 0)) (k [0,1,7,8] (s (.block 1 (q [m 10 8,m 5 10] (q [m 11 1,m 12 0,m 13 5,u 14 1 12 13,l 15 1 14,o 16 (.gI 11 [15])] (k [0,1,5,7,8,16] (h 16 (t [m 17 5,m 4 17]) .skip))))) (k [0,1,7,8] (p [b 18 .add 8 (i 1),m 8 18])))))))))) (k [] (t [m 4 (i (-1))])))⟩
structure OK (R:Env):Prop where
 aaT:R.Fn 324 TO
def TP:bt:=Nf ⟨2,[4],q [m 4 (.k (.bool false))] (q [m 5 0,m 6 1,c 7 324 [5,6],b 8 .geq 7 (i 0),m 4 8] (k [4] .ret))⟩
structure OL (R:Env):Prop where
 aaU:R.Fn 323 TP
 n324:OK R
def TQ:bt:=Nf ⟨1,[2],q [m 2 (.k .ai)] (s (q [m 3 0,o 4 (.Bc false 3)] (h 4 (t [m 2 (.k .ai)]) .skip)) (k [0] (t [o 5 (.aC 26 3 0 [j 0,j 0,j 0] []),m 6 0,o 7 (.app 26 3 5 6),m 2 7])))⟩
structure Kr (R:Env):Prop where
 TR:R.Fn 361 TQ
def TS:bt:=Nf ⟨1,[2],q [m 2 (.k .ai)] (s (q [m 3 0,o 4 (.Bc false 3)] (h 4 (t [m 2 (.k .ai)]) .skip)) (k [0] (t [o 5 (.aC 18 2 0 [j 0,j 0] []),m 6 0,o 7 (.app 18 2 5 6),m 2 7])))⟩
structure Ks (R:Env):Prop where
 TU:R.Fn 362 TS
def TV:bt:=Nf ⟨2,[],q [l 4 1 1,o 5 (.N3 4)] (k [0,5] (.block 0 (.loop (q [o 6 (.RQ 5),e 7 6 0] (s (h 7 .skip (.exit 0)) (k [0,5] (.block 1 (q [o 8 (.JB 5),e 9 8 0,m 3 9] (q [m 10 0,m 11 3,o 12 (.gI 10 [11]),o 13 (.un .not 12)] (h 13 .ret .skip))))))))))⟩
structure TW (R:Env):Prop where
 ahc:R.Fn 447 TV
def TX:bt:=Nf ⟨1,[2],q [x 1 57 0,m 2 (.k .ap)] (t [o 3 (.RP 447 [1]),m 2 3])⟩
structure OM (R:Env):Prop where
 aaV:R.Fn 433 TX
 TY:TW R
structure TZ (R:Env):Prop where
 aaW:R.As 434
structure T0 (R:Env):Prop where
 T1:R.As 435
def T4:bt:=Nf ⟨1,[2],q [m 2 (.k (.bool false))] (t [m 3 0,m 4 0,b 5 .neq 3 4,m 2 5])⟩
structure ON (R:Env):Prop where
 OO:R.Fn 468 T4
def T5:bt:=Nf ⟨2,[4],q [m 4 (i 0)] (q [m 7 0,c 8 468 [7],m 5 8] (q [m 9 1,c 10 468 [9],m 6 10] (s (q [m 11 5] (h 11 (s (q [m 12 6] (h 12 (t [m 4 (i 0)]) .skip)) (k [] (t [m 4 (i (-1))]))) .skip)) (k [0,1,6] (s (q [m 13 6] (h 13 (t [m 4 (i 1)]) .skip)) (k [0,1] (s (q [m 14 0,m 15 1,b 16 .lss 14 15] (h 16 (t [m 4 (i (-1))]) .skip)) (k [0,1] (s (q [m 17 0,m 18 1,b 19 .gtr 17 18] (h 19 (t [m 4 (i 1)]) .skip)) (k [] (t [m 4 (i 0)])))))))))))⟩
structure OP (R:Env):Prop where
 HB:R.Fn 451 T5
 EG:ON R
def T6:bt:=Nf ⟨1,[2],q [m 2 (i 0)] (q [m 3 (i 0)] (s (q [m 6 0,n 7 6,m 8 (i 0)] (k [3,6,7,8] (.block 0 (.loop (q [b 9 .lss 8 7] (s (h 9 .skip (.exit 0)) (k [3,6,7,8] (s (.block 1 (q [u 10 1 6 8,l 11 1 10,m 5 11] (q [m 12 5,m 13 3,b 14 .neq 12 13] (h 14 (t [m 15 5,m 2 15]) .skip)))) (k [3,6,7,8] (p [b 16 .add 8 (i 1),m 8 16])))))))))) (k [3] (t [m 17 3,m 2 17]))))⟩
structure OQ (R:Env):Prop where
 T7:R.Fn 452 T6
def T8:bt:=Nf ⟨2,[],q [m 6 0,o 7 (.N3 6)] (k [0,1,7] (.block 0 (.loop (q [o 8 (.RQ 7),e 9 8 0] (s (h 9 .skip (.exit 0)) (k [0,1,7] (.block 1 (q [o 10 (.JB 7),e 11 10 0,e 12 10 1,a 4 49 [j 0,j 0,j 0,j 0],a 5 33 Kn,r 4 4 11,r 12 5 12] (y [0,1,4,5,7] [m 13 1,g 14 4 4,g 15 12 5,o 16 (.gI 13 [14,15])] (h 16 (p [m 17 0,g 18 4 4,v (.MN [.i,.i,.i,.i] true 17 18)]) .skip))))))))))⟩
structure OR (R:Env):Prop where
 aaX:R.Fn 438 T8
structure T9 (R:Env):Prop where
 aaY:R.As 439
structure T' (R:Env):Prop where
 aaZ:R.As 440
end Go.UM
namespace Go.UM
open Go.AM
open Z
def Ua:bt:=Nf ⟨1,[2,3],q [m 2 (.k (.int .u64 0)),m 3 (.k (.bool false))] (s (q [m 4 0,b 5 .lss 4 (i 0)] (h 5 (q [m 6 0,o 7 (.conv .u64 6),o 8 (.un .neg 7),m 2 8,m 3 (.k (.bool true))] (k [2,3] .ret)) .skip)) (k [0] (t [m 9 0,o 10 (.conv .u64 9),m 2 10,m 3 (.k (.bool false))])))⟩
structure OS (R:Env):Prop where
 OT:R.Fn 275 Ua
def Ub:bt:=Nf ⟨2,[4,5],q [m 4 (.k (.int .u64 0)),m 5 (.k (.int .u64 0))] (q [m 8 1,o 9 (.rf 286 [.k (.int .u64 0),8,.k (.int .u64 0)]),m 7 9,e 10 7 0,e 11 7 1,m 1 10,m 6 11] (y [0,1,6] [m 13 0,m 14 6,o 15 (.rf 286 [.k (.int .u64 0),13,14]),m 12 15,e 16 12 0,e 17 12 1,m 0 16] (k [0,1] (t [m 18 0,m 19 1,m 4 18,m 5 19]))))⟩
structure OU (R:Env):Prop where
 Uc:R.Fn 283 Ub
 n286:TM R
def Ud:bt:=Nf ⟨3,[.cell 6 true 2,7],q [a 6 38 [j 0,.int .u64 0],m 7 (.k (.bool false))] (s (q [m 9 2] (h 9 (p [m 11 0,m 12 1,c 13 283 [11,12],m 10 13,e 14 10 0,e 15 10 1,m 0 14,m 1 15]) .skip)) (y [0,1,2,6] [m 16 0,o 17 (.conv .i64 16),m 18 1,o 19 (.build [j 0,.int .u64 0] [(0,1,17),(1,1,18)]),a 8 38 [j 0,.int .u64 0],r 2 8 19] (y [0,1,2,6,8] [g 20 2 8,f 21 0 8,l 22 1 21,b 23 .lss 22 (i 0),m 24 2,o 25 (.NV false 23 24),m 26 25,⟨some 27,some (26,false),.mv 0⟩,⟨some 28,some (26,false),.mv 1⟩,⟨some 29,some (26,false),.bin .or 27 28⟩,⟨some 30,some (26,false),.bin .eql 29 (.k (.int .u64 0))⟩,w 31 26 (.k (.bool true)) 30,r 2 6 20,m 7 31] (k [6,7] .ret))))⟩
structure OV (R:Env):Prop where
 Ue:R.Fn 277 Ud
 n283:OU R
def Uf:bt:=Nf ⟨2,[.cell 4 true 2],q [a 4 38 [j 0,.int .u64 0]] (q [m 14 0,c 15 275 [14],m 13 15,e 16 13 0,e 17 13 1,m 5 16,m 6 17] (y [1,4,5,6] [m 19 1,c 20 275 [19],m 18 20,e 21 18 0,e 22 18 1,m 7 21,m 8 22] (y [4,5,6,7,8] [m 24 5,m 25 7,c 26 276 [24,25],m 23 26,e 27 23 0,e 28 23 1,m 9 27,m 10 28] (y [4,6,8,9,10] [m 30 9,m 31 10,m 32 6,m 33 8,o 34 (.NV true 32 33),c 35 277 [30,31,34],m 29 35,e 36 29 0,e 37 29 1,a 11 38 [j 0,.int .u64 0],r 2 11 36,m 12 37] (k [4,11] (t [g 38 2 11,r 2 4 38]))))))⟩
structure Kt (R:Env):Prop where
 OW:R.Fn 264 Uf
 n275:OS R
 n276:Kq R
 n277:OV R
def Ug:bt:=Nf ⟨1,[2,3],q [x 1 38 0,m 2 (i 0),m 3 (.k (.bool false))] (s (q [f 4 1 1,l 5 1 4,o 6 (.conv .i64 5),m 2 6] (q [f 7 0 1,l 8 1 7,m 9 2,b 10 .shr 9 (.k (.int .u64 63)),b 11 .neq 8 10] (k [2,11] (h 11 (t [m 2 (i 0),m 3 (.k (.bool false))]) .skip)))) (k [2] (t [m 12 2,m 2 12,m 3 (.k (.bool true))])))⟩
structure Ku (R:Env):Prop where
 Kv:R.Fn 274 Ug
def Uh:bt:=Nf ⟨1,[.cell 2 true 2],q [a 2 38 [j 0,.int .u64 0]] (q [m 3 0,b 4 .shr 3 (.k (.int .u64 63)),m 5 0,o 6 (.conv .u64 5),o 7 (.build [j 0,.int .u64 0] [(0,1,4),(1,1,6)]),r 2 2 7] (k [2] .ret))⟩
structure Ui (R:Env):Prop where
 ahd:R.Fn 287 Uh
def Uj:bt:=Nf ⟨2,[.cell 4 true 2],q [x 2 38 0,a 4 38 [j 0,.int .u64 0]] (q [m 5 1,o 6 (.mm true [5,i 0]),m 1 6] (s (q [m 7 1,b 8 .geq 7 (i 64)] (h 8 (q [f 9 0 2,l 10 1 9,m 11 1,b 12 .sub 11 (i 64),o 13 (.mm false [12,i 63]),b 14 .shr 10 13,c 15 287 [14],r 2 4 15] (k [4] .ret)) .skip)) (k [1,2,4] (s (q [m 16 1,b 17 .eql 16 (i 0)] (h 17 (t [g 18 2 2,r 2 4 18]) .skip)) (k [1,2,4] (s (.draw [0,1,0,7,0,16,0,112,0,256,768,0,2048,7936,16368,32767,65535] [[2],[19],[1],[20,21],[2],[23],[1],[24,25],[2],[27],[28],[1],[30],[29,31],[26,32],[22,33],[4,34]] [f 19 0 2,l 20 1 19,m 21 1,b 22 .shr 20 21,f 23 1 2,l 24 1 23,m 25 1,b 26 .shr 24 25,f 27 0 2,l 28 1 27,o 29 (.conv .u64 28),m 30 1,b 31 .sub (i 64) 30,b 32 .shl 29 31,b 33 .or 26 32,o 34 (.build [j 0,.int .u64 0] [(0,1,22),(1,1,33)]),r 2 4 34]) (k [4] .ret)))))))⟩
structure OX (R:Env):Prop where
 Uk:R.Fn 285 Uj
 n287:Ui R
end Go.UM
namespace Go.UM
open Go.AM
open Z
def Ul:bt:=Nf ⟨1,[2],q [x 1 38 0,m 2 (i 0)] (s (q [g 6 2 1,c 7 274 [6],m 5 7,e 8 5 0,e 9 5 1,m 3 8,m 4 9] (y [1,3,4] [m 10 4] (h 10 (t [m 11 3,m 2 11]) .skip))) (k [1] (s (q [f 12 0 1,l 13 1 12,b 14 .lss 13 (i 0)] (h 14 (t [m 2 (i (-9223372036854775808))]) .skip)) (k [] (t [m 2 (i 9223372036854775807)])))))⟩
structure Kw (R:Env):Prop where
 OY:R.Fn 265 Ul
 n274:Ku R
def Um:bt:=Nf ⟨1,[2],q [m 2 (i 0)] (q [m 3 (i 4294967296)] (s (q [m 6 0,n 7 6,m 8 (i 0)] (k [3,6,7,8] (.block 0 (.loop (q [b 9 .lss 8 7] (s (h 9 .skip (.exit 0)) (k [3,6,7,8] (s (.block 1 (q [m 10 8,u 11 1 6 8,l 12 1 11,m 4 10,m 5 12] (k [3,4,5,6,7,8] (s (q [m 13 4,b 14 .eql 13 (i 0)] (h 14 (q [m 15 5,m 3 15] (.exit 1)) .skip)) (k [3,5,6,7,8] (p [m 16 3,m 17 5,c 18 264 [16,17],c 19 285 [18,i 32],c 20 265 [19],m 3 20])))))) (k [3,6,7,8] (p [b 21 .add 8 (i 1),m 8 21])))))))))) (k [3] (t [m 22 3,m 2 22]))))⟩
structure OZ (R:Env):Prop where
 Un:R.Fn 284 Um
 n264:Kt R
 n265:Kw R
 n285:OX R
def Uo:bt:=Nf ⟨1,[2],q [m 2 (i 0)] (q [m 3 (i 0)] (s (q [m 7 0,n 8 7,m 9 (i 0)] (k [3,7,8,9] (.block 0 (.loop (q [b 10 .lss 9 8] (s (h 10 .skip (.exit 0)) (k [3,7,8,9] (s (.block 1 (q [u 11 1 7 9,l 12 1 11,m 5 12] (q [m 13 3,m 14 5,b 15 .add 13 14,m 6 15] (s (.block 2 (q [m 17 3,b 18 .gtr 17 (i 0),m 19 18,⟨some 20,some (19,true),.mv 5⟩,⟨some 21,some (19,true),.bin .gtr 20 (i 0)⟩,w 22 19 21 (.k (.bool false)),m 23 22,⟨some 24,some (23,true),.mv 6⟩,⟨some 25,some (23,true),.bin .lss 24 (i 0)⟩,w 26 23 25 (.k (.bool false)),m 16 26] (k [3,5,6,7,8,9,16] (h 16 (p [m 6 (i 9223372036854775807)]) (q [m 28 3,b 29 .lss 28 (i 0),m 30 29,⟨some 31,some (30,true),.mv 5⟩,⟨some 32,some (30,true),.bin .lss 31 (i 0)⟩,w 33 30 32 (.k (.bool false)),m 34 33,⟨some 35,some (34,true),.mv 6⟩,⟨some 36,some (34,true),.bin .geq 35 (i 0)⟩,w 37 34 36 (.k (.bool false)),m 27 37] (k [6,7,8,9,27] (h 27 (p [m 6 (i (-9223372036854775808))]) .skip))))))) (k [6,7,8,9] (p [m 38 6,m 3 38])))))) (k [3,7,8,9] (p [b 39 .add 9 (i 1),m 9 39])))))))))) (k [3] (t [m 40 3,m 2 40]))))⟩
structure Ky (R:Env):Prop where
 O0:R.Fn 267 Uo
def Up:bt:=Nf ⟨2,[4],q [m 4 (i 0)] (q [m 6 0,m 7 1,b 8 .sub 6 7,m 5 8] (s (.block 0 (q [m 10 0,b 11 .geq 10 (i 0),m 12 11,⟨some 13,some (12,true),.mv 1⟩,⟨some 14,some (12,true),.bin .lss 13 (i 0)⟩,w 15 12 14 (.k (.bool false)),m 16 15,⟨some 17,some (16,true),.mv 5⟩,⟨some 18,some (16,true),.bin .lss 17 (i 0)⟩,w 19 16 18 (.k (.bool false)),m 9 19] (k [0,1,5,9] (h 9 (t [m 4 (i 9223372036854775807)]) (q [m 21 0,b 22 .lss 21 (i 0),m 23 22,⟨some 24,some (23,true),.mv 1⟩,⟨some 25,some (23,true),.bin .gtr 24 (i 0)⟩,w 26 23 25 (.k (.bool false)),m 27 26,⟨some 28,some (27,true),.mv 5⟩,⟨some 29,some (27,true),.bin .geq 28 (i 0)⟩,w 30 27 29 (.k (.bool false)),m 20 30] (k [5,20] (h 20 (t [m 4 (i (-9223372036854775808))]) .skip))))))) (k [5] (t [m 31 5,m 4 31]))))⟩
structure O1 (R:Env):Prop where
 Uq:R.Fn 281 Up
def Ur:bt:=Nf ⟨1,[2],q [m 2 (i 0)] (t [m 3 0,c 4 281 [i 0,3],m 2 4])⟩
structure O2 (R:Env):Prop where
 Us:R.Fn 270 Ur
 n281:O1 R
def Ut:bt:=Nf ⟨1,[2],q [m 2 (i 0)] (q [m 3 0,m 4 0,c 5 270 [4],o 6 (.mm true [3,5]),m 2 6] (k [2] .ret))⟩
structure Kz (R:Env):Prop where
 qn:R.Fn 255 Ut
 n270:O2 R
def Uu:bt:=Nf ⟨1,[2],q [m 2 (i 0)] (q [m 3 0,b 4 .shr 3 (.k (.int .u64 32)),m 5 0,b 6 .shr 5 (.k (.int .u64 31)),b 7 .and 6 (i 1),b 8 .add 4 7,m 2 8] (k [2] .ret))⟩
structure O3 (R:Env):Prop where
 KA:R.Fn 260 Uu
def Uv:bt:=Nf ⟨1,[2],q [m 2 (i 0)] (t [m 3 0,c 4 264 [3,i 4294967296],c 5 265 [4],m 2 5])⟩
structure O4 (R:Env):Prop where
 KB:R.Fn 248 Uv
 n264:Kt R
 n265:Kw R
end Go.UM
namespace Go.UM
open Go.AM
open Z
def Uw:bt:=Nf ⟨3,[.cell 6 true 3],q [x 3 31 0,x 4 31 1,a 6 31 [j 0,j 0,j 0]] (s (.draw [0,0,2,0,8,31,0,0,128,0,512,2047,0,0,8192,0,32768,131071,262143,524287] [[2],[3],[8],[4],[10],[7,9,11],[2],[3],[14],[4],[16],[13,15,17],[2],[3],[20],[4],[22],[19,21,23],[12,18,24],[6,25]] [m 7 2,f 8 0 3,l 9 1 8,f 10 0 4,l 11 1 10,o 12 (.gI 7 [9,11]),m 13 2,f 14 1 3,l 15 1 14,f 16 1 4,l 17 1 16,o 18 (.gI 13 [15,17]),m 19 2,f 20 2 3,l 21 1 20,f 22 2 4,l 23 1 22,o 24 (.gI 19 [21,23]),o 25 (.build [j 0,j 0,j 0] [(0,1,12),(1,1,18),(2,1,24)]),r 3 6 25]) (k [6] .ret))⟩
structure HC (R:Env):Prop where
 KC:R.Fn 262 Uw
def Ux:bt:=Nf ⟨2,[4],q [m 4 (i 0)] (q [m 5 0,m 6 1,o 7 (.aC 32 1 2 [j 0] [(0,5),(1,6)]),c 8 284 [7],m 4 8] (k [4] .ret))⟩
structure KD (R:Env):Prop where
 KE:R.Fn 278 Ux
 n284:OZ R
def Uy:bt:=Nf ⟨1,[.cell 2 true 3],q [a 2 31 [j 0,j 0,j 0]] (q [o 6 (.build [j 0,j 0,j 0] [(0,1,i 4294967296),(1,1,i 4294967296),(2,1,i 4294967296)]),a 3 31 [j 0,j 0,j 0],r 3 3 6] (s (q [m 7 0,n 8 7,m 9 (i 0)] (k [2,3,7,8,9] (.block 0 (.loop (q [b 10 .lss 9 8] (s (h 10 .skip (.exit 0)) (k [2,3,7,8,9] (s (.block 1 (q [u 11 3 7 9,g 12 3 11,a 5 31 [j 0,j 0,j 0],r 3 5 12] (p [g 13 3 3,g 14 3 5,c 15 262 [13,14,.f 278],r 3 3 15]))) (k [2,3,7,8,9] (p [b 16 .add 9 (i 1),m 9 16])))))))))) (k [2,3] (t [g 17 3 3,r 3 2 17]))))⟩
structure O5 (R:Env):Prop where
 Uz:R.Fn 266 Uy
 n262:HC R
 n278:KD R
def UA:bt:=Nf ⟨2,[4],q [x 2 31 0,x 3 31 1,m 4 (i 0)] (q [g 6 3 2,g 7 3 3,o 8 (.aC 31 3 2 [j 0,j 0,j 0] [(0,6),(1,7)]),c 9 266 [8],a 5 31 [j 0,j 0,j 0],r 3 5 9] (y [5] [f 10 0 5,l 11 1 10,f 12 1 5,l 13 1 12,f 14 2 5,l 15 1 14,o 16 (.aC 32 1 3 [j 0] [(0,11),(1,13),(2,15)]),c 17 267 [16],m 4 17] (k [4] .ret)))⟩
structure O6 (R:Env):Prop where
 KF:R.Fn 252 UA
 n266:O5 R
 n267:Ky R
def UB:bt:=Nf ⟨2,[4],q [m 4 (i 0)] (q [m 5 0,m 6 1,o 7 (.aC 32 1 2 [j 0] [(0,5),(1,6)]),c 8 267 [7],m 4 8] (k [4] .ret))⟩
structure KG (R:Env):Prop where
 KH:R.Fn 263 UB
 n267:Ky R
def UC:bt:=Nf ⟨1,[.cell 2 true 3],q [a 2 31 [j 0,j 0,j 0]] (q [a 3 31 [j 0,j 0,j 0]] (s (q [m 6 0,n 7 6,m 8 (i 0)] (k [2,3,6,7,8] (.block 0 (.loop (q [b 9 .lss 8 7] (s (h 9 .skip (.exit 0)) (k [2,3,6,7,8] (s (.block 1 (q [u 10 3 6 8,g 11 3 10,a 5 31 [j 0,j 0,j 0],r 3 5 11] (p [g 12 3 3,g 13 3 5,c 14 262 [12,13,.f 263],r 3 3 14]))) (k [2,3,6,7,8] (p [b 15 .add 8 (i 1),m 8 15])))))))))) (k [2,3] (t [g 16 3 3,r 3 2 16]))))⟩
structure O7 (R:Env):Prop where
 UD:R.Fn 246 UC
 n262:HC R
 n263:KG R
def UE:bt:=Nf ⟨1,[2],q [x 1 31 0,m 2 (i 0)] (s (.draw [0,1,3,0,8,31,0,64,255,511,1023] [[1],[3],[4],[1],[6],[7],[1],[9],[10],[5,8,11],[12]] [f 3 0 1,l 4 1 3,c 5 255 [4],f 6 1 1,l 7 1 6,c 8 255 [7],f 9 2 1,l 10 1 9,c 11 255 [10],o 12 (.mm true [5,8,11]),m 2 12]) (k [2] .ret))⟩
structure O8 (R:Env):Prop where
 UF:R.Fn 256 UE
 n255:Kz R
def UG:bt:=Nf ⟨1,[.cell 2 true 3],q [x 1 26 0,a 2 31 [j 0,j 0,j 0]] (s (.draw [0,1,3,0,8,31,0,64,255,511,1023] [[1],[3],[4],[1],[6],[7],[1],[9],[10],[5,8,11],[2,12]] [f 3 0 1,l 4 1 3,c 5 248 [4],f 6 1 1,l 7 1 6,c 8 248 [7],f 9 2 1,l 10 1 9,c 11 248 [10],o 12 (.build [j 0,j 0,j 0] [(0,1,5),(1,1,8),(2,1,11)]),r 3 2 12]) (k [2] .ret))⟩
structure O9 (R:Env):Prop where
 UH:R.Fn 249 UG
 n248:O4 R
end Go.UM
namespace Go.UM
open Go.AM
open Z
def UI:bt:=Nf ⟨0,[.cell 0 true 12],q [a 0 33 Kn] (t [o 1 (.build [j 0,j 0,j 0,j 0,j 0,j 0,j 0,j 0,j 0] [(0,1,i 4294967296),(4,1,i 4294967296),(8,1,i 4294967296)]),o 2 (.build Kn [(0,9,1)]),r 12 0 2])⟩
structure O' (R:Env):Prop where
 UJ:R.Fn 221 UI
def UK:bt:=Nf ⟨2,[.cell 4 true 3],q [x 2 37 0,a 4 31 [j 0,j 0,j 0]] (s (.draw [0,1,3,7,0,16,48,112,240,0,512,1536,3584,7680,16383,32767] [[1],[5],[2,6],[7],[1],[9],[10],[2,11],[12],[1],[14],[15],[2,16],[17],[8,13,18],[4,19]] [m 5 1,b 6 .mul (i 3) 5,o 7 (.bo 9 1 2 6),l 8 1 7,m 9 1,b 10 .mul (i 3) 9,b 11 .add 10 (i 1),o 12 (.bo 9 1 2 11),l 13 1 12,m 14 1,b 15 .mul (i 3) 14,b 16 .add 15 (i 2),o 17 (.bo 9 1 2 16),l 18 1 17,o 19 (.build [j 0,j 0,j 0] [(0,1,8),(1,1,13),(2,1,18)]),r 3 4 19]) (k [4] .ret))⟩
structure Pa (R:Env):Prop where
 EH:R.Fn 251 UK
def UL:bt:=Nf ⟨2,[.cell 4 true 3],q [x 2 33 0,x 3 31 1,a 4 31 [j 0,j 0,j 0]] (s (.draw [0,1,3,0,15,0,32,127,0,511,0,1024,4095,0,16383,32767,65535] [[2],[5],[6],[3],[7,8],[2],[10],[11],[3],[12,13],[2],[15],[16],[3],[17,18],[9,14,19],[4,20]] [f 5 0 2,g 6 9 5,c 7 251 [6,i 0],g 8 3 3,c 9 252 [7,8],f 10 0 2,g 11 9 10,c 12 251 [11,i 1],g 13 3 3,c 14 252 [12,13],f 15 0 2,g 16 9 15,c 17 251 [16,i 2],g 18 3 3,c 19 252 [17,18],o 20 (.build [j 0,j 0,j 0] [(0,1,9),(1,1,14),(2,1,19)]),r 3 4 20]) (k [4] .ret))⟩
structure Pb (R:Env):Prop where
 UN:R.Fn 231 UL
 n251:Pa R
 n252:O6 R
def UO:bt:=Nf ⟨2,[.cell 4 true 3],q [x 2 33 0,x 3 31 1,a 4 31 [j 0,j 0,j 0]] (s (.draw [0,0,3,0,8,31,63,127] [[2],[3],[5,6],[2],[8],[7,9],[10],[4,11]] [g 5 12 2,g 6 3 3,c 7 231 [5,6],f 8 9 2,g 9 3 8,o 10 (.aC 31 3 2 [j 0,j 0,j 0] [(0,7),(1,9)]),c 11 246 [10],r 3 4 11]) (k [4] .ret))⟩
structure Pd (R:Env):Prop where
 UP:R.Fn 233 UO
 n231:Pb R
 n246:O7 R
def UQ:bt:=Nf ⟨1,[2],q [x 1 33 0,m 2 (i 0)] (s (q [f 5 0 1,g 6 9 5,m 7 (i 0)] (k [1,6,7] (.block 0 (.loop (q [b 8 .lss 7 (i 9)] (s (h 8 .skip (.exit 0)) (k [1,6,7] (s (.block 1 (q [o 9 (.JQ false 9 1 6 7),m 4 9] (q [m 10 4,c 11 255 [10],b 12 .gtr 11 (i 1099511627776)] (h 12 (t [m 2 (i 2)]) .skip)))) (k [1,6,7] (p [b 13 .add 7 (i 1),m 7 13])))))))))) (k [1] (s (q [f 14 9 1,g 15 3 14,c 16 256 [15],b 17 .gtr 16 (i 562949953421312)] (h 17 (t [m 2 (i 2)]) .skip)) (k [] (t [m 2 (i 0)])))))⟩
structure Pe (R:Env):Prop where
 UR:R.Fn 235 UQ
 n255:Kz R
 n256:O8 R
def US:bt:=Nf ⟨1,[.cell 2 true 3,3],q [x 1 31 0,a 2 26 [j 0,j 0,j 0],m 3 (i 0)] (s (.draw [0,1,3,0,8,31,0,64,255,511,0,2047] [[1],[5],[6],[1],[8],[9],[1],[11],[12],[7,10,13],[],[4,14]] [f 5 0 1,l 6 1 5,c 7 260 [6],f 8 1 1,l 9 1 8,c 10 260 [9],f 11 2 1,l 12 1 11,c 13 260 [12],o 14 (.build [j 0,j 0,j 0] [(0,1,7),(1,1,10),(2,1,13)]),a 4 26 [j 0,j 0,j 0],r 3 4 14]) (k [2,4] (s (q [f 15 0 4,l 16 1 15,f 17 1 4,l 18 1 17,f 19 2 4,l 20 1 19,o 21 (.mm true [16,18,20]),b 22 .gtr 21 (i 65536),m 23 22,⟨some 24,some (23,false),.aB 0 4⟩,⟨some 25,some (23,false),.load false 1 24⟩,⟨some 26,some (23,false),.aB 1 4⟩,⟨some 27,some (23,false),.load false 1 26⟩,⟨some 28,some (23,false),.aB 2 4⟩,⟨some 29,some (23,false),.load false 1 28⟩,⟨some 30,some (23,false),.mm false [25,27,29]⟩,⟨some 31,some (23,false),.bin .lss 30 (i (-65536))⟩,w 32 23 (.k (.bool true)) 31] (k [2,4,32] (h 32 (t [o 33 (.build [j 0,j 0,j 0] []),r 3 2 33,m 3 (i 8)]) .skip))) (k [2,4] (t [g 34 3 4,r 3 2 34,m 3 (i 0)])))))⟩
structure Pf (R:Env):Prop where
 UT:R.Fn 243 US
 n260:O3 R
def UU:bt:=Nf ⟨2,[.cell 4 true 3,5],q [x 2 33 0,x 3 26 1,a 4 26 [j 0,j 0,j 0],m 5 (i 0)] (s (q [g 7 12 2,c 8 235 [7],m 6 8] (q [m 9 6,b 10 .neq 9 (i 0)] (h 10 (t [o 11 (.build [j 0,j 0,j 0] []),m 12 6,r 3 4 11,m 5 12]) .skip))) (k [2,3,4] (s (.draw [0,0,2,7,15,31,31,127,255] [[2],[3],[14],[13,15],[16],[17],[17],[4,18],[19]] [g 13 12 2,g 14 3 3,c 15 249 [14],c 16 233 [13,15],c 17 243 [16],e 18 17 0,e 19 17 1,r 3 4 18,m 5 19]) (k [4,5] .ret))))⟩
structure KI (R:Env):Prop where
 tU:R.Fn 241 UU
 n233:Pd R
 n235:Pe R
 n243:Pf R
 n249:O9 R
end Go.UM
namespace Go.UM
open Go.AM
open Z
def c54:bt:=Nf ⟨3,[6,7],q [m 6 (.k .ai),m 7 (i 0)] (s (q [m 12 1,b 13 .lss 12 (i 1),m 14 13,⟨some 15,some (14,false),.mv 1⟩,⟨some 16,some (14,false),.bin .gtr 15 (i 8)⟩,w 17 14 (.k (.bool true)) 16] (k [0,1,2,17] (h 17 (t [m 6 (.k .ai),m 7 (i 2)]) .skip))) (y [0,1,2] [m 18 0,c 19 62 [18],m 8 19] (s (q [m 20 2,n 21 20,m 22 (i 0)] (k [1,8,20,21,22] (.block 0 (.loop (q [b 23 .lss 22 21] (s (h 23 .skip (.exit 0)) (k [1,8,20,21,22] (s (.block 1 (q [u 24 1 20 22,l 25 1 24,m 10 25] (s (q [m 26 1,b 27 .lss 26 (i 8),m 28 27,⟨some 29,some (28,true),.mv 10⟩,⟨some 30,some (28,true),.mv 1⟩,⟨some 31,some (28,true),.bin .mul (i 8) 30⟩,⟨some 32,some (28,true),.bin .shr 29 31⟩,⟨some 33,some (28,true),.bin .gtr 32 (.k (.int .u64 0))⟩,w 34 28 33 (.k (.bool false))] (k [1,8,10,20,21,22,34] (h 34 (t [m 6 (.k .ai),m 7 (i 3)]) .skip))) (y [1,8,10,20,21,22] [m 35 1,m 36 (i 0)] (k [1,8,10,20,21,22,35,36] (.block 2 (.loop (q [b 37 .lss 36 35] (s (h 37 .skip (.exit 2)) (k [1,8,10,20,21,22,35,36] (s (.block 3 (q [m 38 36,m 11 38] (p [m 39 8,m 40 10,m 41 11,b 42 .mul (i 8) 41,b 43 .shr 40 42,o 44 (.conv .u8 43),o 45 (.aC 4 1 1 [.int .u8 0] [(0,44)]),o 46 (.app 4 1 39 45),m 8 46]))) (k [1,8,10,20,21,22,35,36] (p [b 47 .add 36 (i 1),m 36 47]))))))))))))) (k [1,8,20,21,22] (p [b 48 .add 22 (i 1),m 22 48])))))))))) (k [8] (t [m 49 8,m 6 49,m 7 (i 0)])))))⟩
structure Pg (R:Env):Prop where
 o54:R.Fn 54 c54
 n62:N62 R
def c71:bt:=Nf ⟨3,[6,7],q [m 6 (.k .ai),m 7 (i 0)] (s (q [m 12 1,b 13 .lss 12 (i 1),m 14 13,⟨some 15,some (14,false),.mv 1⟩,⟨some 16,some (14,false),.bin .gtr 15 (i 8)⟩,w 17 14 (.k (.bool true)) 16] (k [0,1,2,17] (h 17 (t [m 6 (.k .ai),m 7 (i 2)]) .skip))) (y [0,1,2] [m 8 (.k .ai)] (s (q [m 18 2,n 19 18,m 20 (i 0)] (k [0,1,8,18,19,20] (.block 0 (.loop (q [b 21 .lss 20 19] (s (h 21 .skip (.exit 0)) (k [0,1,8,18,19,20] (s (.block 1 (q [u 22 1 18 20,l 23 1 22,m 10 23] (s (q [m 24 10,m 25 1,b 26 .mul (i 8) 25,b 27 .sub (i 64) 26,b 28 .shl 24 27,m 29 1,b 30 .mul (i 8) 29,b 31 .sub (i 64) 30,b 32 .shr 28 31,m 11 32] (y [0,1,8,10,11,18,19,20] [m 33 11,m 34 10,b 35 .neq 33 34] (h 35 (t [m 6 (.k .ai),m 7 (i 3)]) .skip))) (k [0,1,8,10,18,19,20] (p [m 36 8,m 37 10,o 38 (.conv .u64 37),m 39 1,b 40 .mul (i 8) 39,b 41 .sub (i 64) 40,b 42 .shl 38 41,m 43 1,b 44 .mul (i 8) 43,b 45 .sub (i 64) 44,b 46 .shr 42 45,o 47 (.aC 6 1 1 [.int .u64 0] [(0,46)]),o 48 (.app 6 1 36 47),m 8 48]))))) (k [0,1,8,18,19,20] (p [b 49 .add 20 (i 1),m 20 49])))))))))) (y [0,1,8] [m 50 0,m 51 1,m 52 8,c 53 54 [50,51,52],e 54 53 0,e 55 53 1,m 6 54,m 7 55] (k [6,7] .ret)))))⟩
structure UV (R:Env):Prop where
 o71:R.Fn 71 c71
 Jt:Pg R
end Go.UM
namespace Go.UM
open Go.AM
open Z
def c37:bt:=Nf ⟨1,[2],q [m 2 (i 0)] (q [o 4 (.build [j 0,j 0,j 0,j 0,j 0] [(1,1,i 2048),(2,1,i 1024),(3,1,i 64),(4,1,i 64)]),a 3 5 [j 0,j 0,j 0,j 0,j 0],r 5 3 4] (s (q [m 5 0,b 6 .lss 5 (i 0),m 7 6,⟨some 8,some (7,false),.mv 0⟩,⟨some 9,some (7,false),.bin .geq 8 (i 5)⟩,w 10 7 (.k (.bool true)) 9] (k [0,3,10] (h 10 (t [m 2 (i 0)]) .skip))) (k [0,3] (t [m 11 0,o 12 (.bo 5 1 3 11),l 13 1 12,m 2 13]))))⟩
structure N37 (R:Env):Prop where
 o37:R.Fn 37 c37
end Go.UM
namespace Go.UM
open Go.AM
open Z
def UW:bt:=Nf ⟨1,[2],q [x 1 26 0,m 2 (.k (.bool false))] (q [f 3 0 1,l 4 1 3,f 5 1 1,l 6 1 5,f 7 2 1,l 8 1 7,o 9 (.mm true [4,6,8]),b 10 .gtr 9 (i 4096),m 11 10,⟨some 12,some (11,false),.aB 0 1⟩,⟨some 13,some (11,false),.load false 1 12⟩,⟨some 14,some (11,false),.aB 1 1⟩,⟨some 15,some (11,false),.load false 1 14⟩,⟨some 16,some (11,false),.aB 2 1⟩,⟨some 17,some (11,false),.load false 1 16⟩,⟨some 18,some (11,false),.mm false [13,15,17]⟩,⟨some 19,some (11,false),.bin .lss 18 (i (-4096))⟩,w 20 11 (.k (.bool true)) 19,m 2 20] (k [2] .ret))⟩
structure Ph (R:Env):Prop where
 UX:R.Fn 206 UW
def UY:bt:=Nf ⟨1,[2],q [x 1 18 0,m 2 (.k (.bool false))] (q [o 3 (.bo 2 1 1 (i 0)),l 4 1 3,o 5 (.bo 2 1 1 (i 1)),l 6 1 5,o 7 (.mm false [4,6]),b 8 .lss 7 (i 0),m 9 8,⟨some 10,some (9,false),.bo 2 1 1 (i 0)⟩,⟨some 11,some (9,false),.load false 1 10⟩,⟨some 12,some (9,false),.bo 2 1 1 (i 1)⟩,⟨some 13,some (9,false),.load false 1 12⟩,⟨some 14,some (9,false),.mm true [11,13]⟩,⟨some 15,some (9,false),.bin .gtr 14 (i 65535)⟩,w 16 9 (.k (.bool true)) 15,m 2 16] (k [2] .ret))⟩
structure Pj (R:Env):Prop where
 UZ:R.Fn 207 UY
def U0:bt:=Nf ⟨2,[3],q [x 2 13 0,m 3 (.k (.bool false))] (q [o 4 (.bo 3 1 2 (i 0)),l 5 1 4,o 6 (.bo 3 1 2 (i 1)),l 7 1 6,o 8 (.bo 3 1 2 (i 2)),l 9 1 8,o 10 (.mm false [5,7,9]),b 11 .lss 10 (i 0),m 12 11,⟨some 13,some (12,false),.bo 3 1 2 (i 0)⟩,⟨some 14,some (12,false),.load false 1 13⟩,⟨some 15,some (12,false),.bo 3 1 2 (i 1)⟩,⟨some 16,some (12,false),.load false 1 15⟩,⟨some 17,some (12,false),.bo 3 1 2 (i 2)⟩,⟨some 18,some (12,false),.load false 1 17⟩,⟨some 19,some (12,false),.mm true [14,16,18]⟩,⟨some 20,some (12,false),.aB 0 1⟩,⟨some 21,some (12,false),.load false 1 20⟩,⟨some 22,some (12,false),.fH 21⟩,⟨some 23,some (12,false),.bin .geq 19 22⟩,w 24 12 (.k (.bool true)) 23,m 25 24,⟨some 26,some (25,false),.bo 3 1 2 (i 0)⟩,⟨some 27,some (25,false),.load false 1 26⟩,⟨some 28,some (25,false),.bo 3 1 2 (i 1)⟩,⟨some 29,some (25,false),.load false 1 28⟩,⟨some 30,some (25,false),.bin .eql 27 29⟩,w 31 25 (.k (.bool true)) 30,m 32 31,⟨some 33,some (32,false),.bo 3 1 2 (i 1)⟩,⟨some 34,some (32,false),.load false 1 33⟩,⟨some 35,some (32,false),.bo 3 1 2 (i 2)⟩,⟨some 36,some (32,false),.load false 1 35⟩,⟨some 37,some (32,false),.bin .eql 34 36⟩,w 38 32 (.k (.bool true)) 37,m 39 38,⟨some 40,some (39,false),.bo 3 1 2 (i 2)⟩,⟨some 41,some (39,false),.load false 1 40⟩,⟨some 42,some (39,false),.bo 3 1 2 (i 0)⟩,⟨some 43,some (39,false),.load false 1 42⟩,⟨some 44,some (39,false),.bin .eql 41 43⟩,w 45 39 (.k (.bool true)) 44,m 3 45] (k [3] .ret))⟩
structure Pk (R:Env):Prop where
 aa1:R.Fn 208 U0
def U1:bt:=Nf ⟨1,[2],q [x 1 25 0,m 2 (i 0)] (q [m 3 (.f 206)] (q [m 4 (.f 207)] (q [o 6 (.RP 208 [1]),m 5 6] (s (.block 0 (q [f 8 0 1,l 9 1 8,n 10 9,b 11 .gtr 10 (i 64),m 12 11,⟨some 13,some (12,false),.aB 2 1⟩,⟨some 14,some (12,false),.load false 1 13⟩,⟨some 15,some (12,false),.fH 14⟩,⟨some 16,some (12,false),.bin .gtr 15 (i 64)⟩,w 17 12 (.k (.bool true)) 16,m 7 17] (k [1,3,4,5,7] (h 7 (t [m 2 (i 3)]) (q [f 19 0 1,l 20 1 19,n 21 20,b 22 .eql 21 (i 0),m 23 22,⟨some 24,some (23,false),.aB 2 1⟩,⟨some 25,some (23,false),.load false 1 24⟩,⟨some 26,some (23,false),.fH 25⟩,⟨some 27,some (23,false),.bin .eql 26 (i 0)⟩,w 28 23 (.k (.bool true)) 27,m 29 28,⟨some 30,some (29,false),.aB 1 1⟩,⟨some 31,some (29,false),.load false 1 30⟩,⟨some 32,some (29,false),.fH 31⟩,⟨some 33,some (29,false),.aB 0 1⟩,⟨some 34,some (29,false),.load false 1 33⟩,⟨some 35,some (29,false),.fH 34⟩,⟨some 36,some (29,false),.bin .neq 32 35⟩,w 37 29 (.k (.bool true)) 36,m 18 37] (k [1,3,4,5,18] (h 18 (t [m 2 (i 5)]) (q [f 39 0 1,l 40 1 39,m 41 3,c 42 209 [40,41],m 38 42] (k [1,4,5,38] (h 38 (t [m 2 (i 8)]) (q [f 44 1 1,l 45 1 44,m 46 4,c 47 210 [45,46],m 48 47,⟨some 49,some (48,false),.aB 2 1⟩,⟨some 50,some (48,false),.load false 1 49⟩,⟨some 51,some (48,false),.mv 5⟩,⟨some 52,some (48,false),.call 211 [50,51]⟩,w 53 48 (.k (.bool true)) 52,m 43 53] (k [43] (h 43 (t [m 2 (i 5)]) .skip))))))))))))) (k [] (t [m 2 (i 0)]))))))⟩
structure KJ (R:Env):Prop where
 Pl:R.Fn 193 U1
 n206:Ph R
 n207:Pj R
 n208:Pk R
 n209:OE R
 n210:OG R
 n211:OI R
def U2:bt:=Nf ⟨1,[2,3],q [x 1 25 0,m 2 (.k .ai),m 3 (i 0)] (s (q [g 12 3 1,c 13 193 [12],m 4 13] (q [m 14 4,b 15 .neq 14 (i 0)] (h 15 (t [m 16 4,m 2 (.k .ai),m 3 16]) .skip))) (y [1] [f 17 0 1,l 18 1 17,n 19 18,o 20 (.conv .u8 19),f 21 2 1,l 22 1 21,n 23 22,o 24 (.conv .u8 23),o 25 (.aC 4 1 2 [.int .u8 0] [(0,20),(1,24)]),m 5 25] (k [1,5] (s (q [f 26 0 1,l 27 1 26,n 28 27,m 29 (i 0)] (k [1,5,27,28,29] (.block 0 (.loop (q [b 30 .lss 29 28] (s (h 30 .skip (.exit 0)) (k [1,5,27,28,29] (s (.block 1 (q [u 31 3 27 29,g 32 3 31,a 7 26 [j 0,j 0,j 0],r 3 7 32] (p [m 34 5,f 35 0 7,l 36 1 35,f 37 1 7,l 38 1 37,f 39 2 7,l 40 1 39,o 41 (.aC 10 1 3 [j 0] [(0,36),(1,38),(2,40)]),c 42 71 [34,i 2,41],m 33 42,e 43 33 0,e 44 33 1,m 5 43]))) (k [1,5,27,28,29] (p [b 45 .add 29 (i 1),m 29 45])))))))))) (k [1,5] (s (q [f 46 1 1,l 47 1 46,n 48 47,m 49 (i 0)] (k [1,5,47,48,49] (.block 2 (.loop (q [b 50 .lss 49 48] (s (h 50 .skip (.exit 2)) (k [1,5,47,48,49] (s (.block 3 (q [u 51 2 47 49,g 52 2 51,a 9 18 [j 0,j 0],r 2 9 52] (p [m 54 5,o 55 (.bo 2 1 9 (i 0)),l 56 1 55,o 57 (.conv .u64 56),o 58 (.bo 2 1 9 (i 1)),l 59 1 58,o 60 (.conv .u64 59),o 61 (.aC 6 1 2 [.int .u64 0] [(0,57),(1,60)]),c 62 54 [54,i 2,61],m 53 62,e 63 53 0,e 64 53 1,m 5 63]))) (k [1,5,47,48,49] (p [b 65 .add 49 (i 1),m 49 65])))))))))) (k [1,5] (s (q [f 66 2 1,l 67 1 66,n 68 67,m 69 (i 0)] (k [5,67,68,69] (.block 4 (.loop (q [b 70 .lss 69 68] (s (h 70 .skip (.exit 4)) (k [5,67,68,69] (s (.block 5 (q [u 71 3 67 69,g 72 3 71,a 11 13 [j 0,j 0,j 0],r 3 11 72] (p [m 73 5,o 74 (.bo 3 1 11 (i 0)),l 75 1 74,o 76 (.conv .u8 75),o 77 (.bo 3 1 11 (i 1)),l 78 1 77,o 79 (.conv .u8 78),o 80 (.bo 3 1 11 (i 2)),l 81 1 80,o 82 (.conv .u8 81),o 83 (.aC 4 1 3 [.int .u8 0] [(0,76),(1,79),(2,82)]),o 84 (.app 4 1 73 83),m 5 84]))) (k [5,67,68,69] (p [b 85 .add 69 (i 1),m 69 85])))))))))) (k [5] (t [m 86 5,m 2 86,m 3 (i 0)]))))))))))⟩
structure Pm (R:Env):Prop where
 U3:R.Fn 196 U2
 Jt:Pg R
 RY:UV R
 n193:KJ R
end Go.UM
namespace Go.UM
open Go.AM
open Z
def c84:bt:=Nf ⟨1,[2],q [x 1 12 0,m 2 (i 0)] (s (q [o 5 (.aC 10 1 5 [j 0] [(0,i 1),(1,i 2),(2,i 4),(3,i 8),(4,i 16)]),f 6 0 1,l 7 1 6,c 8 100 [5,7],o 9 (.un .not 8),m 10 9,⟨some 11,some (10,false),.aB 1 1⟩,⟨some 12,some (10,false),.load false 1 11⟩,⟨some 13,some (10,false),.fH 12⟩,⟨some 14,some (10,false),.aB 0 1⟩,⟨some 15,some (10,false),.load false 1 14⟩,⟨some 16,some (10,false),.aB 0 1⟩,⟨some 17,some (10,false),.load false 1 16⟩,⟨some 18,some (10,false),.bin .mul 15 17⟩,⟨some 19,some (10,false),.bin .neq 13 18⟩,w 20 10 (.k (.bool true)) 19] (k [1,20] (h 20 (t [m 2 (i 5)]) .skip))) (k [1] (s (q [f 21 1 1,l 22 1 21,n 23 22,m 24 (i 0)] (k [22,23,24] (.block 0 (.loop (q [b 25 .lss 24 23] (s (h 25 .skip (.exit 0)) (k [22,23,24] (s (.block 1 (q [u 26 3 22 24,g 27 3 26,a 4 13 [j 0,j 0,j 0],r 3 4 27] (q [o 28 (.bo 3 1 4 (i 0)),l 29 1 28,o 30 (.bo 3 1 4 (i 1)),l 31 1 30,o 32 (.bo 3 1 4 (i 2)),l 33 1 32,o 34 (.mm false [29,31,33]),b 35 .lss 34 (i 0),m 36 35,⟨some 37,some (36,false),.bo 3 1 4 (i 0)⟩,⟨some 38,some (36,false),.load false 1 37⟩,⟨some 39,some (36,false),.bo 3 1 4 (i 1)⟩,⟨some 40,some (36,false),.load false 1 39⟩,⟨some 41,some (36,false),.bo 3 1 4 (i 2)⟩,⟨some 42,some (36,false),.load false 1 41⟩,⟨some 43,some (36,false),.mm true [38,40,42]⟩,⟨some 44,some (36,false),.bin .gtr 43 (i 255)⟩,w 45 36 (.k (.bool true)) 44] (k [22,23,24,45] (h 45 (t [m 2 (i 5)]) .skip))))) (k [22,23,24] (p [b 46 .add 24 (i 1),m 24 46])))))))))) (k [] (t [m 2 (i 0)])))))⟩
structure YQ (R:Env):Prop where
 o84:R.Fn 84 c84
 n100:OB R
def c82:bt:=Nf ⟨1,[2,3],q [x 1 12 0,m 2 (.k .ai),m 3 (i 0)] (s (q [g 8 2 1,c 9 84 [8],m 4 9] (q [m 10 4,b 11 .neq 10 (i 0)] (h 11 (t [m 12 4,m 2 (.k .ai),m 3 12]) .skip))) (y [1] [f 13 0 1,l 14 1 13,o 15 (.conv .u8 14),o 16 (.aC 4 1 1 [.int .u8 0] [(0,15)]),m 5 16] (k [1,5] (s (q [f 17 1 1,l 18 1 17,n 19 18,m 20 (i 0)] (k [5,18,19,20] (.block 0 (.loop (q [b 21 .lss 20 19] (s (h 21 .skip (.exit 0)) (k [5,18,19,20] (s (.block 1 (q [u 22 3 18 20,g 23 3 22,a 7 13 [j 0,j 0,j 0],r 3 7 23] (p [m 24 5,o 25 (.bo 3 1 7 (i 0)),l 26 1 25,o 27 (.conv .u8 26),o 28 (.bo 3 1 7 (i 1)),l 29 1 28,o 30 (.conv .u8 29),o 31 (.bo 3 1 7 (i 2)),l 32 1 31,o 33 (.conv .u8 32),o 34 (.aC 4 1 3 [.int .u8 0] [(0,27),(1,30),(2,33)]),o 35 (.app 4 1 24 34),m 5 35]))) (k [5,18,19,20] (p [b 36 .add 20 (i 1),m 20 36])))))))))) (k [5] (t [m 37 5,m 2 37,m 3 (i 0)]))))))⟩
structure N82 (R:Env):Prop where
 o82:R.Fn 82 c82
 M8:YQ R
end Go.UM
namespace Go.UM
open Go.AM
open Z
def U4:bt:=Nf ⟨2,[3],q [m 3 (.k (.bool false))] (q [m 4 0,b 5 .lss 4 (i 0),m 6 5,⟨some 7,some (6,false),.mv 0⟩,⟨some 8,some (6,false),.load false 1 1⟩,⟨some 9,some (6,false),.bin .gtr 7 8⟩,w 10 6 (.k (.bool true)) 9,m 3 10] (k [3] .ret))⟩
structure Pn (R:Env):Prop where
 aa4:R.Fn 322 U4
def U5:bt:=Nf ⟨2,[4],q [x 2 10 0,m 4 (.k (.bool false))] (t [m 5 1,o 6 (.RP 322 [2]),c 7 323 [5,6],m 4 7])⟩
structure KK (R:Env):Prop where
 HD:R.Fn 307 U5
 n322:Pn R
 n323:OL R
def U6:bt:=Nf ⟨1,[2],q [x 1 40 0,m 2 (i 0)] (s (q [f 3 0 1,l 4 1 3,o 5 (.aC 10 1 1 [j 0] [(0,4)]),c 6 307 [i 4,5],m 7 6,⟨some 8,some (7,false),.aB 1 1⟩,⟨some 9,some (7,false),.bo 3 1 8 (i 0)⟩,⟨some 10,some (7,false),.load false 1 9⟩,⟨some 11,some (7,false),.aB 1 1⟩,⟨some 12,some (7,false),.bo 3 1 11 (i 1)⟩,⟨some 13,some (7,false),.load false 1 12⟩,⟨some 14,some (7,false),.aB 1 1⟩,⟨some 15,some (7,false),.bo 3 1 14 (i 2)⟩,⟨some 16,some (7,false),.load false 1 15⟩,⟨some 17,some (7,false),.aB 4 1⟩,⟨some 18,some (7,false),.load false 1 17⟩,⟨some 19,some (7,false),.aC 10 1 4 [j 0] [(0,10),(1,13),(2,16),(3,18)]⟩,⟨some 20,some (7,false),.call 307 [i 65535,19]⟩,w 21 7 (.k (.bool true)) 20] (k [21] (h 21 (t [m 2 (i 5)]) .skip))) (k [] (t [m 2 (i 0)])))⟩
structure Po (R:Env):Prop where
 U7:R.Fn 290 U6
 n307:KK R
def U8:bt:=Nf ⟨1,[2],q [x 1 26 0,m 2 (.k (.bool false))] (q [f 3 0 1,l 4 1 3,f 5 1 1,l 6 1 5,f 7 2 1,l 8 1 7,o 9 (.mm true [4,6,8]),b 10 .gtr 9 (i 4096),m 11 10,⟨some 12,some (11,false),.aB 0 1⟩,⟨some 13,some (11,false),.load false 1 12⟩,⟨some 14,some (11,false),.aB 1 1⟩,⟨some 15,some (11,false),.load false 1 14⟩,⟨some 16,some (11,false),.aB 2 1⟩,⟨some 17,some (11,false),.load false 1 16⟩,⟨some 18,some (11,false),.mm false [13,15,17]⟩,⟨some 19,some (11,false),.bin .lss 18 (i (-4096))⟩,w 20 11 (.k (.bool true)) 19,m 2 20] (k [2] .ret))⟩
structure Pp (R:Env):Prop where
 KM:R.Fn 308 U8
def U9:bt:=Nf ⟨1,[2],q [x 1 41 0,m 2 (i 0)] (q [m 3 (.f 308)] (q [o 5 (.build [j 0,j 0,j 0] []),a 4 26 [j 0,j 0,j 0],r 3 4 5] (s (.block 0 (q [f 7 0 1,l 8 1 7,o 9 (.aC 10 1 1 [j 0] [(0,8)]),c 10 307 [i 2,9],m 11 10,⟨some 12,some (11,false),.aB 1 1⟩,⟨some 13,some (11,false),.NW 3 1 12 none none none⟩,⟨some 14,some (11,false),.call 307 [i 1048576,13]⟩,w 15 11 (.k (.bool true)) 14,m 6 15] (k [1,3,4,6] (h 6 (t [m 2 (i 5)]) (q [m 17 3,f 18 4 1,g 19 3 18,o 20 (.gI 17 [19]),m 21 20,⟨some 22,some (21,false),.mv 3⟩,⟨some 23,some (21,false),.aB 7 1⟩,⟨some 24,some (21,false),.load true 3 23⟩,⟨some 25,some (21,false),.gI 22 [24]⟩,w 26 21 (.k (.bool true)) 25,m 27 26,⟨some 28,some (27,false),.mv 3⟩,⟨some 29,some (27,false),.aB 10 1⟩,⟨some 30,some (27,false),.load true 3 29⟩,⟨some 31,some (27,false),.gI 28 [30]⟩,w 32 27 (.k (.bool true)) 31,m 16 32] (k [1,4,16] (h 16 (t [m 2 (i 8)]) .skip))))))) (k [1,4] (s (q [f 33 0 1,l 34 1 33] (.block 1 (s (.block 3 (s (.block 2 (s (s (q [b 36 .eql 34 (i 2),m 35 36] (h 35 (.exit 2) .skip)) (y [1,4,34] [b 38 .eql 34 (i 0),m 37 38] (h 37 (.exit 3) .skip))) (k [] (.exit 1)))) (y [1,4] [f 39 4 1,g 40 3 39,g 41 3 4,o 42 (.sT true [.i,.i,.i] 40 41)] (h 42 (t [m 2 (i 5)]) .skip)))) (k [1,4] (s (q [f 43 7 1,g 44 3 43,g 45 3 4,o 46 (.sT true [.i,.i,.i] 44 45),m 47 46,⟨some 48,some (47,false),.aB 10 1⟩,⟨some 49,some (47,false),.load true 3 48⟩,⟨some 50,some (47,false),.load true 3 4⟩,⟨some 51,some (47,false),.sT true [.i,.i,.i] 49 50⟩,w 52 47 (.k (.bool true)) 51] (k [52] (h 52 (t [m 2 (i 5)]) .skip))) (k [] (.exit 1))))))) (k [] (t [m 2 (i 0)])))))))⟩
structure Pq (R:Env):Prop where
 U':R.Fn 292 U9
 n307:KK R
 n308:Pp R
def Va:bt:=Nf ⟨2,[4],q [m 4 (.k (.bool false))] (s (q [m 6 0,n 7 6,m 8 1,n 9 8,b 10 .neq 7 9] (k [0,1,10] (h 10 (t [m 4 (.k (.bool false))]) .skip))) (k [0,1] (s (q [m 11 0,n 12 11,m 13 (i 0)] (k [0,1,12,13] (.block 0 (.loop (q [b 14 .lss 13 12] (s (h 14 .skip (.exit 0)) (k [0,1,12,13] (s (.block 1 (q [m 15 13,m 5 15] (s (.draw [0,0,3,7,0,0,48,112,255] [[0],[5],[16,17],[18],[1],[5],[20,21],[22],[19,23]] [m 16 0,m 17 5,u 18 3 16 17,g 19 3 18,m 20 1,m 21 5,u 22 3 20 21,g 23 3 22,o 24 (.sT true [.i,.i,.i] 19 23)]) (k [0,1,12,13,24] (h 24 (t [m 4 (.k (.bool false))]) .skip))))) (k [0,1,12,13] (p [b 25 .add 13 (i 1),m 13 25])))))))))) (k [] (t [m 4 (.k (.bool true))])))))⟩
structure Pr (R:Env):Prop where
 Vb:R.Fn 315 Va
def Vc:bt:=Nf ⟨2,[4],q [m 4 (.k (.bool false))] (s (q [m 6 0,n 7 6,m 8 1,n 9 8,b 10 .neq 7 9] (k [0,1,10] (h 10 (t [m 4 (.k (.bool false))]) .skip))) (k [0,1] (s (q [m 11 0,n 12 11,m 13 (i 0)] (k [0,1,12,13] (.block 0 (.loop (q [b 14 .lss 13 12] (s (h 14 .skip (.exit 0)) (k [0,1,12,13] (s (.block 1 (q [m 15 13,m 5 15] (s (.draw [0,0,3,7,0,0,48,112,255] [[0],[5],[16,17],[18],[1],[5],[20,21],[22],[19,23]] [m 16 0,m 17 5,u 18 2 16 17,g 19 2 18,m 20 1,m 21 5,u 22 2 20 21,g 23 2 22,o 24 (.sT true [.i,.i] 19 23)]) (k [0,1,12,13,24] (h 24 (t [m 4 (.k (.bool false))]) .skip))))) (k [0,1,12,13] (p [b 25 .add 13 (i 1),m 13 25])))))))))) (k [] (t [m 4 (.k (.bool true))])))))⟩
structure Ps (R:Env):Prop where
 Vd:R.Fn 316 Vc
def Ve:bt:=Nf ⟨2,[4],q [m 4 (.k (.bool false))] (s (q [m 6 0,n 7 6,m 8 1,n 9 8,b 10 .neq 7 9] (k [0,1,10] (h 10 (t [m 4 (.k (.bool false))]) .skip))) (k [0,1] (s (q [m 11 0,n 12 11,m 13 (i 0)] (k [0,1,12,13] (.block 0 (.loop (q [b 14 .lss 13 12] (s (h 14 .skip (.exit 0)) (k [0,1,12,13] (s (.block 1 (q [m 15 13,m 5 15] (s (.draw [0,0,3,7,0,0,48,112,255] [[0],[5],[16,17],[18],[1],[5],[20,21],[22],[19,23]] [m 16 0,m 17 5,u 18 3 16 17,g 19 3 18,m 20 1,m 21 5,u 22 3 20 21,g 23 3 22,o 24 (.sT true [.i,.i,.i] 19 23)]) (k [0,1,12,13,24] (h 24 (t [m 4 (.k (.bool false))]) .skip))))) (k [0,1,12,13] (p [b 25 .add 13 (i 1),m 13 25])))))))))) (k [] (t [m 4 (.k (.bool true))])))))⟩
structure Pt (R:Env):Prop where
 Pu:R.Fn 317 Ve
def Vf:bt:=Nf ⟨2,[4],q [x 2 39 0,x 3 39 1,m 4 (.k (.bool false))] (s (q [f 5 0 2,l 6 1 5,f 7 0 3,l 8 1 7,b 9 .neq 6 8,m 10 9,⟨some 11,some (10,false),.aB 6 2⟩,⟨some 12,some (10,false),.load true 5 11⟩,⟨some 13,some (10,false),.aB 6 3⟩,⟨some 14,some (10,false),.load true 5 13⟩,⟨some 15,some (10,false),.sT true [.i,.i,.i,.i,.i] 12 14⟩,w 16 10 (.k (.bool true)) 15,m 17 16,⟨some 18,some (17,false),.aB 11 2⟩,⟨some 19,some (17,false),.load true 13 18⟩,⟨some 20,some (17,false),.aB 11 3⟩,⟨some 21,some (17,false),.load true 13 20⟩,⟨some 22,some (17,false),.sT true [.i,.i,.i,.i,.i,.i,.i,.i,.i,.i,.i,.i,.i] 19 21⟩,w 23 17 (.k (.bool true)) 22,m 24 23,⟨some 25,some (24,false),.aB 4 2⟩,⟨some 26,some (24,false),.aB 0 25⟩,⟨some 27,some (24,false),.load false 1 26⟩,⟨some 28,some (24,false),.aB 4 3⟩,⟨some 29,some (24,false),.aB 0 28⟩,⟨some 30,some (24,false),.load false 1 29⟩,⟨some 31,some (24,false),.bin .neq 27 30⟩,w 32 24 (.k (.bool true)) 31] (k [2,3,32] (h 32 (t [m 4 (.k (.bool false))]) .skip))) (y [2,3] [f 33 1 2,f 34 0 33,l 35 1 34,f 36 1 3,f 37 0 36,l 38 1 37,c 39 315 [35,38],m 40 39,⟨some 41,some (40,true),.aB 1 2⟩,⟨some 42,some (40,true),.aB 1 41⟩,⟨some 43,some (40,true),.load false 1 42⟩,⟨some 44,some (40,true),.aB 1 3⟩,⟨some 45,some (40,true),.aB 1 44⟩,⟨some 46,some (40,true),.load false 1 45⟩,⟨some 47,some (40,true),.call 316 [43,46]⟩,w 48 40 47 (.k (.bool false)),m 49 48,⟨some 50,some (49,true),.aB 1 2⟩,⟨some 51,some (49,true),.aB 2 50⟩,⟨some 52,some (49,true),.load false 1 51⟩,⟨some 53,some (49,true),.aB 1 3⟩,⟨some 54,some (49,true),.aB 2 53⟩,⟨some 55,some (49,true),.load false 1 54⟩,⟨some 56,some (49,true),.call 317 [52,55]⟩,w 57 49 56 (.k (.bool false)),m 58 57,⟨some 59,some (58,true),.aB 4 2⟩,⟨some 60,some (58,true),.aB 1 59⟩,⟨some 61,some (58,true),.load false 1 60⟩,⟨some 62,some (58,true),.aB 4 3⟩,⟨some 63,some (58,true),.aB 1 62⟩,⟨some 64,some (58,true),.load false 1 63⟩,⟨some 65,some (58,true),.call 317 [61,64]⟩,w 66 58 65 (.k (.bool false)),m 4 66] (k [4] .ret)))⟩
structure Pv (R:Env):Prop where
 Vg:R.Fn 298 Vf
 n315:Pr R
 n316:Ps R
 n317:Pt R
def Vh:bt:=Nf ⟨1,[2],q [x 1 39 0,m 2 (i 0)] (s (q [f 3 0 1,l 4 1 3] (.block 0 (q [b 6 .eql 4 (i 1),m 5 6] (h 5 (t [f 7 1 1,g 8 3 7,c 9 193 [8],m 2 9]) (q [b 11 .eql 4 (i 2),m 10 11] (h 10 (t [f 12 4 1,g 13 2 12,c 14 84 [13],m 2 14]) (q [b 16 .eql 4 (i 3),m 15 16] (h 15 (t [f 17 6 1,g 18 5 17,c 19 290 [18],m 2 19]) (q [b 21 .eql 4 (i 4),m 20 21] (h 20 (t [f 22 11 1,g 23 13 22,c 24 292 [23],m 2 24]) .skip)))))))))) (k [] (t [m 2 (i 12)])))⟩
structure Pw (R:Env):Prop where
 Vi:R.Fn 309 Vh
 M8:YQ R
 n193:KJ R
 n290:Po R
 n292:Pq R
def Vj:bt:=Nf ⟨1,[.cell 2 true 24],q [x 1 39 0,a 2 39 Z4] (s (q [f 3 0 1,l 4 1 3] (.block 0 (q [b 6 .eql 4 (i 1),m 5 6] (h 5 (p [o 7 (.build [.ai,.ai,.ai] []),f 8 1 1,r 3 8 7]) (q [b 10 .eql 4 (i 2),m 9 10] (h 9 (p [o 11 (.build [j 0,.ai] []),f 12 4 1,r 2 12 11]) (q [b 14 .eql 4 (i 3),m 13 14] (h 13 (p [o 15 (.build [j 0,j 0,j 0,j 0,j 0] []),f 16 6 1,r 5 16 15]) (q [b 18 .eql 4 (i 4),m 17 18] (h 17 (p [o 19 (.build Z9 []),f 20 11 1,r 13 20 19]) .skip)))))))))) (k [1,2] (t [g 21 24 1,r 24 2 21])))⟩
structure Px (R:Env):Prop where
 Vk:R.Fn 310 Vj
def Vl:bt:=Nf ⟨1,[2],q [x 1 39 0,m 2 (.k .ai)] (s (q [f 16 0 1,l 17 1 16] (.block 0 (q [b 19 .eql 17 (i 1),m 18 19] (h 18 (q [f 21 1 1,g 22 3 21,c 23 196 [22],m 20 23,e 24 20 0,e 25 20 1,m 3 24,m 4 25] (k [3] (t [m 26 3,m 2 26]))) (q [b 28 .eql 17 (i 2),m 27 28] (h 27 (q [f 30 4 1,g 31 2 30,c 32 82 [31],m 29 32,e 33 29 0,e 34 29 1,m 5 33,m 6 34] (k [5] (t [m 35 5,m 2 35]))) (q [b 37 .eql 17 (i 3),m 36 37] (h 36 (q [f 38 6 1,g 39 5 38,a 7 40 [j 0,j 0,j 0,j 0,j 0],r 5 7 39] (q [f 40 0 7,l 41 1 40,o 42 (.conv .u8 41),o 43 (.aC 4 1 1 [.int .u8 0] [(0,42)]),m 8 43] (k [7,8] (s (q [f 44 1 7,o 45 (.bo 3 1 44 (i 0)),l 46 1 45,f 47 1 7,o 48 (.bo 3 1 47 (i 1)),l 49 1 48,f 50 1 7,o 51 (.bo 3 1 50 (i 2)),l 52 1 51,f 53 4 7,l 54 1 53,o 55 (.aC 10 1 4 [j 0] [(0,46),(1,49),(2,52),(3,54)]),n 56 55,m 57 (i 0)] (k [8,55,56,57] (.block 1 (.loop (q [b 58 .lss 57 56] (s (h 58 .skip (.exit 1)) (k [8,55,56,57] (s (.block 2 (q [u 59 1 55 57,l 60 1 59,m 10 60] (p [m 62 8,m 63 10,o 64 (.conv .u64 63),o 65 (.aC 6 1 1 [.int .u64 0] [(0,64)]),c 66 54 [62,i 2,65],m 61 66,e 67 61 0,e 68 61 1,m 8 67]))) (k [8,55,56,57] (p [b 69 .add 57 (i 1),m 57 69])))))))))) (k [8] (t [m 70 8,m 2 70])))))) .skip)))))))) (y [1] [f 71 11 1,g 72 13 71,a 11 41 Z9,r 13 11 72] (q [f 74 0 11,l 75 1 74,o 76 (.conv .u8 75),o 77 (.aC 4 1 1 [.int .u8 0] [(0,76)]),f 78 1 11,o 79 (.bo 3 1 78 (i 0)),l 80 1 79,o 81 (.conv .u64 80),f 82 1 11,o 83 (.bo 3 1 82 (i 1)),l 84 1 83,o 85 (.conv .u64 84),f 86 1 11,o 87 (.bo 3 1 86 (i 2)),l 88 1 87,o 89 (.conv .u64 88),o 90 (.aC 6 1 3 [.int .u64 0] [(0,81),(1,85),(2,89)]),c 91 54 [77,i 4,90],m 73 91,e 92 73 0,e 93 73 1,m 12 92,m 13 93] (k [11,12] (s (q [f 94 4 11,g 95 3 94,f 96 7 11,g 97 3 96,f 98 10 11,g 99 3 98,o 100 (.aC 26 3 3 [j 0,j 0,j 0] [(0,95),(1,97),(2,99)]),n 101 100,m 102 (i 0)] (k [12,100,101,102] (.block 3 (.loop (q [b 103 .lss 102 101] (s (h 103 .skip (.exit 3)) (k [12,100,101,102] (s (.block 4 (q [u 104 3 100 102,g 105 3 104,a 15 26 [j 0,j 0,j 0],r 3 15 105] (p [m 107 12,f 108 0 15,l 109 1 108,f 110 1 15,l 111 1 110,f 112 2 15,l 113 1 112,o 114 (.aC 10 1 3 [j 0] [(0,109),(1,111),(2,113)]),c 115 71 [107,i 2,114],m 106 115,e 116 106 0,e 117 106 1,m 12 116]))) (k [12,100,101,102] (p [b 118 .add 102 (i 1),m 102 118])))))))))) (k [12] (t [m 119 12,m 2 119])))))))⟩
structure Py (R:Env):Prop where
 Vm:R.Fn 311 Vl
 Jt:Pg R
 RY:UV R
 YR:N82 R
 n196:Pm R
def Vn:bt:=Nf ⟨1,[2],q [x 1 39 0,m 2 (i 0)] (s (q [g 4 24 1,c 5 309 [4],m 3 5] (q [m 6 3,b 7 .neq 6 (i 0)] (h 7 (t [m 8 3,m 2 8]) .skip))) (k [1] (s (s (.draw [0,1,0,4,12,31,63] [[1],[9],[1],[11],[12],[10,13],[14]] [g 9 24 1,c 10 310 [9],f 11 0 1,l 12 1 11,o 13 (.build Z4 [(0,1,12)]),c 14 298 [10,13],o 15 (.un .not 14)]) (k [1,15] (h 15 (t [m 2 (i 5)]) .skip))) (k [1] (s (s (.draw [0,1,3,0,8,27,63] [[1],[16],[17],[1],[19],[20],[18,21]] [g 16 24 1,c 17 311 [16],n 18 17,f 19 0 1,l 20 1 19,c 21 37 [20],b 22 .gtr 18 21]) (k [22] (h 22 (t [m 2 (i 9)]) .skip))) (k [] (t [m 2 (i 0)])))))))⟩
structure PA (R:Env):Prop where
 Vo:R.Fn 294 Vn
 n37:N37 R
 n298:Pv R
 n309:Pw R
 n310:Px R
 n311:Py R
end Go.UM
namespace Go.UM
open Go.AM
open Z
def c16:bt:=Nf ⟨3,[6],q [m 6 (.k (.int .u32 0))] (s (q [m 9 1,n 10 9,m 11 (i 0)] (k [0,2,9,10,11] (.block 0 (.loop (q [b 12 .lss 11 10] (s (h 12 .skip (.exit 0)) (k [0,2,9,10,11] (s (.block 1 (q [u 13 1 9 11,l 14 1 13,m 8 14] (p [m 15 2,m 16 0,m 17 8,o 18 (.gI 15 [16,17]),m 0 18]))) (k [0,2,9,10,11] (p [b 19 .add 11 (i 1),m 11 19])))))))))) (k [0] (t [m 20 0,m 6 20])))⟩
structure N16 (R:Env):Prop where
 o16:R.Fn 16 c16
def c17:bt:=Nf ⟨2,[4],q [m 4 (.k (.int .u32 0))] (t [m 5 0,m 6 1,b 7 .or 5 6,m 4 7])⟩
structure YS (R:Env):Prop where
 o17:R.Fn 17 c17
def c4:bt:=Nf ⟨1,[2],q [m 2 (.k (.int .u32 0))] (t [m 3 0,c 4 16 [.k (.int .u32 0),3,.f 17],m 2 4])⟩
structure N4 (R:Env):Prop where
 o4:R.Fn 4 c4
 n16:N16 R
 n17:YS R
def c11:bt:=Nf ⟨2,[4],q [x 2 1 0,m 4 (.k (.int .u8 0))] (s (q [m 5 1,b 6 .lss 5 (i 0),m 7 6,⟨some 8,some (7,false),.mv 1⟩,⟨some 9,some (7,false),.bin .geq 8 (i 8)⟩,w 10 7 (.k (.bool true)) 9] (k [1,2,10] (h 10 (t [m 4 (.k (.int .u8 0))]) .skip))) (k [1,2] (t [m 11 1,o 12 (.bo 8 1 2 11),l 13 1 12,m 4 13])))⟩
structure YT (R:Env):Prop where
 Vp:R.Fn 11 c11
def c12:bt:=Nf ⟨2,[4],q [x 2 1 0,m 4 (.k (.bool false))] (q [g 5 8 2,m 6 1,c 7 11 [5,6],b 8 .neq 7 (.k (.int .u8 0)),m 4 8] (k [4] .ret))⟩
structure N12 (R:Env):Prop where
 o12:R.Fn 12 c12
 n11:YT R
def c18:bt:=Nf ⟨3,[.cell 6 true 2],q [x 3 3 0,a 6 3 RX] (s (q [m 9 1,n 10 9,m 11 (i 0)] (k [2,3,6,9,10,11] (.block 0 (.loop (q [b 12 .lss 11 10] (s (h 12 .skip (.exit 0)) (k [2,3,6,9,10,11] (s (.block 1 (q [u 13 15 9 11,g 14 15 13,a 8 2 Z3,r 15 8 14] (p [m 15 2,g 16 2 3,g 17 15 8,o 18 (.gI 15 [16,17]),r 2 3 18]))) (k [2,3,6,9,10,11] (p [b 19 .add 11 (i 1),m 11 19])))))))))) (k [3,6] (t [g 20 2 3,r 2 6 20])))⟩
structure N18 (R:Env):Prop where
 o18:R.Fn 18 c18
def c19:bt:=Nf ⟨2,[.cell 4 true 2],q [x 2 3 0,x 3 2 1,a 4 3 RX] (q [o 5 (.bo 2 1 2 (i 0)),l 6 1 5,f 7 11 3,l 8 1 7,o 9 (.mm true [6,8]),o 10 (.bo 2 1 2 (i 1)),l 11 1 10,f 12 12 3,l 13 1 12,o 14 (.mm false [11,13]),o 15 (.build RX [(0,1,9),(1,1,14)]),r 2 4 15] (k [4] .ret))⟩
structure YU (R:Env):Prop where
 o19:R.Fn 19 c19
def c14:bt:=Nf ⟨3,[6,7],q [m 6 (.k (.int .u32 0)),m 7 (.k (.int .u32 0))] (q [m 9 0,m 10 1,o 11 (.build RX [(0,1,9),(1,1,10)]),m 12 2,c 13 18 [11,12,.f 19],a 8 3 RX,r 2 8 13] (k [8] (s (.draw [0,1,0,4,3,31] [[8],[14],[8],[16],[15],[17]] [o 14 (.bo 2 1 8 (i 0)),l 15 1 14,o 16 (.bo 2 1 8 (i 1)),l 17 1 16,m 6 15,m 7 17]) (k [6,7] .ret))))⟩
structure N14 (R:Env):Prop where
 o14:R.Fn 14 c14
 n18:N18 R
 n19:YU R
end Go.UM
namespace Go.UM
open Go.AM
open Z
def Vq:bt:=Nf ⟨0,[0],q [m 0 (.k .bP)] (q [o 1 (.N0 1 false true 41),o 2 (.N0 4 true true 16),o 3 (.build [.ce,.ce] [(0,1,1),(1,1,2)]),x 4 47 3,m 0 4] (k [0] .ret))⟩
structure KN (R:Env):Prop where
 aa':R.Fn 345 Vq
def Vr:bt:=Nf ⟨1,[2],q [m 2 (.k (.bool false))] (q [m 3 0,o 4 (.RO false 3),m 5 4,⟨some 6,some (5,false),.mv 0⟩,⟨some 7,some (5,false),.aM 6⟩,⟨some 8,some (5,false),.aB 0 7⟩,⟨some 9,some (5,false),.load false 1 8⟩,⟨some 10,some (5,false),.JP false 9⟩,w 11 5 (.k (.bool true)) 10,m 2 11] (k [2] .ret))⟩
structure xP (R:Env):Prop where
 aba:R.Fn 355 Vr
def Vs:bt:=Nf ⟨1,[.cell 2 true 24],q [x 1 39 0,a 2 39 Z4] (s (.draw [0,1,3,7,0,16,48,127,0,256,768,2047,4095,8191,16383] [[1],[3],[4],[5],[1],[7],[8],[9],[1],[11],[12],[13],[6,10,14],[1],[16,15]] [f 3 1 1,f 4 0 3,l 5 1 4,c 6 361 [5],f 7 1 1,f 8 1 7,l 9 1 8,c 10 362 [9],f 11 1 1,f 12 2 11,l 13 1 12,c 14 101 [13],o 15 (.build [.ai,.ai,.ai] [(0,1,6),(1,1,10),(2,1,14)]),f 16 1 1,r 3 16 15]) (y [1,2] [f 17 4 1,f 18 1 17,l 19 1 18,c 20 101 [19],f 21 4 1,f 22 1 21,r 1 22 20] (k [1,2] (t [g 23 24 1,r 24 2 23]))))⟩
structure KO (R:Env):Prop where
 KQ:R.Fn 356 Vs
 n101:Ko R
 KR:Kr R
 KT:Ks R
def Vt:bt:=Nf ⟨4,[8],q [x 6 2 2,x 7 39 3,m 8 (i 0)] (s (.block 0 (q [m 13 0,c 14 355 [13],m 12 14] (h 12 (t [m 8 (i 1)]) (q [m 16 1,b 17 .lss 16 (i 1),m 18 17,⟨some 19,some (18,false),.mv 1⟩,⟨some 20,some (18,false),.bin .gtr 19 (i 65536)⟩,w 21 18 (.k (.bool true)) 20,m 15 21] (k [0,1,6,7,15] (h 15 (t [m 8 (i 2)]) .skip)))))) (k [0,1,6,7] (s (q [m 23 0,o 24 (.aM 23),f 25 0 24,l 26 1 25,m 27 1,o 28 (.FQ [.i] false true (.agg Z2) true 26 27),m 22 28,e 29 22 0,e 30 22 1,a 9 45 Z2,r 40 9 29,m 10 30] (y [0,1,6,7,10] [m 31 10] (h 31 (t [m 8 (i 10)]) .skip))) (k [0,1,6,7] (s (q [g 32 24 7,c 33 294 [32],m 11 33] (q [m 34 11,b 35 .neq 34 (i 0)] (h 35 (t [m 36 11,m 8 36]) .skip))) (k [0,1,6,7] (s (q [f 37 1 6,l 38 1 37,f 39 0 7,l 40 1 39,b 41 .neq 38 40] (k [0,1,6,7,41] (h 41 (t [m 8 (i 12)]) .skip))) (k [0,1,6,7] (s (.draw [0,1,3,7,0,0,0,0,128,480,1023] [[0],[42],[43],[44],[1],[1],[6],[7],[49],[47,48,50],[45,46,51]] [m 42 0,o 43 (.aM 42),f 44 0 43,l 45 1 44,m 46 1,m 47 1,g 48 15 6,g 49 24 7,c 50 356 [49],o 51 (.build Z2 [(0,1,47),(1,15,48),(16,24,50)]),v (.GI [.i] false true 45 46 51)]) (k [] (t [m 8 (i 0)])))))))))))⟩
structure KU (R:Env):Prop where
 abb:R.Fn 346 Vt
 n294:PA R
 j9:xP R
 vk:KO R
def Vu:bt:=Nf ⟨2,[4],q [x 3 44 1,m 4 (i 0)] (q [m 5 (i 0)] (s (q [f 10 0 3,l 11 1 10,o 12 (.build [j 0,j 0] [(0,1,11),(1,1,i 1)]),f 13 1 3,l 14 1 13,o 15 (.build [j 0,j 0] [(0,1,14),(1,1,i 3)]),f 16 2 3,l 17 1 16,o 18 (.build [j 0,j 0] [(0,1,17),(1,1,i 2)]),o 19 (.aC 18 2 3 [j 0,j 0] [(0,12),(1,15),(2,18)]),n 20 19,m 21 (i 0)] (k [0,5,19,20,21] (.block 0 (.loop (q [b 22 .lss 21 20] (s (h 22 .skip (.exit 0)) (k [0,5,19,20,21] (s (.block 1 (q [u 23 2 19 21,g 24 2 23,a 7 18 [j 0,j 0],r 2 7 24] (s (.draw [0,1,3,7,0,16,63,127,255,255,0,1535,4095] [[0],[26],[27],[28],[7],[30],[29,31],[32],[25],[25],[],[8,33],[34]] [m 26 0,o 27 (.aM 26),f 28 0 27,l 29 1 28,o 30 (.bo 2 1 7 (i 0)),l 31 1 30,o 32 (.FQ [.i] false true (.agg Z2) true 29 31),m 25 32,e 33 25 0,e 34 25 1,a 8 45 Z2,r 40 8 33,m 9 34]) (k [0,5,7,8,9,19,20,21] (.block 2 (q [o 36 (.bo 2 1 7 (i 1)),l 37 1 36,b 38 .eql 37 (i 2),m 39 38,⟨some 40,some (39,true),.bo 2 1 7 (i 0)⟩,⟨some 41,some (39,true),.load false 1 40⟩,⟨some 42,some (39,true),.bin .eql 41 (i 0)⟩,w 43 39 42 (.k (.bool false)),m 35 43] (k [0,5,7,8,9,19,20,21,35] (h 35 .skip (q [m 45 9,o 46 (.un .not 45),m 44 46] (h 44 (t [m 4 (i 11)]) (q [f 48 1 8,f 49 1 48,l 50 1 49,o 51 (.bo 2 1 7 (i 1)),l 52 1 51,b 53 .neq 50 52,m 47 53] (k [0,5,19,20,21,47] (h 47 (p [m 5 (i 12)]) .skip))))))))))))) (k [0,5,19,20,21] (p [b 54 .add 21 (i 1),m 21 54])))))))))) (k [5] (t [m 55 5,m 4 55]))))⟩
structure PB (R:Env):Prop where
 abc:R.Fn 357 Vu
def Vv:bt:=Nf ⟨1,[.cell 2 true 4],q [x 1 44 0,a 2 49 [j 0,j 0,j 0,j 0]] (q [f 3 0 1,l 4 1 3,f 5 1 1,l 6 1 5,f 7 2 1,l 8 1 7,f 9 3 1,l 10 1 9,o 11 (.build [j 0,j 0,j 0,j 0] [(0,1,4),(1,1,6),(2,1,8),(3,1,10)]),r 4 2 11] (k [2] .ret))⟩
structure HE (R:Env):Prop where
 BF:R.Fn 358 Vv
def Vx:bt:=Nf ⟨2,[4],q [x 3 44 1,m 4 (i 0)] (s (.block 0 (q [m 13 0,c 14 355 [13],m 12 14] (h 12 (t [m 4 (i 1)]) (q [f 16 3 3,l 17 1 16,b 18 .lss 17 (i 0),m 19 18,⟨some 20,some (19,false),.aB 3 3⟩,⟨some 21,some (19,false),.load false 1 20⟩,⟨some 22,some (19,false),.bin .gtr 21 (i 65536)⟩,w 23 19 (.k (.bool true)) 22,m 15 23] (k [0,3,15] (h 15 (t [m 4 (i 2)]) .skip)))))) (k [0,3] (s (q [m 24 0,g 25 16 3,c 26 357 [24,25],m 5 26] (q [m 27 5,b 28 .neq 27 (i 0)] (h 28 (t [m 29 5,m 4 29]) .skip))) (k [0,3] (s (s (.draw [0,1,3,7,0,16,63,127,255,255,0,1535,4095] [[0],[31],[32],[33],[3],[35],[34,36],[37],[30],[30],[],[6,38],[39]] [m 31 0,o 32 (.aM 31),f 33 1 32,l 34 1 33,g 35 16 3,c 36 358 [35],o 37 (.FQ [.i,.i,.i,.i] true true (.agg Kn) true 34 36),m 30 37,e 38 30 0,e 39 30 1,a 6 33 Kn,r 12 6 38,m 7 39]) (y [0,3,7] [m 40 7] (h 40 (t [m 4 (i 10)]) .skip))) (k [0,3] (s (s (.draw [0,1,3,7,0,16,63,127,255,511,1023,0] [[0],[41],[42],[43],[3],[45],[44,46],[47],[48],[49],[50],[]] [m 41 0,o 42 (.aM 41),f 43 0 42,l 44 1 43,f 45 0 3,l 46 1 45,o 47 (.FQ [.i] false true (.agg Z2) false 44 46),o 48 (.GH true 16 24 47),o 49 (.GH true 1 3 48),o 50 (.GH false 0 1 49),n 51 50,m 52 (i 0)]) (k [0,3,50,51,52] (.block 1 (.loop (q [b 53 .lss 52 51] (s (h 53 .skip (.exit 1)) (k [0,3,50,51,52] (s (.block 2 (q [u 54 3 50 52,g 55 3 54,a 9 26 [j 0,j 0,j 0],r 3 9 55] (q [f 57 4 3,g 58 12 57,g 59 3 9,c 60 241 [58,59],m 56 60,e 61 56 0,e 62 56 1,a 10 26 [j 0,j 0,j 0],r 3 10 61,m 11 62] (y [0,3,11,50,51,52] [m 63 11,b 64 .neq 63 (i 0)] (h 64 (t [m 65 11,m 4 65]) .skip))))) (k [0,3,50,51,52] (p [b 66 .add 52 (i 1),m 52 66])))))))))) (k [0,3] (s (.draw [0,1,3,7,0,16,0,64,255] [[0],[67],[68],[69],[3],[71],[3],[73],[70,72,74]] [m 67 0,o 68 (.aM 67),f 69 1 68,l 70 1 69,g 71 16 3,c 72 358 [71],f 73 4 3,g 74 12 73,v (.GI [.i,.i,.i,.i] true true 70 72 74)]) (k [] (t [m 4 (i 0)])))))))))))⟩
structure KV (R:Env):Prop where
 abd:R.Fn 347 Vx
 n241:KI R
 j9:xP R
 PC:PB R
 lX:HE R
def Vy:bt:=Nf ⟨1,[2],q [m 2 (.k .ai)] (s (q [m 7 0,c 8 355 [7]] (h 8 (t [m 2 (.k .ai)]) .skip)) (y [0] [m 3 (.k .ai)] (s (q [m 9 0,o 10 (.aM 9),f 11 0 10,l 12 1 11,c 13 433 [12],c 14 434 [13],n 15 14,m 16 (i 0)] (k [0,3,14,15,16] (.block 0 (.loop (q [b 17 .lss 16 15] (s (h 17 .skip (.exit 0)) (k [0,3,14,15,16] (s (.block 1 (q [u 18 1 14 16,l 19 1 18,m 5 19] (q [m 20 0,o 21 (.aM 20),f 22 0 21,l 23 1 22,m 24 5,o 25 (.FQ [.i] false true (.agg Z2) false 23 24),a 6 45 Z2,r 40 6 25] (y [0,3,6,14,15,16] [f 26 16 6,g 27 24 26,c 28 356 [27],f 29 16 6,r 24 29 28] (k [0,3,6,14,15,16] (p [m 30 3,g 31 40 6,o 32 (.aC 45 40 1 Z2 [(0,31)]),o 33 (.app 45 40 30 32),m 3 33])))))) (k [0,3,14,15,16] (p [b 34 .add 16 (i 1),m 16 34])))))))))) (k [3] (t [m 35 3,m 2 35])))))⟩
structure PD (R:Env):Prop where
 abe:R.Fn 418 Vy
 j9:xP R
 vk:KO R
 PE:OM R
 PF:TZ R
def Vz:bt:=Nf ⟨2,[4],q [x 2 49 0,x 3 49 1,m 4 (i 0)] (s (.draw [0,1,0,4,15,0,32,0,128,511,0,1024,0,4096,16383,0,32768,0,131072,524287,1048575,2097151,4194303] [[2],[5],[3],[7],[6,8],[2],[10],[3],[12],[11,13],[2],[15],[3],[17],[16,18],[2],[20],[3],[22],[21,23],[9,14,19,24],[25],[26]] [f 5 0 2,l 6 1 5,f 7 0 3,l 8 1 7,c 9 451 [6,8],f 10 1 2,l 11 1 10,f 12 1 3,l 13 1 12,c 14 451 [11,13],f 15 2 2,l 16 1 15,f 17 2 3,l 18 1 17,c 19 451 [16,18],f 20 3 2,l 21 1 20,f 22 3 3,l 23 1 22,c 24 451 [21,23],o 25 (.aC 10 1 4 [j 0] [(0,9),(1,14),(2,19),(3,24)]),c 26 452 [25],m 4 26]) (k [4] .ret))⟩
structure PG (R:Env):Prop where
 VA:R.Fn 450 Vz
 vm:OP R
 KW:OQ R
def VB:bt:=Nf ⟨2,[4],q [x 2 44 0,x 3 44 1,m 4 (i 0)] (s (.draw [0,1,0,7,15,31] [[2],[5],[3],[7],[6,8],[9]] [g 5 16 2,c 6 358 [5],g 7 16 3,c 8 358 [7],c 9 450 [6,8],m 4 9]) (k [4] .ret))⟩
structure PH (R:Env):Prop where
 abf:R.Fn 436 VB
 lX:HE R
 KX:PG R
def VC:bt:=Nf ⟨1,[2],q [m 2 (.k .ai)] (s (q [m 6 0,c 7 355 [6]] (h 7 (t [m 2 (.k .ai)]) .skip)) (y [0] [m 3 (.k .ai)] (s (q [m 8 0,o 9 (.aM 8),f 10 1 9,l 11 1 10,o 12 (.N3 11)] (k [3,12] (.block 0 (.loop (q [o 13 (.RQ 12),e 14 13 0] (s (h 14 .skip (.exit 0)) (k [3,12] (.block 1 (q [o 15 (.JB 12),e 16 15 0,e 17 15 1,a 4 49 [j 0,j 0,j 0,j 0],a 5 33 Kn,r 4 4 16,r 12 5 17] (k [3,4,5,12] (p [m 18 3,f 19 0 4,l 20 1 19,f 21 1 4,l 22 1 21,f 23 2 4,l 24 1 23,f 25 3 4,l 26 1 25,g 27 12 5,o 28 (.build Z8 [(0,1,20),(1,1,22),(2,1,24),(3,1,26),(4,12,27)]),o 29 (.aC 44 16 1 Z8 [(0,28)]),o 30 (.app 44 16 18 29),m 3 30]))))))))))) (y [3] [m 31 3,c 32 435 [31,.f 436]] (t [m 33 3,m 2 33])))))⟩
structure PI (R:Env):Prop where
 abg:R.Fn 419 VC
 j9:xP R
 KY:T0 R
 PJ:PH R
def VD:bt:=Nf ⟨2,[4],q [x 3 44 1,m 4 (i 0)] (s (q [m 7 0,c 8 355 [7]] (h 8 (t [m 4 (i 1)]) .skip)) (k [0,3] (s (s (.draw [0,1,3,7,0,16,63,127,255,255,0,1535,4095] [[0],[10],[11],[12],[3],[14],[13,15],[16],[9],[9],[],[5,17],[18]] [m 10 0,o 11 (.aM 10),f 12 1 11,l 13 1 12,g 14 16 3,c 15 358 [14],o 16 (.FQ [.i,.i,.i,.i] true true (.agg Kn) true 13 15),m 9 16,e 17 9 0,e 18 9 1,a 5 33 Kn,r 12 5 17,m 6 18]) (y [0,3,6] [m 19 6,o 20 (.un .not 19)] (h 20 (t [m 4 (i 11)]) .skip))) (k [0,3] (s (.draw [0,1,3,7,0,16,63] [[0],[21],[22],[23],[3],[25],[24,26]] [m 21 0,o 22 (.aM 21),f 23 1 22,l 24 1 23,g 25 16 3,c 26 358 [25],v (.MN [.i,.i,.i,.i] true 24 26)]) (k [] (t [m 4 (i 0)])))))))⟩
structure PK (R:Env):Prop where
 abh:R.Fn 427 VD
 j9:xP R
 lX:HE R
def VE:bt:=Nf ⟨3,[5],q [x 3 49 0,x 4 33 1,m 5 (.k (.bool false))] (q [f 6 0 3,l 7 1 6,l 8 1 2,b 9 .eql 7 8,m 10 9,⟨some 11,some (10,false),.aB 1 3⟩,⟨some 12,some (10,false),.load false 1 11⟩,⟨some 13,some (10,false),.load false 1 2⟩,⟨some 14,some (10,false),.bin .eql 12 13⟩,w 15 10 (.k (.bool true)) 14,m 16 15,⟨some 17,some (16,false),.aB 2 3⟩,⟨some 18,some (16,false),.load false 1 17⟩,⟨some 19,some (16,false),.load false 1 2⟩,⟨some 20,some (16,false),.bin .eql 18 19⟩,w 21 16 (.k (.bool true)) 20,m 5 21] (k [5] .ret))⟩
structure KZ (R:Env):Prop where
 abi:R.Fn 437 VE
def VF:bt:=Nf ⟨2,[4],q [x 3 10 1,m 4 (i 0)] (s (q [m 7 0,c 8 355 [7]] (h 8 (t [m 4 (i 1)]) .skip)) (k [0,3] (s (s (.draw [0,1,3,7,0,31,63,127,127,0,767,2047] [[0],[10],[11],[12],[3],[13,14],[15],[9],[9],[],[5,16],[17]] [m 10 0,o 11 (.aM 10),f 12 0 11,l 13 1 12,l 14 1 3,o 15 (.FQ [.i] false true (.agg Z2) true 13 14),m 9 15,e 16 9 0,e 17 9 1,a 5 45 Z2,r 40 5 16,m 6 17]) (y [0,3,6] [m 18 6,o 19 (.un .not 18)] (h 19 (t [m 4 (i 11)]) .skip))) (k [0,3] (s (.draw [0,1,3,7,0,31] [[0],[20],[21],[22],[3],[23,24]] [m 20 0,o 21 (.aM 20),f 22 0 21,l 23 1 22,l 24 1 3,v (.MN [.i] false 23 24)]) (y [0,3] [m 25 0,o 26 (.aM 25),f 27 1 26,l 28 1 27,o 29 (.RP 437 [3]),c 30 438 [28,29]] (k [] (t [m 4 (i 0)]))))))))⟩
structure PL (R:Env):Prop where
 abj:R.Fn 428 VF
 j9:xP R
 PM:KZ R
 PN:OR R
def VG:bt:=Nf ⟨1,[2],q [m 2 (.k .bP)] (s (q [m 3 0,c 4 355 [3]] (h 4 (t [m 2 (.k .bP)]) .skip)) (k [0] (s (.draw [0,1,3,7,15,0,32,96,224,511,1023,2047,4095] [[0],[5],[6],[7],[8],[0],[10],[11],[12],[13],[9,14],[15],[16]] [m 5 0,o 6 (.aM 5),f 7 0 6,l 8 1 7,c 9 439 [8],m 10 0,o 11 (.aM 10),f 12 1 11,l 13 1 12,c 14 440 [13],o 15 (.build [.ce,.ce] [(0,1,9),(1,1,14)]),x 16 47 15,m 2 16]) (k [2] .ret))))⟩
structure PO (R:Env):Prop where
 abk:R.Fn 430 VG
 j9:xP R
 PP:T9 R
 PQ:T' R
end Go.UM
namespace Go.UM
open Go.AM
open Z
def VH:bt:=Nf ⟨3,[],q [m 8 0,o 9 (.aM 8),f 10 0 9,f 11 8 10,r 1 11 (.k (.int .u32 4294967295))] (y [0,1,2] [m 12 1,n 13 12,m 14 (i 0)] (k [0,2,12,13,14] (.block 0 (.loop (q [b 15 .lss 14 13] (s (h 15 .skip (.exit 0)) (k [0,2,12,13,14] (s (.block 1 (q [u 16 40 12 14,g 17 40 16,a 7 45 Z2,r 40 7 17] (s (q [f 18 1 7,f 19 3 18,g 20 8 19,m 21 2,c 22 12 [20,21],o 23 (.un .not 22)] (k [0,2,7,12,13,14,23] (h 23 (.exit 1) .skip))) (k [0,2,7,12,13,14] (s (.draw [0,1,3,7,0,16,0,64,192,448,960,1984,4095] [[0],[24],[25],[26],[7],[28],[0],[30],[31],[32],[33],[34],[27,29,35]] [m 24 0,o 25 (.aM 24),f 26 10 25,l 27 1 26,f 28 0 7,l 29 1 28,m 30 0,o 31 (.aM 30),f 32 0 31,f 33 4 32,l 34 1 33,n 35 34,v (.GI [.i] false false 27 29 35)]) (k [0,2,7,12,13,14] (s (.draw [0,0,2,6,14,30,0,64,192,448,1022,2047,4095,8191,16383] [[0],[0],[37],[38],[39],[40],[7],[42],[43],[44],[41,45],[36],[47],[48],[49,46]] [m 36 0,m 37 0,o 38 (.aM 37),f 39 0 38,f 40 4 39,l 41 1 40,f 42 1 7,f 43 0 42,l 44 1 43,o 45 (.aC 6 1 1 [.int .u64 0] [(0,44)]),o 46 (.app 6 1 41 45),o 47 (.aM 36),f 48 0 47,f 49 4 48,r 1 49 46]) (k [0,2,7,12,13,14] (s (.draw [0,0,2,6,14,30,0,64,192,448,1022,2047,4095,8191,16383] [[0],[0],[51],[52],[53],[54],[7],[56],[57],[58],[55,59],[50],[61],[62],[63,60]] [m 50 0,m 51 0,o 52 (.aM 51),f 53 0 52,f 54 5 53,l 55 1 54,f 56 1 7,f 57 2 56,l 58 1 57,o 59 (.aC 0 1 1 [.int .u32 0] [(0,58)]),o 60 (.app 0 1 55 59),o 61 (.aM 50),f 62 0 61,f 63 5 62,r 1 63 60]) (k [0,2,7,12,13,14] (s (.draw [0,0,2,6,14,30,0,64,192,510,1022,2047,4095,8191,16383] [[0],[0],[65],[66],[67],[68],[7],[70],[71],[69,72],[73],[64],[75],[76],[77,74]] [m 64 0,m 65 0,o 66 (.aM 65),f 67 0 66,f 68 6 67,l 69 1 68,f 70 1 7,f 71 2 70,l 72 1 71,o 73 (.aC 0 1 2 [.int .u32 0] [(0,69),(1,72)]),c 74 4 [73],o 75 (.aM 64),f 76 0 75,f 77 6 76,r 1 77 74]) (k [0,2,7,12,13,14] (s (.draw [0,0,0,4,12,28,60,0,128,384,896,1920,0,4096,12288,32764,65532,131068,131068,262141,786429,1835005,3932157,8388607,16777215,33554431,67108863] [[0],[0],[0],[81],[82],[83],[84],[0],[86],[87],[88],[89],[7],[91],[92],[85,90,93],[94],[78],[78],[79],[97],[98],[99,95],[80],[100],[101],[102,96]] [m 79 0,m 80 0,m 81 0,o 82 (.aM 81),f 83 0 82,f 84 7 83,l 85 1 84,m 86 0,o 87 (.aM 86),f 88 0 87,f 89 8 88,l 90 1 89,f 91 1 7,g 92 15 91,o 93 (.aC 2 15 1 Z3 [(0,92)]),c 94 14 [85,90,93],m 78 94,e 95 78 0,e 96 78 1,o 97 (.aM 79),f 98 0 97,f 99 7 98,r 1 99 95,o 100 (.aM 80),f 101 0 100,f 102 8 101,r 1 102 96]) (y [0,2,7,12,13,14] [f 103 16 7,f 104 0 103,l 105 1 104] (.block 2 (q [b 107 .eql 105 (i 1),m 106 107] (h 106 (.draw [0,1,3,7,0,16,0,127] [[0],[108],[109],[110],[7],[112],[7],[111,113,114]] [m 108 0,o 109 (.aM 108),f 110 9 109,l 111 1 110,f 112 0 7,l 113 1 112,g 114 40 7,v (.GI [.i] false true 111 113 114)]) (q [b 116 .eql 105 (i 3),m 115 116] (h 115 (s (.draw [0,1,3,7,0,16,0,64,192,448,960,1984,4095] [[0],[117],[118],[119],[7],[121],[0],[123],[124],[125],[126],[127],[120,122,128]] [m 117 0,o 118 (.aM 117),f 119 11 118,l 120 1 119,f 121 0 7,l 122 1 121,m 123 0,o 124 (.aM 123),f 125 0 124,f 126 1 125,l 127 1 126,n 128 127,v (.GI [.i] false false 120 122 128)]) (k [0,2,7,12,13,14] (.draw [0,0,2,6,14,30,0,64,192,448,1022,2047,4095,8191,16383] [[0],[0],[130],[131],[132],[133],[7],[135],[136],[137],[134,138],[129],[140],[141],[142,139]] [m 129 0,m 130 0,o 131 (.aM 130),f 132 0 131,f 133 1 132,l 134 1 133,f 135 16 7,f 136 6 135,g 137 5 136,o 138 (.aC 40 5 1 [j 0,j 0,j 0,j 0,j 0] [(0,137)]),o 139 (.app 40 5 134 138),o 140 (.aM 129),f 141 0 140,f 142 1 141,r 1 142 139]))) (q [b 144 .eql 105 (i 2),m 143 144] (h 143 (s (.draw [0,1,3,7,0,16,0,64,192,448,960,1984,4095] [[0],[145],[146],[147],[7],[149],[0],[151],[152],[153],[154],[155],[148,150,156]] [m 145 0,o 146 (.aM 145),f 147 11 146,l 148 1 147,f 149 0 7,l 150 1 149,m 151 0,o 152 (.aM 151),f 153 0 152,f 154 2 153,l 155 1 154,n 156 155,v (.GI [.i] false false 148 150 156)]) (k [0,2,7,12,13,14] (.draw [0,0,2,6,14,30,0,64,192,448,1022,2047,4095,8191,16383] [[0],[0],[158],[159],[160],[161],[7],[163],[164],[165],[162,166],[157],[168],[169],[170,167]] [m 157 0,m 158 0,o 159 (.aM 158),f 160 0 159,f 161 2 160,l 162 1 161,f 163 16 7,f 164 4 163,g 165 2 164,o 166 (.aC 12 2 1 [j 0,.ai] [(0,165)]),o 167 (.app 12 2 162 166),o 168 (.aM 157),f 169 0 168,f 170 2 169,r 1 170 167]))) (q [b 172 .eql 105 (i 4),m 171 172] (h 171 (.draw [0,0,2,6,14,30,0,64,192,448,1022,2047,4095,8191,16383] [[0],[0],[174],[175],[176],[177],[7],[179],[180],[181],[178,182],[173],[184],[185],[186,183]] [m 173 0,m 174 0,o 175 (.aM 174),f 176 0 175,f 177 3 176,l 178 1 177,f 179 16 7,f 180 11 179,g 181 13 180,o 182 (.aC 41 13 1 Z9 [(0,181)]),o 183 (.app 41 13 178 182),o 184 (.aM 173),f 185 0 184,f 186 3 185,r 1 186 183]) .skip))))))))))))))))))))))) (k [0,2,12,13,14] (p [b 187 .add 14 (i 1),m 14 187]))))))))))⟩
structure PR (R:Env):Prop where
 abl:R.Fn 505 VH
 n4:N4 R
 n12:N12 R
 n14:N14 R
def VI:bt:=Nf ⟨3,[],q [x 4 44 1] (s (.draw [0,1,3,7,0,16,63,127,255,255,0,1535,4095] [[0],[19],[20],[21],[4],[23],[22,24],[25],[18],[18],[],[6,26],[27]] [m 19 0,o 20 (.aM 19),f 21 9 20,l 22 1 21,f 23 0 4,l 24 1 23,o 25 (.FQ [.i] false true (.agg Z2) true 22 24),m 18 25,e 26 18 0,e 27 18 1,a 6 45 Z2,r 40 6 26,m 7 27]) (k [0,2,4,6,7] (s (.draw [0,1,3,7,0,16,63,127,255,255,511,2047] [[0],[29],[30],[31],[4],[33],[32,34],[35],[28],[28],[36],[37]] [m 29 0,o 30 (.aM 29),f 31 11 30,l 32 1 31,f 33 1 4,l 34 1 33,o 35 (.FQ [.i] false false (j 0) true 32 34),m 28 35,e 36 28 0,e 37 28 1,m 8 36,m 9 37]) (k [0,2,4,6,7,8,9] (s (.draw [0,1,3,7,0,16,63,127,255,255,511,2047] [[0],[39],[40],[41],[4],[43],[42,44],[45],[38],[38],[46],[47]] [m 39 0,o 40 (.aM 39),f 41 11 40,l 42 1 41,f 43 2 4,l 44 1 43,o 45 (.FQ [.i] false false (j 0) true 42 44),m 38 45,e 46 38 0,e 47 38 1,m 10 46,m 11 47]) (k [0,2,4,6,7,8,9,10,11] (s (q [f 48 2 4,l 49 1 48,b 50 .eql 49 (i 0)] (h 50 (p [m 10 (i (-1)),m 11 (.k (.bool true))]) .skip)) (k [0,2,4,6,7,8,9,10,11] (s (q [m 51 7,o 52 (.un .not 51),m 53 52,⟨some 54,some (53,false),.mv 9⟩,⟨some 55,some (53,false),.un .not 54⟩,w 56 53 (.k (.bool true)) 55,m 57 56,⟨some 58,some (57,false),.mv 11⟩,⟨some 59,some (57,false),.un .not 58⟩,w 60 57 (.k (.bool true)) 59] (k [0,2,4,6,8,10,60] (h 60 .ret .skip))) (y [0,2,4,6,8,10] [f 61 16 6,f 62 1 61,g 63 3 62,a 12 25 [.ai,.ai,.ai],r 3 12 63] (y [0,2,4,6,8,10,12] [f 64 2 12,l 65 1 64,n 66 65,m 67 (i 0)] (k [0,2,4,6,8,10,12,65,66,67] (.block 0 (.loop (q [b 68 .lss 67 66] (s (h 68 .skip (.exit 0)) (k [0,2,4,6,8,10,12,65,66,67] (s (.block 1 (q [u 69 3 65 67,g 70 3 69,a 14 13 [j 0,j 0,j 0],r 3 14 70] (s (.draw [0,0,0,4,12,28,0,64,252,0,512,1536,0,7680,16383,0,65535] [[8],[10],[0],[73],[74],[75],[4],[77],[76,78],[6],[80],[81],[2],[82,83],[71,72,79,84],[],[15,85]] [m 71 8,m 72 10,m 73 0,o 74 (.aM 73),f 75 10 74,l 76 1 75,f 77 0 4,l 78 1 77,o 79 (.MM [.i] false 76 78),f 80 1 6,f 81 3 80,g 82 8 81,m 83 2,c 84 11 [82,83],o 85 (.build Z6 [(15,1,71),(16,1,72),(17,1,79),(18,1,84)]),a 15 60 Z6,r 19 15 85]) (k [0,2,4,6,8,10,12,14,15,65,66,67] (s (q [g 86 3 14,m 87 (i 0)] (k [0,2,4,6,8,10,12,15,65,66,67,86,87] (.block 2 (.loop (q [b 88 .lss 87 (i 3)] (s (h 88 .skip (.exit 2)) (k [0,2,4,6,8,10,12,15,65,66,67,86,87] (s (.block 3 (q [m 89 87,o 90 (.JQ false 3 1 86 87),m 16 89,m 17 90] (s (.draw [0,0,2,0,8,0,56,120,254,510,1022,1022,0,6143,14335] [[16],[4],[93],[12],[95],[17],[96,97],[98],[94,99],[100],[91],[91],[15],[103,92],[104,101]] [m 92 16,f 93 4 4,g 94 12 93,f 95 0 12,l 96 1 95,m 97 17,u 98 3 96 97,g 99 3 98,c 100 241 [94,99],m 91 100,e 101 91 0,e 102 91 1,f 103 0 15,o 104 (.bo 3 3 103 92),r 3 104 101]) (k [0,2,4,6,8,10,12,15,16,17,65,66,67,86,87] (p [m 105 16,f 106 1 12,l 107 1 106,m 108 17,u 109 2 107 108,g 110 2 109,f 111 9 15,o 112 (.bo 3 2 111 105),r 2 112 110]))))) (k [0,2,4,6,8,10,12,15,65,66,67,86,87] (p [b 113 .add 87 (i 1),m 87 113])))))))))) (k [0,2,4,6,8,10,12,15,65,66,67] (.draw [0,0,2,6,14,30,0,64,254,511,1023,2047,4095] [[0],[0],[115],[116],[117],[118],[15],[120],[119,121],[114],[123],[124],[125,122]] [m 114 0,m 115 0,o 116 (.aM 115),f 117 0 116,f 118 0 117,l 119 1 118,g 120 19 15,o 121 (.aC 60 19 1 Z6 [(0,120)]),o 122 (.app 60 19 119 121),o 123 (.aM 114),f 124 0 123,f 125 0 124,r 1 125 122]))))))) (k [0,2,4,6,8,10,12,65,66,67] (p [b 126 .add 67 (i 1),m 67 126]))))))))))))))))))))⟩
structure PU (R:Env):Prop where
 abm:R.Fn 506 VI
 n11:YT R
 n241:KI R
def VJ:bt:=Nf ⟨2,[.cell 4 true 9,5],q [a 4 59 Z7,m 5 (i 0)] (s (.block 0 (q [m 10 0,c 11 430 [10],o 12 (.RO false 11),m 9 12] (h 9 (t [o 13 (.build Z7 []),r 9 4 13,m 5 (i 1)]) (q [m 15 1,b 16 .lss 15 (i 0),m 17 16,⟨some 18,some (17,false),.mv 1⟩,⟨some 19,some (17,false),.bin .geq 18 (i 8)⟩,w 20 17 (.k (.bool true)) 19,m 14 20] (k [0,1,4,14] (h 14 (t [o 21 (.build Z7 []),r 9 4 21,m 5 (i 13)]) .skip)))))) (y [0,1,4] [o 22 (.N0 1 false true 41),o 23 (.N0 1 false false 2),o 24 (.N0 1 false false 2),o 25 (.build [.ai,.ai,.ai,.ai,.ai,.ai,.int .u32 0,.int .u32 0,.int .u32 0,.ce,.ce,.ce] [(9,1,22),(10,1,23),(11,1,24)]),x 26 61 25,m 6 26] (y [0,1,4,6] [m 27 6,m 28 0,c 29 418 [28],m 30 1,c 31 505 [27,29,30]] (k [0,1,4,6] (s (q [m 32 0,c 33 419 [32],n 34 33,m 35 (i 0)] (k [1,4,6,33,34,35] (.block 1 (.loop (q [b 36 .lss 35 34] (s (h 36 .skip (.exit 1)) (k [1,4,6,33,34,35] (s (.block 2 (q [u 37 16 33 35,g 38 16 37,a 8 44 Z8,r 16 8 38] (p [m 39 6,g 40 16 8,m 41 1,c 42 506 [39,40,41]]))) (k [1,4,6,33,34,35] (p [b 43 .add 35 (i 1),m 35 43])))))))))) (y [4,6] [m 44 6,o 45 (.aM 44),f 46 0 45,g 47 9 46,r 9 4 47,m 5 (i 0)] (k [4,5] .ret)))))))⟩
structure K0 (R:Env):Prop where
 abn:R.Fn 491 VJ
 PV:PD R
 PW:PI R
 PX:PO R
 PY:PR R
 PZ:PU R
end Go.UM
namespace Go.UM
open Go.AM
open Z
def VK:bt:=Nf ⟨1,[.cell 2 true 3],q [x 1 25 0,a 2 25 [.ai,.ai,.ai]] (s (.draw [0,1,0,4,12,28,63,0,128,0,512,1536,3584,8064,0,16384,0,65536,196608,458752,1032192,2097151,4194303] [[1],[3],[1],[5],[6],[7],[4,8],[1],[10],[1],[12],[13],[14],[11,15],[1],[17],[1],[19],[20],[21],[18,22],[9,16,23],[2,24]] [f 3 0 1,l 4 1 3,f 5 0 1,l 6 1 5,n 7 6,o 8 (.mm false [7,i 70]),o 9 (.sU 26 3 4 none (some 8) none),f 10 1 1,l 11 1 10,f 12 1 1,l 13 1 12,n 14 13,o 15 (.mm false [14,i 70]),o 16 (.sU 18 2 11 none (some 15) none),f 17 2 1,l 18 1 17,f 19 2 1,l 20 1 19,n 21 20,o 22 (.mm false [21,i 70]),o 23 (.sU 13 3 18 none (some 22) none),o 24 (.build [.ai,.ai,.ai] [(0,1,9),(1,1,16),(2,1,23)]),r 3 2 24]) (k [2] .ret))⟩
structure P0 (R:Env):Prop where
 VL:R.Fn 191 VK
end Go.UM
namespace Go.UM
open Go.AM
open Z
def VM:bt:=Nf ⟨1,[2],q [m 2 (.k (.int .u64 0))] (s (q [m 3 0,b 4 .lss 3 (i 0)] (h 4 (q [m 5 0,b 6 .add 5 (i 1),o 7 (.un .neg 6),o 8 (.conv .u64 7),b 9 .add 8 (.k (.int .u64 1)),m 2 9] (k [2] .ret)) .skip)) (k [0] (t [m 10 0,o 11 (.conv .u64 10),m 2 11])))⟩
structure BG (R:Env):Prop where
 xQ:R.Fn 279 VM
def VN:bt:=Nf ⟨3,[6],q [m 6 (i 0)] (s (q [m 7 1] (h 7 (s (q [m 8 2,m 9 8,⟨some 10,some (9,false),.mv 0⟩,⟨some 11,some (9,false),.bin .geq 10 (.k (.int .u64 9223372036854775808))⟩,w 12 9 (.k (.bool true)) 11] (k [0,12] (h 12 (t [m 6 (i (-9223372036854775808))]) .skip))) (k [0] (t [m 13 0,o 14 (.conv .i64 13),o 15 (.un .neg 14),m 6 15]))) .skip)) (k [0,2] (s (q [m 16 2,m 17 16,⟨some 18,some (17,false),.mv 0⟩,⟨some 19,some (17,false),.bin .geq 18 (.k (.int .u64 9223372036854775808))⟩,w 20 17 (.k (.bool true)) 19] (k [0,20] (h 20 (t [m 6 (i 9223372036854775807)]) .skip))) (k [0] (t [m 21 0,o 22 (.conv .i64 21),m 6 22])))))⟩
structure EI (R:Env):Prop where
 zN:R.Fn 280 VN
def VO:bt:=Nf ⟨2,[4],q [m 4 (i 0)] (q [m 11 0,c 12 279 [11],m 13 1,c 14 279 [13],c 15 276 [12,14],m 10 15,e 16 10 0,e 17 10 1,m 5 16,m 6 17] (y [0,1,5,6] [m 18 5,b 19 .shl 18 (.k (.int .u64 32)),m 20 6,b 21 .shr 20 (.k (.int .u64 32)),b 22 .or 19 21,m 7 22] (y [0,1,5,6,7] [m 23 5,b 24 .geq 23 (.k (.int .u64 4294967296)),m 8 24] (q [m 25 0,b 26 .lss 25 (i 0),m 27 1,b 28 .lss 27 (i 0),o 29 (.NV true 26 28),m 9 29] (k [6,7,8,9] (s (q [m 30 9,m 31 30,⟨some 32,some (31,true),.mv 6⟩,⟨some 33,some (31,true),.bin .and 32 (.k (.int .u64 4294967295))⟩,⟨some 34,some (31,true),.bin .gtr 33 (.k (.int .u64 0))⟩,w 35 31 34 (.k (.bool false))] (k [7,8,9,35] (h 35 (q [m 36 7,b 37 .add 36 (.k (.int .u64 1)),m 7 37] (p [m 38 8,m 39 38,⟨some 40,some (39,false),.mv 7⟩,⟨some 41,some (39,false),.bin .eql 40 (.k (.int .u64 0))⟩,w 42 39 (.k (.bool true)) 41,m 8 42])) .skip))) (y [7,8,9] [m 43 7,m 44 9,m 45 8,c 46 280 [43,44,45],m 4 46] (k [4] .ret))))))))⟩
structure P1 (R:Env):Prop where
 K1:R.Fn 268 VO
 n276:Kq R
 n279:BG R
 n280:EI R
def VP:bt:=Nf ⟨2,[4],q [m 4 (i 0)] (q [m 7 0,c 8 279 [7],m 9 1,c 10 279 [9],m 5 8,m 6 10] (k [0,1,5,6] (s (q [m 11 0,b 12 .lss 11 (i 0),m 13 1,b 14 .lss 13 (i 0),o 15 (.NV false 12 14)] (k [0,1,5,6,15] (h 15 (q [m 16 5,m 17 6,b 18 .add 16 17,m 19 0,b 20 .lss 19 (i 0),m 21 5,m 22 6,b 23 .add 21 22,m 24 5,b 25 .lss 23 24,c 26 280 [18,20,25],m 4 26] (k [4] .ret)) .skip))) (k [0,1] (t [m 27 0,m 28 1,b 29 .add 27 28,m 4 29])))))⟩
structure K2 (R:Env):Prop where
 BH:R.Fn 269 VP
 n279:BG R
 n280:EI R
def VQ:bt:=Nf ⟨2,[4],q [m 4 (i 0)] (q [m 7 0,c 8 279 [7],m 9 1,c 10 279 [9],m 5 8,m 6 10] (k [0,1,5,6] (s (q [m 11 0,b 12 .lss 11 (i 0),m 13 1,b 14 .lss 13 (i 0),o 15 (.NV true 12 14)] (k [0,1,5,6,15] (h 15 (q [m 16 5,m 17 6,b 18 .add 16 17,m 19 0,b 20 .lss 19 (i 0),m 21 5,m 22 6,b 23 .add 21 22,m 24 5,b 25 .lss 23 24,c 26 280 [18,20,25],m 4 26] (k [4] .ret)) .skip))) (k [0,1] (t [m 27 0,m 28 1,b 29 .sub 27 28,m 4 29])))))⟩
structure P3 (R:Env):Prop where
 VR:R.Fn 282 VQ
 n279:BG R
 n280:EI R
def VS:bt:=Nf ⟨1,[2],q [m 2 (i 0)] (q [m 4 0,c 5 279 [4],m 3 5] (s (q [m 6 0,b 7 .geq 6 (i 0)] (h 7 (t [m 8 3,b 9 .shr 8 (.k (.int .u64 32)),o 10 (.conv .i64 9),m 2 10]) .skip)) (k [3] (s (q [m 11 3,b 12 .and 11 (.k (.int .u64 4294967295)),b 13 .eql 12 (.k (.int .u64 0))] (h 13 (q [m 14 3,b 15 .shr 14 (.k (.int .u64 32)),o 16 (.conv .i64 15),o 17 (.un .neg 16),m 2 17] (k [2] .ret)) .skip)) (y [3] [m 18 3,b 19 .shr 18 (.k (.int .u64 32)),o 20 (.conv .i64 19),o 21 (.un .neg 20),b 22 .sub 21 (i 1),m 2 22] (k [2] .ret))))))⟩
structure P4 (R:Env):Prop where
 VT:R.Fn 273 VS
 n279:BG R
def VU:bt:=Nf ⟨1,[2],q [m 2 (i 0)] (s (q [m 3 0,b 4 .geq 3 (i 9223372034707292160)] (h 4 (t [m 2 (i 2147483648)]) .skip)) (k [0] (t [m 5 0,b 6 .add 5 (i 2147483648),c 7 273 [6],m 2 7])))⟩
structure P5 (R:Env):Prop where
 K3:R.Fn 261 VU
 n273:P4 R
def VV:bt:=Nf ⟨1,[2],q [m 2 (i 0)] (q [m 4 0,c 5 279 [4],m 3 5] (q [m 6 3,b 7 .shl 6 (.k (.int .u64 32)),m 8 0,b 9 .lss 8 (i 0),m 10 3,b 11 .geq 10 (.k (.int .u64 4294967296)),c 12 280 [7,9,11],m 2 12] (k [2] .ret)))⟩
structure P6 (R:Env):Prop where
 K4:R.Fn 272 VV
 n279:BG R
 n280:EI R
end Go.UM
namespace Go.UM
open Go.AM
open Z
def VW:bt:=Nf ⟨2,[4],q [x 2 31 0,x 3 31 1,m 4 (i 0)] (q [f 6 0 2,l 7 1 6,f 8 0 3,l 9 1 8,c 10 268 [7,9],c 11 269 [i 0,10],m 5 11] (y [2,3,5] [m 12 5,f 13 1 2,l 14 1 13,f 15 1 3,l 16 1 15,c 17 268 [14,16],c 18 269 [12,17],m 5 18] (y [2,3,5] [m 19 5,f 20 2 2,l 21 1 20,f 22 2 3,l 23 1 22,c 24 268 [21,23],c 25 269 [19,24],m 4 25] (k [4] .ret))))⟩
structure P7 (R:Env):Prop where
 K5:R.Fn 253 VW
 n268:P1 R
 n269:K2 R
def VX:bt:=Nf ⟨2,[.cell 4 true 3],q [x 2 31 0,x 3 31 1,a 4 31 [j 0,j 0,j 0]] (s (.draw [0,1,0,4,15,0,32,0,128,511,0,1024,0,4096,16383,32767,65535] [[2],[5],[3],[7],[6,8],[2],[10],[3],[12],[11,13],[2],[15],[3],[17],[16,18],[9,14,19],[4,20]] [f 5 0 2,l 6 1 5,f 7 0 3,l 8 1 7,c 9 269 [6,8],f 10 1 2,l 11 1 10,f 12 1 3,l 13 1 12,c 14 269 [11,13],f 15 2 2,l 16 1 15,f 17 2 3,l 18 1 17,c 19 269 [16,18],o 20 (.build [j 0,j 0,j 0] [(0,1,9),(1,1,14),(2,1,19)]),r 3 4 20]) (k [4] .ret))⟩
structure P8 (R:Env):Prop where
 VY:R.Fn 254 VX
 n269:K2 R
def VZ:bt:=Nf ⟨1,[2],q [m 2 (i 0)] (s (q [m 3 0,b 4 .lss 3 (i 0)] (h 4 (t [m 5 0,c 6 282 [i 0,5],m 2 6]) .skip)) (k [0] (t [m 7 0,m 2 7])))⟩
structure P9 (R:Env):Prop where
 zO:R.Fn 271 VZ
 n282:P3 R
def V0:bt:=Nf ⟨1,[2],q [x 1 31 0,m 2 (i 0)] (q [f 4 0 1,l 5 1 4,c 6 271 [5],m 3 6] (s (q [f 7 1 1,l 8 1 7,c 9 271 [8],m 10 3,b 11 .gtr 9 10] (k [1,3,11] (h 11 (p [f 12 1 1,l 13 1 12,c 14 271 [13],m 3 14]) .skip))) (k [1,3] (s (q [f 15 2 1,l 16 1 15,c 17 271 [16],m 18 3,b 19 .gtr 17 18] (k [1,3,19] (h 19 (p [f 20 2 1,l 21 1 20,c 22 271 [21],m 3 22]) .skip))) (k [3] (t [m 23 3,m 2 23]))))))⟩
structure P' (R:Env):Prop where
 V1:R.Fn 257 V0
 n271:P9 R
def V2:bt:=Nf ⟨1,[.cell 2 true 3],q [x 1 26 0,a 2 31 [j 0,j 0,j 0]] (s (.draw [0,1,3,0,8,31,0,64,255,511,1023] [[1],[3],[4],[1],[6],[7],[1],[9],[10],[5,8,11],[2,12]] [f 3 0 1,l 4 1 3,c 5 272 [4],f 6 1 1,l 7 1 6,c 8 272 [7],f 9 2 1,l 10 1 9,c 11 272 [10],o 12 (.build [j 0,j 0,j 0] [(0,1,5),(1,1,8),(2,1,11)]),r 3 2 12]) (k [2] .ret))⟩
structure Qa (R:Env):Prop where
 V3:R.Fn 259 V2
 n272:P6 R
end Go.UM
namespace Go.UM
open Go.AM
open Z
def V4:bt:=Nf ⟨2,[.cell 4 true 3],q [x 2 33 0,x 3 31 1,a 4 31 [j 0,j 0,j 0]] (q [m 5 (.k .ai)] (s (q [m 6 (i 0)] (k [2,3,4,5,6] (.block 0 (.loop (s (q [m 7 6,b 8 .lss 7 (i 3)] (h 8 .skip (.exit 0))) (k [2,3,4,5,6] (s (.block 1 (.draw [0,0,2,0,14,30,0,64,192,0,960,1984,0,4096,12288,0,61440,126976,262142,0,1048574,2097150,4194303,8388607] [[5],[6],[12],[2],[14,13],[15],[6],[17],[18],[2],[20,19],[21],[6],[23],[24],[2],[26,25],[27],[16,22,28],[3],[29,30],[31],[11,32],[33]] [m 11 5,m 12 6,b 13 .mul (i 3) 12,f 14 0 2,o 15 (.bo 9 1 14 13),l 16 1 15,m 17 6,b 18 .mul (i 3) 17,b 19 .add 18 (i 1),f 20 0 2,o 21 (.bo 9 1 20 19),l 22 1 21,m 23 6,b 24 .mul (i 3) 23,b 25 .add 24 (i 2),f 26 0 2,o 27 (.bo 9 1 26 25),l 28 1 27,o 29 (.build [j 0,j 0,j 0] [(0,1,16),(1,1,22),(2,1,28)]),g 30 3 3,c 31 253 [29,30],o 32 (.aC 32 1 1 [j 0] [(0,31)]),o 33 (.app 32 1 11 32),m 5 33])) (k [2,3,4,5,6] (p [m 9 6,b 10 .add 9 (i 1),m 6 10]))))))))) (k [4,5] (s (.draw [0,1,3,0,8,24,0,64,192,511,1023] [[5],[34],[35],[5],[37],[38],[5],[40],[41],[36,39,42],[4,43]] [m 34 5,u 35 1 34 (i 0),l 36 1 35,m 37 5,u 38 1 37 (i 1),l 39 1 38,m 40 5,u 41 1 40 (i 2),l 42 1 41,o 43 (.build [j 0,j 0,j 0] [(0,1,36),(1,1,39),(2,1,42)]),r 3 4 43]) (k [4] .ret)))))⟩
structure Qb (R:Env):Prop where
 V5:R.Fn 232 V4
 n253:P7 R
def V6:bt:=Nf ⟨2,[.cell 4 true 3],q [x 2 33 0,x 3 31 1,a 4 31 [j 0,j 0,j 0]] (s (.draw [0,0,3,0,8,31,63] [[2],[3],[5,6],[2],[8],[7,9],[4,10]] [g 5 12 2,g 6 3 3,c 7 232 [5,6],f 8 9 2,g 9 3 8,c 10 254 [7,9],r 3 4 10]) (k [4] .ret))⟩
structure Qc (R:Env):Prop where
 V7:R.Fn 234 V6
 n232:Qb R
 n254:P8 R
def V8:bt:=Nf ⟨1,[2],q [x 1 33 0,m 2 (i 0)] (s (q [m 3 (i 0)] (k [1,3] (.block 0 (.loop (s (q [m 4 3,b 5 .lss 4 (i 9)] (h 5 .skip (.exit 0))) (k [1,3] (s (.block 1 (q [m 8 3,f 9 0 1,o 10 (.bo 9 1 9 8),l 11 1 10,b 12 .gtr 11 (i 1099511627776),m 13 12,⟨some 14,some (13,false),.mv 3⟩,⟨some 15,some (13,false),.aB 0 1⟩,⟨some 16,some (13,false),.bo 9 1 15 14⟩,⟨some 17,some (13,false),.load false 1 16⟩,⟨some 18,some (13,false),.bin .lss 17 (i (-1099511627776))⟩,w 19 13 (.k (.bool true)) 18] (k [1,3,19] (h 19 (t [m 2 (i 2)]) .skip)))) (k [1,3] (p [m 6 3,b 7 .add 6 (i 1),m 3 7]))))))))) (k [1] (s (q [f 20 9 1,g 21 3 20,c 22 257 [21],b 23 .gtr 22 (i 562949953421312)] (h 23 (t [m 2 (i 2)]) .skip)) (k [] (t [m 2 (i 0)])))))⟩
structure Qd (R:Env):Prop where
 V9:R.Fn 236 V8
 n257:P' R
def V':bt:=Nf ⟨1,[.cell 2 true 3,3],q [x 1 31 0,a 2 26 [j 0,j 0,j 0],m 3 (i 0)] (s (.draw [0,1,3,0,8,31,0,64,255,511,0,2047] [[1],[5],[6],[1],[8],[9],[1],[11],[12],[7,10,13],[],[4,14]] [f 5 0 1,l 6 1 5,c 7 261 [6],f 8 1 1,l 9 1 8,c 10 261 [9],f 11 2 1,l 12 1 11,c 13 261 [12],o 14 (.build [j 0,j 0,j 0] [(0,1,7),(1,1,10),(2,1,13)]),a 4 26 [j 0,j 0,j 0],r 3 4 14]) (k [2,4] (s (q [f 15 0 4,l 16 1 15,b 17 .gtr 16 (i 65536),m 18 17,⟨some 19,some (18,false),.aB 0 4⟩,⟨some 20,some (18,false),.load false 1 19⟩,⟨some 21,some (18,false),.bin .lss 20 (i (-65536))⟩,w 22 18 (.k (.bool true)) 21,m 23 22,⟨some 24,some (23,false),.aB 1 4⟩,⟨some 25,some (23,false),.load false 1 24⟩,⟨some 26,some (23,false),.bin .gtr 25 (i 65536)⟩,w 27 23 (.k (.bool true)) 26,m 28 27,⟨some 29,some (28,false),.aB 1 4⟩,⟨some 30,some (28,false),.load false 1 29⟩,⟨some 31,some (28,false),.bin .lss 30 (i (-65536))⟩,w 32 28 (.k (.bool true)) 31,m 33 32,⟨some 34,some (33,false),.aB 2 4⟩,⟨some 35,some (33,false),.load false 1 34⟩,⟨some 36,some (33,false),.bin .gtr 35 (i 65536)⟩,w 37 33 (.k (.bool true)) 36,m 38 37,⟨some 39,some (38,false),.aB 2 4⟩,⟨some 40,some (38,false),.load false 1 39⟩,⟨some 41,some (38,false),.bin .lss 40 (i (-65536))⟩,w 42 38 (.k (.bool true)) 41] (k [2,4,42] (h 42 (t [o 43 (.build [j 0,j 0,j 0] []),r 3 2 43,m 3 (i 8)]) .skip))) (k [2,4] (t [g 44 3 4,r 3 2 44,m 3 (i 0)])))))⟩
structure Qe (R:Env):Prop where
 Wa:R.Fn 244 V'
 n261:P5 R
def Wb:bt:=Nf ⟨2,[.cell 4 true 3,5],q [x 2 33 0,x 3 26 1,a 4 26 [j 0,j 0,j 0],m 5 (i 0)] (s (q [g 7 12 2,c 8 236 [7],m 6 8] (q [m 9 6,b 10 .neq 9 (i 0)] (h 10 (t [o 11 (.build [j 0,j 0,j 0] []),m 12 6,r 3 4 11,m 5 12]) .skip))) (k [2,3,4] (s (.draw [0,0,2,7,15,31,31,127,255] [[2],[3],[14],[13,15],[16],[17],[17],[4,18],[19]] [g 13 12 2,g 14 3 3,c 15 259 [14],c 16 234 [13,15],c 17 244 [16],e 18 17 0,e 19 17 1,r 3 4 18,m 5 19]) (k [4,5] .ret))))⟩
structure Qf (R:Env):Prop where
 K6:R.Fn 242 Wb
 n234:Qc R
 n236:Qd R
 n244:Qe R
 n259:Qa R
end Go.UM
namespace Go.UM
open Go.AM
open Z
def c63:bt:=Nf ⟨1,[2],q [m 2 (.k (.int .u64 0))] (q [m 3 (.k (.int .u64 0))] (s (q [m 4 (i 0)] (k [0,3,4] (.block 0 (.loop (s (q [m 5 4,m 6 0,b 7 .lss 5 6] (h 7 .skip (.exit 0))) (k [0,3,4] (s (.block 1 (p [m 10 3,b 11 .mul 10 (.k (.int .u64 256)),b 12 .add 11 (.k (.int .u64 255)),m 3 12])) (k [0,3,4] (p [m 8 4,b 9 .add 8 (i 1),m 4 9]))))))))) (k [3] (t [m 13 3,m 2 13]))))⟩
structure YV (R:Env):Prop where
 YW:R.Fn 63 c63
def c55:bt:=Nf ⟨3,[6,7],q [m 6 (.k .ai),m 7 (i 0)] (s (q [m 12 1,b 13 .lss 12 (i 1),m 14 13,⟨some 15,some (14,false),.mv 1⟩,⟨some 16,some (14,false),.bin .gtr 15 (i 8)⟩,w 17 14 (.k (.bool true)) 16] (k [0,1,2,17] (h 17 (t [m 6 (.k .ai),m 7 (i 2)]) .skip))) (y [0,1,2] [o 18 (.aC 4 1 0 [.int .u8 0] []),m 19 0,o 20 (.app 4 1 18 19),m 8 20] (s (q [m 9 (i 0)] (k [1,2,8,9] (.block 0 (.loop (s (q [m 21 9,m 22 2,n 23 22,b 24 .lss 21 23] (h 24 .skip (.exit 0))) (k [1,2,8,9] (s (.block 1 (s (s (.draw [0,0,3,7,0,16,63] [[2],[9],[27,28],[29],[1],[31],[30,32]] [m 27 2,m 28 9,u 29 1 27 28,l 30 1 29,m 31 1,c 32 63 [31],b 33 .gtr 30 32]) (k [1,2,8,9,33] (h 33 (t [m 6 (.k .ai),m 7 (i 3)]) .skip))) (y [1,2,8,9] [m 34 2,m 35 9,u 36 1 34 35,l 37 1 36,m 10 37] (y [1,2,8,9,10] [m 11 (i 0)] (k [1,2,8,9,10,11] (.block 2 (.loop (s (q [m 38 11,m 39 1,b 40 .lss 38 39] (h 40 .skip (.exit 2))) (k [1,2,8,9,10,11] (s (.block 3 (q [m 43 8,m 44 10,b 45 .rem 44 (.k (.int .u64 256)),o 46 (.conv .u8 45),o 47 (.aC 4 1 1 [.int .u8 0] [(0,46)]),o 48 (.app 4 1 43 47),m 8 48] (k [1,2,8,9,10,11] (p [m 49 10,b 50 .quo 49 (.k (.int .u64 256)),m 10 50])))) (k [1,2,8,9,10,11] (p [m 41 11,b 42 .add 41 (i 1),m 11 42])))))))))))) (k [1,2,8,9] (p [m 25 9,b 26 .add 25 (i 1),m 9 26]))))))))) (k [8] (t [m 51 8,m 6 51,m 7 (i 0)])))))⟩
structure Wd (R:Env):Prop where
 o55:R.Fn 55 c55
 Ju:YV R
def c72:bt:=Nf ⟨3,[6,7],q [m 6 (.k .ai),m 7 (i 0)] (s (q [m 12 1,b 13 .lss 12 (i 1),m 14 13,⟨some 15,some (14,false),.mv 1⟩,⟨some 16,some (14,false),.bin .gtr 15 (i 8)⟩,w 17 14 (.k (.bool true)) 16] (k [0,1,2,17] (h 17 (t [m 6 (.k .ai),m 7 (i 2)]) .skip))) (y [0,1,2] [m 18 1,c 19 63 [18],b 20 .quo 19 (.k (.int .u64 2)),o 21 (.conv .i64 20),m 8 21] (y [0,1,2,8] [m 9 (.k .ai)] (s (q [m 10 (i 0)] (k [0,1,2,8,9,10] (.block 0 (.loop (s (q [m 22 10,m 23 2,n 24 23,b 25 .lss 22 24] (h 25 .skip (.exit 0))) (k [0,1,2,8,9,10] (s (.block 1 (s (q [m 28 2,m 29 10,u 30 1 28 29,l 31 1 30,m 32 8,b 33 .gtr 31 32,m 34 33,⟨some 35,some (34,false),.mv 2⟩,⟨some 36,some (34,false),.mv 10⟩,⟨some 37,some (34,false),.lW 1 35 36⟩,⟨some 38,some (34,false),.load false 1 37⟩,⟨some 39,some (34,false),.mv 8⟩,⟨some 40,some (34,false),.un .neg 39⟩,⟨some 41,some (34,false),.bin .sub 40 (i 1)⟩,⟨some 42,some (34,false),.bin .lss 38 41⟩,w 43 34 (.k (.bool true)) 42] (k [0,1,2,8,9,10,43] (h 43 (t [m 6 (.k .ai),m 7 (i 3)]) .skip))) (y [0,1,2,8,9,10] [m 44 2,m 45 10,u 46 1 44 45,l 47 1 46,o 48 (.conv .u64 47),m 11 48] (k [0,1,2,8,9,10,11] (s (q [m 49 2,m 50 10,u 51 1 49 50,l 52 1 51,b 53 .lss 52 (i 0)] (k [0,1,2,8,9,10,11,53] (h 53 (.draw [0,1,0,0,12,28,60,124,252,511,1023] [[1],[54],[2],[10],[56,57],[58],[59],[60],[61],[55,62],[63]] [m 54 1,c 55 63 [54],m 56 2,m 57 10,u 58 1 56 57,l 59 1 58,b 60 .add 59 (i 1),o 61 (.un .neg 60),o 62 (.conv .u64 61),b 63 .sub 55 62,m 11 63]) .skip))) (k [0,1,2,8,9,10,11] (p [m 64 9,m 65 11,o 66 (.aC 6 1 1 [.int .u64 0] [(0,65)]),o 67 (.app 6 1 64 66),m 9 67]))))))) (k [0,1,2,8,9,10] (p [m 26 10,b 27 .add 26 (i 1),m 10 27]))))))))) (y [0,1,9] [m 68 0,m 69 1,m 70 9,c 71 55 [68,69,70],e 72 71 0,e 73 71 1,m 6 72,m 7 73] (k [6,7] .ret))))))⟩
structure N72 (R:Env):Prop where
 o72:R.Fn 72 c72
 M9:Wd R
 Ju:YV R
end Go.UM
namespace Go.UM
open Go.AM
open Z
def c38:bt:=Nf ⟨1,[2],q [m 2 (i 0)] (s (q [m 3 0] (.block 0 (q [b 5 .eql 3 (i 1),m 4 5] (h 4 (t [m 2 (i 2048)]) (q [b 7 .eql 3 (i 2),m 6 7] (h 6 (t [m 2 (i 1024)]) (s (q [b 9 .eql 3 (i 3),m 8 9] (h 8 .skip (p [b 10 .eql 3 (i 4),m 8 10]))) (k [8] (h 8 (t [m 2 (i 64)]) .skip))))))))) (k [] (t [m 2 (i 0)])))⟩
structure N38 (R:Env):Prop where
 We:R.Fn 38 c38
end Go.UM
namespace Go.UM
open Go.AM
open Z
def Wf:bt:=Nf ⟨2,[4],q [x 2 26 0,m 4 (.k (.bool false))] (q [f 5 0 2,l 6 1 5,m 7 1,b 8 .gtr 6 7,m 9 8,⟨some 10,some (9,false),.aB 0 2⟩,⟨some 11,some (9,false),.load false 1 10⟩,⟨some 12,some (9,false),.mv 1⟩,⟨some 13,some (9,false),.un .neg 12⟩,⟨some 14,some (9,false),.bin .lss 11 13⟩,w 15 9 (.k (.bool true)) 14,m 16 15,⟨some 17,some (16,false),.aB 1 2⟩,⟨some 18,some (16,false),.load false 1 17⟩,⟨some 19,some (16,false),.mv 1⟩,⟨some 20,some (16,false),.bin .gtr 18 19⟩,w 21 16 (.k (.bool true)) 20,m 22 21,⟨some 23,some (22,false),.aB 1 2⟩,⟨some 24,some (22,false),.load false 1 23⟩,⟨some 25,some (22,false),.mv 1⟩,⟨some 26,some (22,false),.un .neg 25⟩,⟨some 27,some (22,false),.bin .lss 24 26⟩,w 28 22 (.k (.bool true)) 27,m 29 28,⟨some 30,some (29,false),.aB 2 2⟩,⟨some 31,some (29,false),.load false 1 30⟩,⟨some 32,some (29,false),.mv 1⟩,⟨some 33,some (29,false),.bin .gtr 31 32⟩,w 34 29 (.k (.bool true)) 33,m 35 34,⟨some 36,some (35,false),.aB 2 2⟩,⟨some 37,some (35,false),.load false 1 36⟩,⟨some 38,some (35,false),.mv 1⟩,⟨some 39,some (35,false),.un .neg 38⟩,⟨some 40,some (35,false),.bin .lss 37 39⟩,w 41 35 (.k (.bool true)) 40,m 4 41] (k [4] .ret))⟩
structure K7 (R:Env):Prop where
 HF:R.Fn 213 Wf
def Wg:bt:=Nf ⟨1,[2],q [x 1 25 0,m 2 (i 0)] (s (q [f 8 0 1,l 9 1 8,n 10 9,b 11 .gtr 10 (i 64),m 12 11,⟨some 13,some (12,false),.aB 2 1⟩,⟨some 14,some (12,false),.load false 1 13⟩,⟨some 15,some (12,false),.fH 14⟩,⟨some 16,some (12,false),.bin .gtr 15 (i 64)⟩,w 17 12 (.k (.bool true)) 16] (k [1,17] (h 17 (t [m 2 (i 3)]) .skip))) (k [1] (s (q [f 18 0 1,l 19 1 18,n 20 19,b 21 .lss 20 (i 1),m 22 21,⟨some 23,some (22,false),.aB 2 1⟩,⟨some 24,some (22,false),.load false 1 23⟩,⟨some 25,some (22,false),.fH 24⟩,⟨some 26,some (22,false),.bin .lss 25 (i 1)⟩,w 27 22 (.k (.bool true)) 26,m 28 27,⟨some 29,some (28,false),.aB 1 1⟩,⟨some 30,some (28,false),.load false 1 29⟩,⟨some 31,some (28,false),.fH 30⟩,⟨some 32,some (28,false),.aB 0 1⟩,⟨some 33,some (28,false),.load false 1 32⟩,⟨some 34,some (28,false),.fH 33⟩,⟨some 35,some (28,false),.bin .neq 31 34⟩,w 36 28 (.k (.bool true)) 35] (k [1,36] (h 36 (t [m 2 (i 5)]) .skip))) (k [1] (s (q [m 3 (i 0)] (k [1,3] (.block 0 (.loop (s (q [m 37 3,f 38 0 1,l 39 1 38,n 40 39,b 41 .lss 37 40] (k [1,3,41] (h 41 .skip (.exit 0)))) (k [1,3] (s (.block 1 (q [f 44 0 1,l 45 1 44,m 46 3,u 47 3 45 46,g 48 3 47,c 49 213 [48,i 4096]] (k [1,3,49] (h 49 (t [m 2 (i 8)]) .skip)))) (k [1,3] (p [m 42 3,b 43 .add 42 (i 1),m 3 43]))))))))) (k [1] (s (q [m 4 (i 0)] (k [1,4] (.block 2 (.loop (s (q [m 50 4,f 51 1 1,l 52 1 51,n 53 52,b 54 .lss 50 53] (k [1,4,54] (h 54 .skip (.exit 2)))) (k [1,4] (s (.block 3 (q [m 5 (i 0)] (k [1,4,5] (.block 4 (.loop (s (q [m 57 5,b 58 .lss 57 (i 2)] (h 58 .skip (.exit 4))) (k [1,4,5] (s (.block 5 (q [f 61 1 1,l 62 1 61,m 63 4,m 64 5,u 65 2 62 63,o 66 (.bo 2 1 65 64),l 67 1 66,b 68 .lss 67 (i 0),m 69 68,⟨some 70,some (69,false),.aB 1 1⟩,⟨some 71,some (69,false),.load false 1 70⟩,⟨some 72,some (69,false),.mv 4⟩,⟨some 73,some (69,false),.mv 5⟩,⟨some 74,some (69,false),.lW 2 71 72⟩,⟨some 75,some (69,false),.bo 2 1 74 73⟩,⟨some 76,some (69,false),.load false 1 75⟩,⟨some 77,some (69,false),.bin .gtr 76 (i 65535)⟩,w 78 69 (.k (.bool true)) 77] (k [1,4,5,78] (h 78 (t [m 2 (i 5)]) .skip)))) (k [1,4,5] (p [m 59 5,b 60 .add 59 (i 1),m 5 60])))))))))) (k [1,4] (p [m 55 4,b 56 .add 55 (i 1),m 4 56]))))))))) (k [1] (s (q [m 6 (i 0)] (k [1,6] (.block 6 (.loop (s (q [m 79 6,f 80 2 1,l 81 1 80,n 82 81,b 83 .lss 79 82] (k [1,6,83] (h 83 .skip (.exit 6)))) (k [1,6] (s (.block 7 (q [m 7 (i 0)] (k [1,6,7] (.block 8 (.loop (s (q [m 86 7,b 87 .lss 86 (i 3)] (h 87 .skip (.exit 8))) (k [1,6,7] (s (.block 9 (s (.draw [0,1,0,0,7,31,63,127,255,511,1023,511,511,4095,16383,32767,511,66047,197119,524287,1048575,2097151,4194303,8388607,4194303,4194303,33554431,134217727,268435455,4194303,541065215,4194303,4194303,4299161599,12889096191,3762290687,68186800127,136906276863,274877906943,549755813887] [[1],[90],[6],[7],[91,92],[94,93],[95],[96],[97],[1],[99],[6],[7],[100,101],[103,102],[104],[1],[106],[107],[105,108],[98,109],[110],[1],[112],[6],[7],[113,114],[116,115],[117],[1],[119],[6],[7],[122],[123],[120,121],[125,124],[126],[118,127],[111,128]] [f 90 2 1,l 91 1 90,m 92 6,m 93 7,u 94 3 91 92,o 95 (.bo 3 1 94 93),l 96 1 95,b 97 .lss 96 (i 0),m 98 97,⟨some 99,some (98,false),.aB 2 1⟩,⟨some 100,some (98,false),.load false 1 99⟩,⟨some 101,some (98,false),.mv 6⟩,⟨some 102,some (98,false),.mv 7⟩,⟨some 103,some (98,false),.lW 3 100 101⟩,⟨some 104,some (98,false),.bo 3 1 103 102⟩,⟨some 105,some (98,false),.load false 1 104⟩,⟨some 106,some (98,false),.aB 0 1⟩,⟨some 107,some (98,false),.load false 1 106⟩,⟨some 108,some (98,false),.fH 107⟩,⟨some 109,some (98,false),.bin .geq 105 108⟩,w 110 98 (.k (.bool true)) 109,m 111 110,⟨some 112,some (111,false),.aB 2 1⟩,⟨some 113,some (111,false),.load false 1 112⟩,⟨some 114,some (111,false),.mv 6⟩,⟨some 115,some (111,false),.mv 7⟩,⟨some 116,some (111,false),.lW 3 113 114⟩,⟨some 117,some (111,false),.bo 3 1 116 115⟩,⟨some 118,some (111,false),.load false 1 117⟩,⟨some 119,some (111,false),.aB 2 1⟩,⟨some 120,some (111,false),.load false 1 119⟩,⟨some 121,some (111,false),.mv 6⟩,⟨some 122,some (111,false),.mv 7⟩,⟨some 123,some (111,false),.bin .add 122 (i 1)⟩,⟨some 124,some (111,false),.bin .rem 123 (i 3)⟩,⟨some 125,some (111,false),.lW 3 120 121⟩,⟨some 126,some (111,false),.bo 3 1 125 124⟩,⟨some 127,some (111,false),.load false 1 126⟩,⟨some 128,some (111,false),.bin .eql 118 127⟩,w 129 111 (.k (.bool true)) 128]) (k [1,6,7,129] (h 129 (t [m 2 (i 5)]) .skip)))) (k [1,6,7] (p [m 88 7,b 89 .add 88 (i 1),m 7 89])))))))))) (k [1,6] (p [m 84 6,b 85 .add 84 (i 1),m 6 85]))))))))) (k [] (t [m 2 (i 0)])))))))))))⟩
structure K8 (R:Env):Prop where
 Qg:R.Fn 198 Wg
 n213:K7 R
def Wh:bt:=Nf ⟨2,[4],q [x 3 26 1,m 4 (.k .ai)] (q [m 8 0,f 9 0 3,l 10 1 9,f 11 1 3,l 12 1 11,f 13 2 3,l 14 1 13,o 15 (.aC 10 1 3 [j 0] [(0,10),(1,12),(2,14)]),c 16 72 [8,i 2,15],m 7 16,e 17 7 0,e 18 7 1,m 5 17,m 6 18] (k [5] (t [m 19 5,m 4 19])))⟩
structure K9 (R:Env):Prop where
 abq:R.Fn 212 Wh
 n72:N72 R
def Wi:bt:=Nf ⟨1,[2,3],q [x 1 25 0,m 2 (.k .ai),m 3 (i 0)] (s (q [g 11 3 1,c 12 198 [11],m 4 12] (q [m 13 4,b 14 .neq 13 (i 0)] (h 14 (t [m 15 4,m 2 (.k .ai),m 3 15]) .skip))) (y [1] [f 16 0 1,l 17 1 16,n 18 17,o 19 (.conv .u8 18),f 20 2 1,l 21 1 20,n 22 21,o 23 (.conv .u8 22),o 24 (.aC 4 1 2 [.int .u8 0] [(0,19),(1,23)]),m 5 24] (k [1,5] (s (q [m 6 (i 0)] (k [1,5,6] (.block 0 (.loop (s (q [m 25 6,f 26 0 1,l 27 1 26,n 28 27,b 29 .lss 25 28] (k [1,5,6,29] (h 29 .skip (.exit 0)))) (k [1,5,6] (s (.block 1 (p [m 32 5,f 33 0 1,l 34 1 33,m 35 6,u 36 3 34 35,g 37 3 36,c 38 212 [32,37],m 5 38])) (k [1,5,6] (p [m 30 6,b 31 .add 30 (i 1),m 6 31]))))))))) (k [1,5] (s (q [m 7 (i 0)] (k [1,5,7] (.block 2 (.loop (s (q [m 39 7,f 40 1 1,l 41 1 40,n 42 41,b 43 .lss 39 42] (k [1,5,7,43] (h 43 .skip (.exit 2)))) (k [1,5,7] (s (.block 3 (q [m 8 (i 0)] (k [1,5,7,8] (.block 4 (.loop (s (q [m 46 8,b 47 .lss 46 (i 2)] (h 47 .skip (.exit 4))) (k [1,5,7,8] (s (.block 5 (.draw [0,0,2,0,0,14,62,126,254,510,0,1024,0,0,7168,31744,64512,130048,261120,524286,1048575,2097151] [[5],[1],[51],[7],[8],[52,53],[55,54],[56],[57],[58],[1],[60],[7],[8],[61,62],[64,63],[65],[66],[67],[59,68],[50,69],[70]] [m 50 5,f 51 1 1,l 52 1 51,m 53 7,m 54 8,u 55 2 52 53,o 56 (.bo 2 1 55 54),l 57 1 56,b 58 .rem 57 (i 256),o 59 (.conv .u8 58),f 60 1 1,l 61 1 60,m 62 7,m 63 8,u 64 2 61 62,o 65 (.bo 2 1 64 63),l 66 1 65,b 67 .quo 66 (i 256),o 68 (.conv .u8 67),o 69 (.aC 4 1 2 [.int .u8 0] [(0,59),(1,68)]),o 70 (.app 4 1 50 69),m 5 70])) (k [1,5,7,8] (p [m 48 8,b 49 .add 48 (i 1),m 8 49])))))))))) (k [1,5,7] (p [m 44 7,b 45 .add 44 (i 1),m 7 45]))))))))) (k [1,5] (s (q [m 9 (i 0)] (k [1,5,9] (.block 6 (.loop (s (q [m 71 9,f 72 2 1,l 73 1 72,n 74 73,b 75 .lss 71 74] (k [1,5,9,75] (h 75 .skip (.exit 6)))) (k [1,5,9] (s (.block 7 (q [m 10 (i 0)] (k [1,5,9,10] (.block 8 (.loop (s (q [m 78 10,b 79 .lss 78 (i 3)] (h 79 .skip (.exit 8))) (k [1,5,9,10] (s (.block 9 (p [m 82 5,f 83 2 1,l 84 1 83,m 85 9,m 86 10,u 87 3 84 85,o 88 (.bo 3 1 87 86),l 89 1 88,o 90 (.conv .u8 89),o 91 (.aC 4 1 1 [.int .u8 0] [(0,90)]),o 92 (.app 4 1 82 91),m 5 92])) (k [1,5,9,10] (p [m 80 10,b 81 .add 80 (i 1),m 10 81])))))))))) (k [1,5,9] (p [m 76 9,b 77 .add 76 (i 1),m 9 77]))))))))) (k [5] (t [m 93 5,m 2 93,m 3 (i 0)]))))))))))⟩
structure Qh (R:Env):Prop where
 Wj:R.Fn 197 Wi
 n198:K8 R
 n212:K9 R
end Go.UM
namespace Go.UM
open Go.AM
open Z
def c85:bt:=Nf ⟨1,[2],q [x 1 12 0,m 2 (i 0)] (s (q [f 5 0 1,l 6 1 5,b 7 .neq 6 (i 1),m 8 7,⟨some 9,some (8,true),.aB 0 1⟩,⟨some 10,some (8,true),.load false 1 9⟩,⟨some 11,some (8,true),.bin .neq 10 (i 2)⟩,w 12 8 11 (.k (.bool false)),m 13 12,⟨some 14,some (13,true),.aB 0 1⟩,⟨some 15,some (13,true),.load false 1 14⟩,⟨some 16,some (13,true),.bin .neq 15 (i 4)⟩,w 17 13 16 (.k (.bool false)),m 18 17,⟨some 19,some (18,true),.aB 0 1⟩,⟨some 20,some (18,true),.load false 1 19⟩,⟨some 21,some (18,true),.bin .neq 20 (i 8)⟩,w 22 18 21 (.k (.bool false)),m 23 22,⟨some 24,some (23,true),.aB 0 1⟩,⟨some 25,some (23,true),.load false 1 24⟩,⟨some 26,some (23,true),.bin .neq 25 (i 16)⟩,w 27 23 26 (.k (.bool false)),m 28 27,⟨some 29,some (28,false),.aB 1 1⟩,⟨some 30,some (28,false),.load false 1 29⟩,⟨some 31,some (28,false),.fH 30⟩,⟨some 32,some (28,false),.aB 0 1⟩,⟨some 33,some (28,false),.load false 1 32⟩,⟨some 34,some (28,false),.aB 0 1⟩,⟨some 35,some (28,false),.load false 1 34⟩,⟨some 36,some (28,false),.bin .mul 33 35⟩,⟨some 37,some (28,false),.bin .neq 31 36⟩,w 38 28 (.k (.bool true)) 37] (k [1,38] (h 38 (t [m 2 (i 5)]) .skip))) (k [1] (s (q [m 3 (i 0)] (k [1,3] (.block 0 (.loop (s (q [m 39 3,f 40 1 1,l 41 1 40,n 42 41,b 43 .lss 39 42] (k [1,3,43] (h 43 .skip (.exit 0)))) (k [1,3] (s (.block 1 (q [m 4 (i 0)] (k [1,3,4] (.block 2 (.loop (s (q [m 46 4,b 47 .lss 46 (i 3)] (h 47 .skip (.exit 2))) (k [1,3,4] (s (.block 3 (q [f 50 1 1,l 51 1 50,m 52 3,m 53 4,u 54 3 51 52,o 55 (.bo 3 1 54 53),l 56 1 55,b 57 .lss 56 (i 0),m 58 57,⟨some 59,some (58,false),.aB 1 1⟩,⟨some 60,some (58,false),.load false 1 59⟩,⟨some 61,some (58,false),.mv 3⟩,⟨some 62,some (58,false),.mv 4⟩,⟨some 63,some (58,false),.lW 3 60 61⟩,⟨some 64,some (58,false),.bo 3 1 63 62⟩,⟨some 65,some (58,false),.load false 1 64⟩,⟨some 66,some (58,false),.bin .gtr 65 (i 255)⟩,w 67 58 (.k (.bool true)) 66] (k [1,3,4,67] (h 67 (t [m 2 (i 5)]) .skip)))) (k [1,3,4] (p [m 48 4,b 49 .add 48 (i 1),m 4 49])))))))))) (k [1,3] (p [m 44 3,b 45 .add 44 (i 1),m 3 45]))))))))) (k [] (t [m 2 (i 0)])))))⟩
structure YX (R:Env):Prop where
 o85:R.Fn 85 c85
def c83:bt:=Nf ⟨1,[2,3],q [x 1 12 0,m 2 (.k .ai),m 3 (i 0)] (s (q [g 8 2 1,c 9 85 [8],m 4 9] (q [m 10 4,b 11 .neq 10 (i 0)] (h 11 (t [m 12 4,m 2 (.k .ai),m 3 12]) .skip))) (y [1] [f 13 0 1,l 14 1 13,o 15 (.conv .u8 14),o 16 (.aC 4 1 1 [.int .u8 0] [(0,15)]),m 5 16] (k [1,5] (s (q [m 6 (i 0)] (k [1,5,6] (.block 0 (.loop (s (q [m 17 6,f 18 1 1,l 19 1 18,n 20 19,b 21 .lss 17 20] (k [1,5,6,21] (h 21 .skip (.exit 0)))) (k [1,5,6] (s (.block 1 (q [m 7 (i 0)] (k [1,5,6,7] (.block 2 (.loop (s (q [m 24 7,b 25 .lss 24 (i 3)] (h 25 .skip (.exit 2))) (k [1,5,6,7] (s (.block 3 (p [m 28 5,f 29 1 1,l 30 1 29,m 31 6,m 32 7,u 33 3 30 31,o 34 (.bo 3 1 33 32),l 35 1 34,o 36 (.conv .u8 35),o 37 (.aC 4 1 1 [.int .u8 0] [(0,36)]),o 38 (.app 4 1 28 37),m 5 38])) (k [1,5,6,7] (p [m 26 7,b 27 .add 26 (i 1),m 7 27])))))))))) (k [1,5,6] (p [m 22 6,b 23 .add 22 (i 1),m 6 23]))))))))) (k [5] (t [m 39 5,m 2 39,m 3 (i 0)]))))))⟩
structure N83 (R:Env):Prop where
 o83:R.Fn 83 c83
 Na:YX R
def c89:bt:=Nf ⟨2,[4],q [x 2 12 0,x 3 12 1,m 4 (.k (.bool false))] (s (q [f 6 0 2,l 7 1 6,f 8 0 3,l 9 1 8,b 10 .neq 7 9,m 11 10,⟨some 12,some (11,false),.aB 1 2⟩,⟨some 13,some (11,false),.load false 1 12⟩,⟨some 14,some (11,false),.fH 13⟩,⟨some 15,some (11,false),.aB 1 3⟩,⟨some 16,some (11,false),.load false 1 15⟩,⟨some 17,some (11,false),.fH 16⟩,⟨some 18,some (11,false),.bin .neq 14 17⟩,w 19 11 (.k (.bool true)) 18] (k [2,3,19] (h 19 (t [m 4 (.k (.bool false))]) .skip))) (k [2,3] (s (q [m 5 (i 0)] (k [2,3,5] (.block 0 (.loop (s (q [m 20 5,f 21 1 2,l 22 1 21,n 23 22,b 24 .lss 20 23] (k [2,3,5,24] (h 24 .skip (.exit 0)))) (k [2,3,5] (s (.block 1 (s (.draw [0,1,0,7,15,0,32,0,224,480,1023] [[2],[27],[5],[28,29],[30],[3],[32],[5],[33,34],[35],[31,36]] [f 27 1 2,l 28 1 27,m 29 5,u 30 3 28 29,g 31 3 30,f 32 1 3,l 33 1 32,m 34 5,u 35 3 33 34,g 36 3 35,o 37 (.sT true [.i,.i,.i] 31 36)]) (k [2,3,5,37] (h 37 (t [m 4 (.k (.bool false))]) .skip)))) (k [2,3,5] (p [m 25 5,b 26 .add 25 (i 1),m 5 26]))))))))) (k [] (t [m 4 (.k (.bool true))])))))⟩
structure N89 (R:Env):Prop where
 o89:R.Fn 89 c89
end Go.UM
namespace Go.UM
open Go.AM
open Z
def Wl:bt:=Nf ⟨1,[2],q [x 1 40 0,m 2 (i 0)] (s (q [f 4 0 1,l 5 1 4,b 6 .lss 5 (i 0),m 7 6,⟨some 8,some (7,false),.aB 0 1⟩,⟨some 9,some (7,false),.load false 1 8⟩,⟨some 10,some (7,false),.bin .gtr 9 (i 4)⟩,w 11 7 (.k (.bool true)) 10,m 12 11,⟨some 13,some (12,false),.aB 4 1⟩,⟨some 14,some (12,false),.load false 1 13⟩,⟨some 15,some (12,false),.bin .lss 14 (i 0)⟩,w 16 12 (.k (.bool true)) 15,m 17 16,⟨some 18,some (17,false),.aB 4 1⟩,⟨some 19,some (17,false),.load false 1 18⟩,⟨some 20,some (17,false),.bin .gtr 19 (i 65535)⟩,w 21 17 (.k (.bool true)) 20] (k [1,21] (h 21 (t [m 2 (i 5)]) .skip))) (k [1] (s (q [m 3 (i 0)] (k [1,3] (.block 0 (.loop (s (q [m 22 3,b 23 .lss 22 (i 3)] (h 23 .skip (.exit 0))) (k [1,3] (s (.block 1 (q [m 26 3,f 27 1 1,o 28 (.bo 3 1 27 26),l 29 1 28,b 30 .lss 29 (i 0),m 31 30,⟨some 32,some (31,false),.mv 3⟩,⟨some 33,some (31,false),.aB 1 1⟩,⟨some 34,some (31,false),.bo 3 1 33 32⟩,⟨some 35,some (31,false),.load false 1 34⟩,⟨some 36,some (31,false),.bin .gtr 35 (i 65535)⟩,w 37 31 (.k (.bool true)) 36] (k [1,3,37] (h 37 (t [m 2 (i 5)]) .skip)))) (k [1,3] (p [m 24 3,b 25 .add 24 (i 1),m 3 25]))))))))) (k [] (t [m 2 (i 0)])))))⟩
structure Qi (R:Env):Prop where
 Wm:R.Fn 291 Wl
def Wn:bt:=Nf ⟨1,[2],q [x 1 41 0,m 2 (i 0)] (s (q [f 5 0 1,l 6 1 5,b 7 .lss 6 (i 0),m 8 7,⟨some 9,some (8,false),.aB 0 1⟩,⟨some 10,some (8,false),.load false 1 9⟩,⟨some 11,some (8,false),.bin .gtr 10 (i 2)⟩,w 12 8 (.k (.bool true)) 11] (k [1,12] (h 12 (t [m 2 (i 5)]) .skip))) (k [1] (s (q [m 3 (i 0)] (k [1,3] (.block 0 (.loop (s (q [m 13 3,b 14 .lss 13 (i 3)] (h 14 .skip (.exit 0))) (k [1,3] (s (.block 1 (q [m 17 3,f 18 1 1,o 19 (.bo 3 1 18 17),l 20 1 19,b 21 .lss 20 (i 0),m 22 21,⟨some 23,some (22,false),.mv 3⟩,⟨some 24,some (22,false),.aB 1 1⟩,⟨some 25,some (22,false),.bo 3 1 24 23⟩,⟨some 26,some (22,false),.load false 1 25⟩,⟨some 27,some (22,false),.bin .gtr 26 (i 1048576)⟩,w 28 22 (.k (.bool true)) 27] (k [1,3,28] (h 28 (t [m 2 (i 5)]) .skip)))) (k [1,3] (p [m 15 3,b 16 .add 15 (i 1),m 3 16]))))))))) (k [1] (s (q [f 29 4 1,g 30 3 29,c 31 213 [30,i 4096],m 32 31,⟨some 33,some (32,false),.aB 7 1⟩,⟨some 34,some (32,false),.load true 3 33⟩,⟨some 35,some (32,false),.call 213 [34,i 4096]⟩,w 36 32 (.k (.bool true)) 35,m 37 36,⟨some 38,some (37,false),.aB 10 1⟩,⟨some 39,some (37,false),.load true 3 38⟩,⟨some 40,some (37,false),.call 213 [39,i 4096]⟩,w 41 37 (.k (.bool true)) 40] (k [1,41] (h 41 (t [m 2 (i 8)]) .skip))) (y [1] [o 42 (.build [j 0,j 0,j 0] []),a 4 26 [j 0,j 0,j 0],r 3 4 42] (s (q [f 43 0 1,l 44 1 43,b 45 .eql 44 (i 2),m 46 45,⟨some 47,some (46,true),.aB 4 1⟩,⟨some 48,some (46,true),.load true 3 47⟩,⟨some 49,some (46,true),.load true 3 4⟩,⟨some 50,some (46,true),.sT true [.i,.i,.i] 48 49⟩,w 51 46 50 (.k (.bool false)),m 52 51,⟨some 53,some (52,false),.aB 0 1⟩,⟨some 54,some (52,false),.load false 1 53⟩,⟨some 55,some (52,false),.bin .neq 54 (i 1)⟩,⟨some 56,some (52,false),.mv 55⟩,⟨some 57,some (56,true),.aB 7 1⟩,⟨some 58,some (56,true),.load true 3 57⟩,⟨some 59,some (56,true),.load true 3 4⟩,⟨some 60,some (56,true),.sT true [.i,.i,.i] 58 59⟩,⟨some 61,some (56,true),.mv 60⟩,⟨some 62,some (61,false),.aB 10 1⟩,⟨some 63,some (61,false),.load true 3 62⟩,⟨some 64,some (61,false),.load true 3 4⟩,⟨some 65,some (61,false),.sT true [.i,.i,.i] 63 64⟩,⟨some 66,some (56,true),.pick 61 (.k (.bool true)) 65⟩,⟨some 67,some (52,false),.pick 56 66 (.k (.bool false))⟩,w 68 52 (.k (.bool true)) 67] (k [68] (h 68 (t [m 2 (i 5)]) .skip))) (k [] (t [m 2 (i 0)])))))))))⟩
structure Qj (R:Env):Prop where
 Wo:R.Fn 293 Wn
 n213:K7 R
def Wp:bt:=Nf ⟨1,[2],q [x 1 12 0,m 2 (.k (.bool false))] (q [f 3 0 1,l 4 1 3,b 5 .neq 4 (i 0),m 6 5,⟨some 7,some (6,false),.aB 1 1⟩,⟨some 8,some (6,false),.load false 1 7⟩,⟨some 9,some (6,false),.fH 8⟩,⟨some 10,some (6,false),.bin .gtr 9 (i 0)⟩,w 11 6 (.k (.bool true)) 10,m 2 11] (k [2] .ret))⟩
structure Qk (R:Env):Prop where
 La:R.Fn 312 Wp
def Wq:bt:=Nf ⟨1,[2],q [x 1 25 0,m 2 (.k (.bool false))] (q [f 3 0 1,l 4 1 3,n 5 4,f 6 1 1,l 7 1 6,n 8 7,b 9 .add 5 8,f 10 2 1,l 11 1 10,n 12 11,b 13 .add 9 12,b 14 .gtr 13 (i 0),m 2 14] (k [2] .ret))⟩
structure Ql (R:Env):Prop where
 Lb:R.Fn 313 Wq
def Wr:bt:=Nf ⟨1,[2],q [x 1 39 0,m 2 (.k .ai)] (s (q [f 14 0 1,l 15 1 14,b 16 .eql 15 (i 1)] (h 16 (q [f 18 1 1,g 19 3 18,c 20 197 [19],m 17 20,e 21 17 0,e 22 17 1,m 3 21,m 4 22] (k [3] (t [m 23 3,m 2 23]))) .skip)) (k [1] (s (q [f 24 0 1,l 25 1 24,b 26 .eql 25 (i 2)] (h 26 (q [f 28 4 1,g 29 2 28,c 30 83 [29],m 27 30,e 31 27 0,e 32 27 1,m 5 31,m 6 32] (k [5] (t [m 33 5,m 2 33]))) .skip)) (k [1] (s (q [f 34 0 1,l 35 1 34,b 36 .eql 35 (i 3)] (h 36 (q [f 37 6 1,g 38 5 37,a 7 40 [j 0,j 0,j 0,j 0,j 0],r 5 7 38] (q [f 39 0 7,l 40 1 39,o 41 (.conv .u8 40),o 42 (.aC 4 1 1 [.int .u8 0] [(0,41)]),m 8 42] (y [7,8] [f 43 1 7,o 44 (.bo 3 1 43 (i 0)),l 45 1 44,f 46 1 7,o 47 (.bo 3 1 46 (i 1)),l 48 1 47,f 49 1 7,o 50 (.bo 3 1 49 (i 2)),l 51 1 50,f 52 4 7,l 53 1 52,o 54 (.aC 10 1 4 [j 0] [(0,45),(1,48),(2,51),(3,53)]),m 9 54] (k [8,9] (s (q [m 10 (i 0)] (k [8,9,10] (.block 0 (.loop (s (q [m 55 10,b 56 .lss 55 (i 4)] (h 56 .skip (.exit 0))) (k [8,9,10] (s (.block 1 (.draw [0,0,0,6,14,30,62,0,0,384,896,1920,3968,8190,16383,32767] [[8],[9],[10],[60,61],[62],[63],[64],[9],[10],[66,67],[68],[69],[70],[65,71],[59,72],[73]] [m 59 8,m 60 9,m 61 10,u 62 1 60 61,l 63 1 62,b 64 .rem 63 (i 256),o 65 (.conv .u8 64),m 66 9,m 67 10,u 68 1 66 67,l 69 1 68,b 70 .quo 69 (i 256),o 71 (.conv .u8 70),o 72 (.aC 4 1 2 [.int .u8 0] [(0,65),(1,71)]),o 73 (.app 4 1 59 72),m 8 73])) (k [8,9,10] (p [m 57 10,b 58 .add 57 (i 1),m 10 58]))))))))) (k [8] (t [m 74 8,m 2 74]))))))) .skip)) (y [1] [f 75 11 1,g 76 13 75,a 11 41 Z9,r 13 11 76] (q [f 77 0 11,l 78 1 77,o 79 (.conv .u8 78),o 80 (.aC 4 1 1 [.int .u8 0] [(0,79)]),m 12 80] (k [11,12] (s (q [m 13 (i 0)] (k [11,12,13] (.block 2 (.loop (s (q [m 81 13,b 82 .lss 81 (i 3)] (h 82 .skip (.exit 2))) (k [11,12,13] (s (.block 3 (p [m 86 12,m 87 13,f 88 1 11,o 89 (.bo 3 1 88 87),l 90 1 89,o 91 (.conv .u64 90),o 92 (.aC 6 1 1 [.int .u64 0] [(0,91)]),c 93 55 [86,i 4,92],m 85 93,e 94 85 0,e 95 85 1,m 12 94])) (k [11,12,13] (p [m 83 13,b 84 .add 83 (i 1),m 13 84]))))))))) (k [11,12] (s (.draw [0,0,2,7,0,16,63,0,128,511,1023] [[12],[11],[97],[96,98],[11],[100],[99,101],[11],[103],[102,104],[105]] [m 96 12,f 97 4 11,g 98 3 97,c 99 212 [96,98],f 100 7 11,g 101 3 100,c 102 212 [99,101],f 103 10 11,g 104 3 103,c 105 212 [102,104],m 2 105]) (k [2] .ret))))))))))))⟩
structure Qm (R:Env):Prop where
 HG:R.Fn 314 Wr
 M9:Wd R
 YY:N83 R
 n197:Qh R
 n212:K9 R
def Ws:bt:=Nf ⟨1,[2],q [x 1 39 0,m 2 (i 0)] (q [m 3 (i 12)] (q [m 4 (.k (.bool false))] (s (q [f 5 0 1,l 6 1 5] (.block 0 (q [b 8 .eql 6 (i 1),m 7 8] (h 7 (q [f 9 1 1,g 10 3 9,c 11 198 [10],m 3 11] (p [f 12 4 1,g 13 2 12,c 14 312 [13],m 15 14,⟨some 16,some (15,false),.aB 6 1⟩,⟨some 17,some (15,false),.load true 5 16⟩,⟨some 18,some (15,false),.build [j 0,j 0,j 0,j 0,j 0] []⟩,⟨some 19,some (15,false),.sT true [.i,.i,.i,.i,.i] 17 18⟩,w 20 15 (.k (.bool true)) 19,m 21 20,⟨some 22,some (21,false),.aB 11 1⟩,⟨some 23,some (21,false),.load true 13 22⟩,⟨some 24,some (21,false),.build Z9 []⟩,⟨some 25,some (21,false),.sT true [.i,.i,.i,.i,.i,.i,.i,.i,.i,.i,.i,.i,.i] 23 24⟩,w 26 21 (.k (.bool true)) 25,m 4 26])) (q [b 28 .eql 6 (i 2),m 27 28] (h 27 (q [f 29 4 1,g 30 2 29,c 31 85 [30],m 3 31] (p [f 32 1 1,g 33 3 32,c 34 313 [33],m 35 34,⟨some 36,some (35,false),.aB 6 1⟩,⟨some 37,some (35,false),.load true 5 36⟩,⟨some 38,some (35,false),.build [j 0,j 0,j 0,j 0,j 0] []⟩,⟨some 39,some (35,false),.sT true [.i,.i,.i,.i,.i] 37 38⟩,w 40 35 (.k (.bool true)) 39,m 41 40,⟨some 42,some (41,false),.aB 11 1⟩,⟨some 43,some (41,false),.load true 13 42⟩,⟨some 44,some (41,false),.build Z9 []⟩,⟨some 45,some (41,false),.sT true [.i,.i,.i,.i,.i,.i,.i,.i,.i,.i,.i,.i,.i] 43 44⟩,w 46 41 (.k (.bool true)) 45,m 4 46])) (q [b 48 .eql 6 (i 3),m 47 48] (h 47 (q [f 49 6 1,g 50 5 49,c 51 291 [50],m 3 51] (p [f 52 1 1,g 53 3 52,c 54 313 [53],m 55 54,⟨some 56,some (55,false),.aB 4 1⟩,⟨some 57,some (55,false),.load true 2 56⟩,⟨some 58,some (55,false),.call 312 [57]⟩,w 59 55 (.k (.bool true)) 58,m 60 59,⟨some 61,some (60,false),.aB 11 1⟩,⟨some 62,some (60,false),.load true 13 61⟩,⟨some 63,some (60,false),.build Z9 []⟩,⟨some 64,some (60,false),.sT true [.i,.i,.i,.i,.i,.i,.i,.i,.i,.i,.i,.i,.i] 62 63⟩,w 65 60 (.k (.bool true)) 64,m 4 65])) (q [b 67 .eql 6 (i 4),m 66 67] (h 66 (q [f 68 11 1,g 69 13 68,c 70 293 [69],m 3 70] (p [f 71 1 1,g 72 3 71,c 73 313 [72],m 74 73,⟨some 75,some (74,false),.aB 4 1⟩,⟨some 76,some (74,false),.load true 2 75⟩,⟨some 77,some (74,false),.call 312 [76]⟩,w 78 74 (.k (.bool true)) 77,m 79 78,⟨some 80,some (79,false),.aB 6 1⟩,⟨some 81,some (79,false),.load true 5 80⟩,⟨some 82,some (79,false),.build [j 0,j 0,j 0,j 0,j 0] []⟩,⟨some 83,some (79,false),.sT true [.i,.i,.i,.i,.i] 81 82⟩,w 84 79 (.k (.bool true)) 83,m 4 84])) .skip)))))))))) (k [1,3,4] (s (q [m 85 3,b 86 .neq 85 (i 0)] (h 86 (t [m 87 3,m 2 87]) .skip)) (k [1,4] (s (q [m 88 4] (h 88 (t [m 2 (i 5)]) .skip)) (k [1] (s (s (.draw [0,1,3,0,8,27,63] [[1],[89],[90],[1],[92],[93],[91,94]] [g 89 24 1,c 90 314 [89],n 91 90,f 92 0 1,l 93 1 92,c 94 38 [93],b 95 .gtr 91 94]) (k [95] (h 95 (t [m 2 (i 9)]) .skip))) (k [] (t [m 2 (i 0)])))))))))))⟩
structure Qn (R:Env):Prop where
 Wt:R.Fn 295 Ws
 n38:N38 R
 Na:YX R
 n198:K8 R
 n291:Qi R
 n293:Qj R
 n312:Qk R
 n313:Ql R
 n314:Qm R
end Go.UM
namespace Go.UM
open Go.AM
open Z
def Wu:bt:=Nf ⟨2,[4],q [m 4 (i 0)] (s (q [m 5 (i 0)] (k [0,1,5] (.block 0 (.loop (s (q [m 6 5,m 7 0,o 8 (.aM 7),f 9 0 8,l 10 1 9,n 11 10,b 12 .lss 6 11] (k [0,1,5,12] (h 12 .skip (.exit 0)))) (k [0,1,5] (s (.block 1 (q [m 15 0,o 16 (.aM 15),f 17 0 16,l 18 1 17,m 19 5,u 20 40 18 19,f 21 0 20,l 22 1 21,m 23 1,b 24 .eql 22 23] (k [0,1,5,24] (h 24 (t [m 25 5,m 4 25]) .skip)))) (k [0,1,5] (p [m 13 5,b 14 .add 13 (i 1),m 5 14]))))))))) (k [] (t [m 4 (i (-1))])))⟩
structure HH (R:Env):Prop where
 abw:R.Fn 454 Wu
def Wv:bt:=Nf ⟨4,[8],q [x 6 2 2,x 7 39 3,m 8 (i 0)] (s (q [m 13 1,b 14 .lss 13 (i 1),m 15 14,⟨some 16,some (15,false),.mv 1⟩,⟨some 17,some (15,false),.bin .gtr 16 (i 65536)⟩,w 18 15 (.k (.bool true)) 17] (k [0,1,6,7,18] (h 18 (t [m 8 (i 2)]) .skip))) (k [0,1,6,7] (s (q [m 19 0,m 20 1,c 21 454 [19,20],b 22 .geq 21 (i 0)] (h 22 (t [m 8 (i 10)]) .skip)) (k [0,1,6,7] (s (q [g 23 24 7,c 24 295 [23],m 9 24] (q [m 25 9,b 26 .neq 25 (i 0)] (h 26 (t [m 27 9,m 8 27]) .skip))) (k [0,1,6,7] (s (q [f 28 1 6,l 29 1 28,f 30 0 7,l 31 1 30,b 32 .neq 29 31] (k [0,1,6,7,32] (h 32 (t [m 8 (i 12)]) .skip))) (y [0,1,6,7] [m 10 (.k .ai)] (q [m 11 (.k (.bool false))] (s (q [m 12 (i 0)] (k [0,1,6,7,10,11,12] (.block 0 (.loop (s (q [m 33 12,m 34 0,o 35 (.aM 34),f 36 0 35,l 37 1 36,n 38 37,b 39 .lss 33 38] (k [0,1,6,7,10,11,12,39] (h 39 .skip (.exit 0)))) (k [0,1,6,7,10,11,12] (s (.block 1 (s (q [m 42 11,o 43 (.un .not 42),m 44 43,⟨some 45,some (44,true),.mv 0⟩,⟨some 46,some (44,true),.aM 45⟩,⟨some 47,some (44,true),.aB 0 46⟩,⟨some 48,some (44,true),.load false 1 47⟩,⟨some 49,some (44,true),.mv 12⟩,⟨some 50,some (44,true),.lW 40 48 49⟩,⟨some 51,some (44,true),.aB 0 50⟩,⟨some 52,some (44,true),.load false 1 51⟩,⟨some 53,some (44,true),.mv 1⟩,⟨some 54,some (44,true),.bin .gtr 52 53⟩,w 55 44 54 (.k (.bool false))] (k [0,1,6,7,10,11,12,55] (h 55 (q [m 56 10,m 57 1,g 58 15 6,g 59 24 7,o 60 (.build Z2 [(0,1,57),(1,15,58),(16,24,59)]),o 61 (.aC 45 40 1 Z2 [(0,60)]),o 62 (.app 45 40 56 61),m 10 62] (k [0,1,6,7,10,12] (p [m 11 (.k (.bool true))]))) .skip))) (k [0,1,6,7,10,11,12] (p [m 63 10,m 64 0,o 65 (.aM 64),f 66 0 65,l 67 1 66,m 68 12,u 69 40 67 68,g 70 40 69,o 71 (.aC 45 40 1 Z2 [(0,70)]),o 72 (.app 45 40 63 71),m 10 72])))) (k [0,1,6,7,10,11,12] (p [m 40 12,b 41 .add 40 (i 1),m 12 41]))))))))) (k [0,1,6,7,10,11] (s (q [m 73 11,o 74 (.un .not 73)] (h 74 (p [m 75 10,m 76 1,g 77 15 6,g 78 24 7,o 79 (.build Z2 [(0,1,76),(1,15,77),(16,24,78)]),o 80 (.aC 45 40 1 Z2 [(0,79)]),o 81 (.app 45 40 75 80),m 10 81]) .skip)) (y [0,10] [m 82 0,m 83 10,o 84 (.aM 82),f 85 0 84,r 1 85 83] (k [] (t [m 8 (i 0)])))))))))))))))⟩
structure Qo (R:Env):Prop where
 abx:R.Fn 441 Wv
 n295:Qn R
 tV:HH R
def Ww:bt:=Nf ⟨2,[4],q [m 4 (i 0)] (q [m 9 0,m 10 1,c 11 454 [9,10],m 5 11] (s (q [m 12 5,b 13 .lss 12 (i 0)] (h 13 (t [m 4 (i 11)]) .skip)) (k [0,1,5] (s (.draw [0,0,0,4,12,28,0,124,254,0,512,1536,3584,0,8192,32256,65534,131071,262143,524287] [[0],[],[0],[16],[17],[18],[5],[19,20],[15,21],[0],[23],[24],[25],[5],[27],[26,28],[22,29],[14],[31],[32,30]] [m 14 0,o 15 (.aC 45 40 0 Z2 []),m 16 0,o 17 (.aM 16),f 18 0 17,l 19 1 18,m 20 5,o 21 (.sU 45 40 19 none (some 20) none),o 22 (.app 45 40 15 21),m 23 0,o 24 (.aM 23),f 25 0 24,l 26 1 25,m 27 5,b 28 .add 27 (i 1),o 29 (.sU 45 40 26 (some 28) none none),o 30 (.app 45 40 22 29),o 31 (.aM 14),f 32 0 31,r 1 32 30]) (y [0,1] [m 6 (.k .ai)] (s (q [m 7 (i 0)] (k [0,1,6,7] (.block 0 (.loop (s (q [m 33 7,m 34 0,o 35 (.aM 34),f 36 1 35,l 37 1 36,n 38 37,b 39 .lss 33 38] (k [0,1,6,7,39] (h 39 .skip (.exit 0)))) (k [0,1,6,7] (s (.block 1 (q [m 42 0,o 43 (.aM 42),f 44 1 43,l 45 1 44,m 46 7,u 47 16 45 46,g 48 16 47,a 8 44 Z8,r 16 8 48] (y [0,1,6,7,8] [f 49 0 8,l 50 1 49,m 51 1,b 52 .neq 50 51,m 53 52,⟨some 54,some (53,true),.aB 1 8⟩,⟨some 55,some (53,true),.load false 1 54⟩,⟨some 56,some (53,true),.mv 1⟩,⟨some 57,some (53,true),.bin .neq 55 56⟩,w 58 53 57 (.k (.bool false)),m 59 58,⟨some 60,some (59,true),.aB 2 8⟩,⟨some 61,some (59,true),.load false 1 60⟩,⟨some 62,some (59,true),.mv 1⟩,⟨some 63,some (59,true),.bin .neq 61 62⟩,w 64 59 63 (.k (.bool false))] (k [0,1,6,7,8,64] (h 64 (p [m 65 6,g 66 16 8,o 67 (.aC 44 16 1 Z8 [(0,66)]),o 68 (.app 44 16 65 67),m 6 68]) .skip))))) (k [0,1,6,7] (p [m 40 7,b 41 .add 40 (i 1),m 7 41]))))))))) (y [0,6] [m 69 0,m 70 6,o 71 (.aM 69),f 72 1 71,r 1 72 70] (k [] (t [m 4 (i 0)])))))))))⟩
structure Qp (R:Env):Prop where
 aby:R.Fn 442 Ww
 tV:HH R
def Wx:bt:=Nf ⟨2,[4],q [x 2 44 0,x 3 44 1,m 4 (.k (.bool false))] (s (.draw [0,1,0,4,0,16,0,64,255,0,512,0,2048,0,8192,0,32768,130560,511,524287] [[2],[8],[2],[10],[2],[12],[2],[14],[9,11,13,15],[3],[17],[3],[19],[3],[21],[3],[23],[18,20,22,24],[16],[25]] [f 8 0 2,l 9 1 8,f 10 1 2,l 11 1 10,f 12 2 2,l 13 1 12,f 14 3 2,l 15 1 14,o 16 (.aC 10 1 4 [j 0] [(0,9),(1,11),(2,13),(3,15)]),f 17 0 3,l 18 1 17,f 19 1 3,l 20 1 19,f 21 2 3,l 22 1 21,f 23 3 3,l 24 1 23,o 25 (.aC 10 1 4 [j 0] [(0,18),(1,20),(2,22),(3,24)]),m 5 16,m 6 25]) (k [5,6] (s (q [m 7 (i 0)] (k [5,6,7] (.block 0 (.loop (s (q [m 26 7,b 27 .lss 26 (i 4)] (h 27 .skip (.exit 0))) (k [5,6,7] (s (.block 1 (s (.draw [0,0,3,7,0,0,48,112,255] [[5],[7],[30,31],[32],[6],[7],[34,35],[36],[33,37]] [m 30 5,m 31 7,u 32 1 30 31,l 33 1 32,m 34 6,m 35 7,u 36 1 34 35,l 37 1 36,b 38 .neq 33 37]) (k [5,6,7,38] (h 38 (s (.draw [0,0,3,7,0,0,48,112,255,511] [[5],[7],[39,40],[41],[6],[7],[43,44],[45],[42,46],[47]] [m 39 5,m 40 7,u 41 1 39 40,l 42 1 41,m 43 6,m 44 7,u 45 1 43 44,l 46 1 45,b 47 .lss 42 46,m 4 47]) (k [4] .ret)) .skip)))) (k [5,6,7] (p [m 28 7,b 29 .add 28 (i 1),m 7 29]))))))))) (k [] (t [m 4 (.k (.bool false))])))))⟩
structure Lc (R:Env):Prop where
 EJ:R.Fn 456 Wx
def Wy:bt:=Nf ⟨2,[4],q [x 3 44 1,m 4 (i 0)] (s (q [m 5 (i 0)] (k [0,3,5] (.block 0 (.loop (s (q [m 6 5,m 7 0,o 8 (.aM 7),f 9 1 8,l 10 1 9,n 11 10,b 12 .lss 6 11] (k [0,3,5,12] (h 12 .skip (.exit 0)))) (k [0,3,5] (s (.block 1 (s (.draw [0,0,2,6,14,0,62,126,255,511,1023,2047,4095,8191,16383,2047,65535,131071,2047,524287,1048575,2097151] [[3],[0],[16],[17],[18],[5],[19,20],[21],[15,22],[23],[24],[0],[26],[27],[28],[5],[29,30],[31],[3],[32,33],[34],[25,35]] [g 15 16 3,m 16 0,o 17 (.aM 16),f 18 1 17,l 19 1 18,m 20 5,u 21 16 19 20,g 22 16 21,c 23 456 [15,22],o 24 (.un .not 23),m 25 24,⟨some 26,some (25,true),.mv 0⟩,⟨some 27,some (25,true),.aM 26⟩,⟨some 28,some (25,true),.aB 1 27⟩,⟨some 29,some (25,true),.load false 1 28⟩,⟨some 30,some (25,true),.mv 5⟩,⟨some 31,some (25,true),.lW 16 29 30⟩,⟨some 32,some (25,true),.load true 16 31⟩,⟨some 33,some (25,true),.load true 16 3⟩,⟨some 34,some (25,true),.call 456 [32,33]⟩,⟨some 35,some (25,true),.un .not 34⟩,w 36 25 35 (.k (.bool false))]) (k [0,3,5,36] (h 36 (t [m 37 5,m 4 37]) .skip)))) (k [0,3,5] (p [m 13 5,b 14 .add 13 (i 1),m 5 14]))))))))) (k [] (t [m 4 (i (-1))])))⟩
structure Ld (R:Env):Prop where
 abz:R.Fn 455 Wy
 pD:Lc R
def WA:bt:=Nf ⟨2,[4],q [x 3 44 1,m 4 (i 0)] (s (q [f 15 3 3,l 16 1 15,b 17 .lss 16 (i 0),m 18 17,⟨some 19,some (18,false),.aB 3 3⟩,⟨some 20,some (18,false),.load false 1 19⟩,⟨some 21,some (18,false),.bin .gtr 20 (i 65536)⟩,w 22 18 (.k (.bool true)) 21] (k [0,3,22] (h 22 (t [m 4 (i 2)]) .skip))) (k [0,3] (s (.draw [0,0,2,7,0,0,32,127,0,0,512,2047,4095,8191,16383] [[0],[3],[24],[23,25],[0],[3],[28],[27,29],[0],[3],[32],[31,33],[26],[30],[34]] [m 23 0,f 24 0 3,l 25 1 24,c 26 454 [23,25],m 27 0,f 28 1 3,l 29 1 28,c 30 454 [27,29],m 31 0,f 32 2 3,l 33 1 32,c 34 454 [31,33],m 5 26,m 6 30,m 7 34]) (k [0,3,5,6,7] (s (q [m 35 5,b 36 .lss 35 (i 0),m 37 36,⟨some 38,some (37,false),.mv 6⟩,⟨some 39,some (37,false),.bin .lss 38 (i 0)⟩,w 40 37 (.k (.bool true)) 39,m 41 40,⟨some 42,some (41,false),.mv 7⟩,⟨some 43,some (41,false),.bin .lss 42 (i 0)⟩,⟨some 44,some (41,false),.mv 43⟩,⟨some 45,some (44,true),.aB 2 3⟩,⟨some 46,some (44,true),.load false 1 45⟩,⟨some 47,some (44,true),.bin .neq 46 (i 0)⟩,⟨some 48,some (41,false),.pick 44 47 (.k (.bool false))⟩,w 49 41 (.k (.bool true)) 48] (k [0,3,5,6,7,49] (h 49 (t [m 4 (i 11)]) .skip))) (k [0,3,5,6,7] (s (q [m 50 0,o 51 (.aM 50),f 52 0 51,l 53 1 52,m 54 5,u 55 40 53 54,f 56 1 55,f 57 1 56,l 58 1 57,b 59 .neq 58 (i 1),m 60 59,⟨some 61,some (60,false),.mv 0⟩,⟨some 62,some (60,false),.aM 61⟩,⟨some 63,some (60,false),.aB 0 62⟩,⟨some 64,some (60,false),.load false 1 63⟩,⟨some 65,some (60,false),.mv 6⟩,⟨some 66,some (60,false),.lW 40 64 65⟩,⟨some 67,some (60,false),.aB 1 66⟩,⟨some 68,some (60,false),.aB 1 67⟩,⟨some 69,some (60,false),.load false 1 68⟩,⟨some 70,some (60,false),.bin .neq 69 (i 3)⟩,w 71 60 (.k (.bool true)) 70,m 72 71,⟨some 73,some (72,false),.aB 2 3⟩,⟨some 74,some (72,false),.load false 1 73⟩,⟨some 75,some (72,false),.bin .neq 74 (i 0)⟩,⟨some 76,some (72,false),.mv 75⟩,⟨some 77,some (76,true),.mv 0⟩,⟨some 78,some (76,true),.aM 77⟩,⟨some 79,some (76,true),.aB 0 78⟩,⟨some 80,some (76,true),.load false 1 79⟩,⟨some 81,some (76,true),.mv 7⟩,⟨some 82,some (76,true),.lW 40 80 81⟩,⟨some 83,some (76,true),.aB 1 82⟩,⟨some 84,some (76,true),.aB 1 83⟩,⟨some 85,some (76,true),.load false 1 84⟩,⟨some 86,some (76,true),.bin .neq 85 (i 2)⟩,⟨some 87,some (72,false),.pick 76 86 (.k (.bool false))⟩,w 88 72 (.k (.bool true)) 87] (k [0,3,5,88] (h 88 (t [m 4 (i 12)]) .skip))) (k [0,3,5] (s (q [m 89 0,g 90 16 3,c 91 455 [89,90],b 92 .geq 91 (i 0)] (h 92 (t [m 4 (i 10)]) .skip)) (y [0,3,5] [m 93 0,o 94 (.aM 93),f 95 0 94,l 96 1 95,m 97 5,u 98 40 96 97,f 99 16 98,f 100 1 99,f 101 0 100,l 102 1 101,m 8 102] (k [0,3,8] (s (q [m 9 (i 0)] (k [0,3,8,9] (.block 0 (.loop (s (q [m 103 9,m 104 8,n 105 104,b 106 .lss 103 105] (h 106 .skip (.exit 0))) (k [0,3,8,9] (s (.block 1 (s (.draw [0,1,0,0,12,28,63,127,255,255,0,1535,4095] [[3],[110],[8],[9],[112,113],[114],[111,115],[116],[109],[109],[],[10,117],[118]] [f 110 4 3,g 111 12 110,m 112 8,m 113 9,u 114 3 112 113,g 115 3 114,c 116 242 [111,115],m 109 116,e 117 109 0,e 118 109 1,a 10 26 [j 0,j 0,j 0],r 3 10 117,m 11 118]) (y [0,3,8,9,11] [m 119 11,b 120 .neq 119 (i 0)] (h 120 (t [m 121 11,m 4 121]) .skip)))) (k [0,3,8,9] (p [m 107 9,b 108 .add 107 (i 1),m 9 108]))))))))) (y [0,3] [m 12 (.k .ai)] (q [m 13 (.k (.bool false))] (s (q [m 14 (i 0)] (k [0,3,12,13,14] (.block 2 (.loop (s (q [m 122 14,m 123 0,o 124 (.aM 123),f 125 1 124,l 126 1 125,n 127 126,b 128 .lss 122 127] (k [0,3,12,13,14,128] (h 128 .skip (.exit 2)))) (k [0,3,12,13,14] (s (.block 3 (s (s (.draw [0,1,3,7,7,23,55,119,7,503,1015,2047,4095] [[13],[131],[132],[3],[0],[135],[136],[137],[14],[138,139],[140],[134,141],[133,142]] [m 131 13,o 132 (.un .not 131),m 133 132,⟨some 134,some (133,true),.load true 16 3⟩,⟨some 135,some (133,true),.mv 0⟩,⟨some 136,some (133,true),.aM 135⟩,⟨some 137,some (133,true),.aB 1 136⟩,⟨some 138,some (133,true),.load false 1 137⟩,⟨some 139,some (133,true),.mv 14⟩,⟨some 140,some (133,true),.lW 16 138 139⟩,⟨some 141,some (133,true),.load true 16 140⟩,⟨some 142,some (133,true),.call 456 [134,141]⟩,w 143 133 142 (.k (.bool false))]) (k [0,3,12,13,14,143] (h 143 (q [m 144 12,g 145 16 3,o 146 (.aC 44 16 1 Z8 [(0,145)]),o 147 (.app 44 16 144 146),m 12 147] (k [0,3,12,14] (p [m 13 (.k (.bool true))]))) .skip))) (k [0,3,12,13,14] (p [m 148 12,m 149 0,o 150 (.aM 149),f 151 1 150,l 152 1 151,m 153 14,u 154 16 152 153,g 155 16 154,o 156 (.aC 44 16 1 Z8 [(0,155)]),o 157 (.app 44 16 148 156),m 12 157])))) (k [0,3,12,13,14] (p [m 129 14,b 130 .add 129 (i 1),m 14 130]))))))))) (k [0,3,12,13] (s (q [m 158 13,o 159 (.un .not 158)] (h 159 (p [m 160 12,g 161 16 3,o 162 (.aC 44 16 1 Z8 [(0,161)]),o 163 (.app 44 16 160 162),m 12 163]) .skip)) (y [0,12] [m 164 0,m 165 12,o 166 (.aM 164),f 167 1 166,r 1 167 165] (k [] (t [m 4 (i 0)]))))))))))))))))))))⟩
structure Qq (R:Env):Prop where
 abA:R.Fn 443 WA
 n242:Qf R
 tV:HH R
 zP:Ld R
 pD:Lc R
def WB:bt:=Nf ⟨2,[4],q [x 3 44 1,m 4 (i 0)] (q [m 6 0,g 7 16 3,c 8 455 [6,7],m 5 8] (s (q [m 9 5,b 10 .lss 9 (i 0)] (h 10 (t [m 4 (i 11)]) .skip)) (k [0,5] (s (.draw [0,0,0,4,12,28,0,124,254,0,512,1536,3584,0,8192,32256,65534,131071,262143,524287] [[0],[],[0],[13],[14],[15],[5],[16,17],[12,18],[0],[20],[21],[22],[5],[24],[23,25],[19,26],[11],[28],[29,27]] [m 11 0,o 12 (.aC 44 16 0 Z8 []),m 13 0,o 14 (.aM 13),f 15 1 14,l 16 1 15,m 17 5,o 18 (.sU 44 16 16 none (some 17) none),o 19 (.app 44 16 12 18),m 20 0,o 21 (.aM 20),f 22 1 21,l 23 1 22,m 24 5,b 25 .add 24 (i 1),o 26 (.sU 44 16 23 (some 25) none none),o 27 (.app 44 16 19 26),o 28 (.aM 11),f 29 1 28,r 1 29 27]) (k [] (t [m 4 (i 0)]))))))⟩
structure Qr (R:Env):Prop where
 abB:R.Fn 444 WB
 zP:Ld R
end Go.UM
namespace Go.UM
open Go.AM
open Z
def WC:bt:=Nf ⟨1,[.cell 2 true 57],q [x 1 55 0,a 2 55 Z1] (q [f 3 17 1,f 4 1 3,g 5 3 4,c 6 191 [5],f 7 17 1,f 8 1 7,r 3 8 6] (y [1,2] [f 9 17 1,f 10 4 9,f 11 1 10,l 12 1 11,f 13 17 1,f 14 4 13,f 15 1 14,l 16 1 15,n 17 16,o 18 (.mm false [17,i 260]),o 19 (.sU 13 3 12 none (some 18) none),f 20 17 1,f 21 4 20,f 22 1 21,r 1 22 19] (k [1,2] (t [g 23 57 1,r 57 2 23]))))⟩
structure Qs (R:Env):Prop where
 WD:R.Fn 420 WC
 n191:P0 R
def WE:bt:=Nf ⟨2,[4],q [x 3 55 1,m 4 (i 0)] (s (q [f 5 0 3,l 6 1 5] (.block 0 (q [b 8 .eql 6 (i 0),m 7 8] (h 7 (q [m 9 0,f 10 1 3,l 11 1 10,f 12 2 3,g 13 15 12,f 14 17 3,g 15 24 14,c 16 346 [9,11,13,15],m 4 16] (k [4] .ret)) (q [b 18 .eql 6 (i 1),m 17 18] (h 17 (q [m 19 0,f 20 1 3,l 21 1 20,c 22 428 [19,21],m 4 22] (k [4] .ret)) (q [b 24 .eql 6 (i 2),m 23 24] (h 23 (q [m 25 0,f 26 41 3,g 27 16 26,c 28 347 [25,27],m 4 28] (k [4] .ret)) .skip)))))))) (y [0,3] [m 29 0,f 30 41 3,g 31 16 30,c 32 427 [29,31],m 4 32] (k [4] .ret)))⟩
structure Qt (R:Env):Prop where
 abC:R.Fn 421 WE
 n346:KU R
 EK:KV R
 Qu:PK R
 Qv:PL R
def WF:bt:=Nf ⟨2,[4],q [x 3 55 1,m 4 (i 0)] (s (q [f 5 0 3,l 6 1 5] (.block 0 (q [b 8 .eql 6 (i 0),m 7 8] (h 7 (q [m 9 0,f 10 1 3,l 11 1 10,f 12 2 3,g 13 15 12,f 14 17 3,g 15 24 14,c 16 441 [9,11,13,15],m 4 16] (k [4] .ret)) (q [b 18 .eql 6 (i 1),m 17 18] (h 17 (q [m 19 0,f 20 1 3,l 21 1 20,c 22 442 [19,21],m 4 22] (k [4] .ret)) (q [b 24 .eql 6 (i 2),m 23 24] (h 23 (q [m 25 0,f 26 41 3,g 27 16 26,c 28 443 [25,27],m 4 28] (k [4] .ret)) .skip)))))))) (y [0,3] [m 29 0,f 30 41 3,g 31 16 30,c 32 444 [29,31],m 4 32] (k [4] .ret)))⟩
structure Qw (R:Env):Prop where
 abD:R.Fn 432 WF
 Qx:Qo R
 Qy:Qp R
 Qz:Qq R
 QA:Qr R
end Go.UM
namespace Go.UM
open Go.AM
open Z
end Go.UM
namespace Go.UM
open Go.AM
open Z
def WG:bt:=Nf ⟨2,[4],q [m 4 (.k (.bool false))] (s (q [m 5 (i 0)] (k [0,1,5] (.block 0 (.loop (s (q [m 6 5,m 7 0,n 8 7,b 9 .lss 6 8] (h 9 .skip (.exit 0))) (k [0,1,5] (s (.block 1 (s (.draw [0,0,3,7,0,0,48,112,255] [[0],[5],[12,13],[14],[1],[5],[16,17],[18],[15,19]] [m 12 0,m 13 5,u 14 1 12 13,l 15 1 14,m 16 1,m 17 5,u 18 1 16 17,l 19 1 18,b 20 .neq 15 19]) (k [0,1,5,20] (h 20 (t [m 4 (.k (.bool false))]) .skip)))) (k [0,1,5] (p [m 10 5,b 11 .add 10 (i 1),m 5 11]))))))))) (k [] (t [m 4 (.k (.bool true))])))⟩
structure QB (R:Env):Prop where
 WH:R.Fn 507 WG
def WI:bt:=Nf ⟨2,[4],q [x 2 59 0,x 3 59 1,m 4 (.k (.bool false))] (s (q [f 10 0 2,l 11 1 10,n 12 11,f 13 0 3,l 14 1 13,n 15 14,b 16 .neq 12 15,m 17 16,⟨some 18,some (17,false),.aB 1 2⟩,⟨some 19,some (17,false),.load false 1 18⟩,⟨some 20,some (17,false),.fH 19⟩,⟨some 21,some (17,false),.aB 1 3⟩,⟨some 22,some (17,false),.load false 1 21⟩,⟨some 23,some (17,false),.fH 22⟩,⟨some 24,some (17,false),.bin .neq 20 23⟩,w 25 17 (.k (.bool true)) 24,m 26 25,⟨some 27,some (26,false),.aB 2 2⟩,⟨some 28,some (26,false),.load false 1 27⟩,⟨some 29,some (26,false),.fH 28⟩,⟨some 30,some (26,false),.aB 2 3⟩,⟨some 31,some (26,false),.load false 1 30⟩,⟨some 32,some (26,false),.fH 31⟩,⟨some 33,some (26,false),.bin .neq 29 32⟩,w 34 26 (.k (.bool true)) 33,m 35 34,⟨some 36,some (35,false),.aB 3 2⟩,⟨some 37,some (35,false),.load false 1 36⟩,⟨some 38,some (35,false),.fH 37⟩,⟨some 39,some (35,false),.aB 3 3⟩,⟨some 40,some (35,false),.load false 1 39⟩,⟨some 41,some (35,false),.fH 40⟩,⟨some 42,some (35,false),.bin .neq 38 41⟩,w 43 35 (.k (.bool true)) 42,m 44 43,⟨some 45,some (44,false),.aB 4 2⟩,⟨some 46,some (44,false),.load false 1 45⟩,⟨some 47,some (44,false),.fH 46⟩,⟨some 48,some (44,false),.aB 4 3⟩,⟨some 49,some (44,false),.load false 1 48⟩,⟨some 50,some (44,false),.fH 49⟩,⟨some 51,some (44,false),.bin .neq 47 50⟩,w 52 44 (.k (.bool true)) 51,m 53 52,⟨some 54,some (53,false),.aB 5 2⟩,⟨some 55,some (53,false),.load false 1 54⟩,⟨some 56,some (53,false),.fH 55⟩,⟨some 57,some (53,false),.aB 5 3⟩,⟨some 58,some (53,false),.load false 1 57⟩,⟨some 59,some (53,false),.fH 58⟩,⟨some 60,some (53,false),.bin .neq 56 59⟩,w 61 53 (.k (.bool true)) 60] (k [2,3,61] (h 61 (t [m 4 (.k (.bool false))]) .skip))) (k [2,3] (s (q [f 62 5 2,l 63 1 62,f 64 5 3,l 65 1 64,c 66 507 [63,65],o 67 (.un .not 66)] (k [2,3,67] (h 67 (t [m 4 (.k (.bool false))]) .skip))) (k [2,3] (s (q [m 5 (i 0)] (k [2,3,5] (.block 0 (.loop (s (q [m 68 5,f 69 0 2,l 70 1 69,n 71 70,b 72 .lss 68 71] (k [2,3,5,72] (h 72 .skip (.exit 0)))) (k [2,3,5] (s (.block 1 (s (.draw [0,1,0,7,15,0,32,0,224,480,1023] [[2],[75],[5],[76,77],[78],[3],[80],[5],[81,82],[83],[79,84]] [f 75 0 2,l 76 1 75,m 77 5,u 78 19 76 77,g 79 19 78,f 80 0 3,l 81 1 80,m 82 5,u 83 19 81 82,g 84 19 83,o 85 (.sT true [.i,.i,.i,.i,.i,.i,.i,.i,.i,.i,.i,.i,.i,.i,.i,.i,.i,.i,.i] 79 84)]) (k [2,3,5,85] (h 85 (t [m 4 (.k (.bool false))]) .skip)))) (k [2,3,5] (p [m 73 5,b 74 .add 73 (i 1),m 5 74]))))))))) (k [2,3] (s (q [m 6 (i 0)] (k [2,3,6] (.block 2 (.loop (s (q [m 86 6,f 87 1 2,l 88 1 87,n 89 88,b 90 .lss 86 89] (k [2,3,6,90] (h 90 .skip (.exit 2)))) (k [2,3,6] (s (.block 3 (s (.draw [0,1,0,7,15,0,32,0,224,480,1023] [[2],[93],[6],[94,95],[96],[3],[98],[6],[99,100],[101],[97,102]] [f 93 1 2,l 94 1 93,m 95 6,u 96 5 94 95,g 97 5 96,f 98 1 3,l 99 1 98,m 100 6,u 101 5 99 100,g 102 5 101,o 103 (.sT true [.i,.i,.i,.i,.i] 97 102)]) (k [2,3,6,103] (h 103 (t [m 4 (.k (.bool false))]) .skip)))) (k [2,3,6] (p [m 91 6,b 92 .add 91 (i 1),m 6 92]))))))))) (k [2,3] (s (q [m 7 (i 0)] (k [2,3,7] (.block 4 (.loop (s (q [m 104 7,f 105 2 2,l 106 1 105,n 107 106,b 108 .lss 104 107] (k [2,3,7,108] (h 108 .skip (.exit 4)))) (k [2,3,7] (s (.block 5 (s (.draw [0,1,0,7,15,0,32,0,224,480,1023,2047] [[2],[111],[7],[112,113],[114],[3],[116],[7],[117,118],[119],[115,120],[121]] [f 111 2 2,l 112 1 111,m 113 7,u 114 2 112 113,g 115 2 114,f 116 2 3,l 117 1 116,m 118 7,u 119 2 117 118,g 120 2 119,c 121 89 [115,120],o 122 (.un .not 121)]) (k [2,3,7,122] (h 122 (t [m 4 (.k (.bool false))]) .skip)))) (k [2,3,7] (p [m 109 7,b 110 .add 109 (i 1),m 7 110]))))))))) (k [2,3] (s (q [m 8 (i 0)] (k [2,3,8] (.block 6 (.loop (s (q [m 123 8,f 124 3 2,l 125 1 124,n 126 125,b 127 .lss 123 126] (k [2,3,8,127] (h 127 .skip (.exit 6)))) (k [2,3,8] (s (.block 7 (s (.draw [0,1,0,7,15,0,32,0,224,480,1023] [[2],[130],[8],[131,132],[133],[3],[135],[8],[136,137],[138],[134,139]] [f 130 3 2,l 131 1 130,m 132 8,u 133 13 131 132,g 134 13 133,f 135 3 3,l 136 1 135,m 137 8,u 138 13 136 137,g 139 13 138,o 140 (.sT true [.i,.i,.i,.i,.i,.i,.i,.i,.i,.i,.i,.i,.i] 134 139)]) (k [2,3,8,140] (h 140 (t [m 4 (.k (.bool false))]) .skip)))) (k [2,3,8] (p [m 128 8,b 129 .add 128 (i 1),m 8 129]))))))))) (k [2,3] (s (q [m 9 (i 0)] (k [2,3,9] (.block 8 (.loop (s (q [m 141 9,f 142 4 2,l 143 1 142,n 144 143,b 145 .lss 141 144] (k [2,3,9,145] (h 145 .skip (.exit 8)))) (k [2,3,9] (s (.block 9 (s (.draw [0,1,0,7,15,0,32,0,224,480,1023] [[2],[148],[9],[149,150],[151],[3],[153],[9],[154,155],[156],[152,157]] [f 148 4 2,l 149 1 148,m 150 9,u 151 1 149 150,l 152 1 151,f 153 4 3,l 154 1 153,m 155 9,u 156 1 154 155,l 157 1 156,b 158 .neq 152 157]) (k [2,3,9,158] (h 158 (t [m 4 (.k (.bool false))]) .skip)))) (k [2,3,9] (p [m 146 9,b 147 .add 146 (i 1),m 9 147]))))))))) (y [2,3] [f 159 6 2,l 160 1 159,f 161 6 3,l 162 1 161,b 163 .eql 160 162,m 164 163,⟨some 165,some (164,true),.aB 7 2⟩,⟨some 166,some (164,true),.load false 1 165⟩,⟨some 167,some (164,true),.aB 7 3⟩,⟨some 168,some (164,true),.load false 1 167⟩,⟨some 169,some (164,true),.bin .eql 166 168⟩,w 170 164 169 (.k (.bool false)),m 171 170,⟨some 172,some (171,true),.aB 8 2⟩,⟨some 173,some (171,true),.load false 1 172⟩,⟨some 174,some (171,true),.aB 8 3⟩,⟨some 175,some (171,true),.load false 1 174⟩,⟨some 176,some (171,true),.bin .eql 173 175⟩,w 177 171 176 (.k (.bool false)),m 4 177] (k [4] .ret)))))))))))))))⟩
structure QC (R:Env):Prop where
 WJ:R.Fn 492 WI
 YZ:N89 R
 Le:QB R
end Go.UM
namespace Go.UM
open Go.AM
open Z
def WK:bt:=Nf ⟨3,[6],q [m 6 (.k (.bool false))] (s (q [m 7 (i 0)] (k [0,1,2,7] (.block 0 (.loop (s (q [m 8 7,m 9 0,n 10 9,b 11 .lss 8 10,m 12 11,⟨some 13,some (12,true),.mv 7⟩,⟨some 14,some (12,true),.bin .lss 13 (i 30)⟩,w 15 12 14 (.k (.bool false))] (k [0,1,2,7,15] (h 15 .skip (.exit 0)))) (k [0,1,2,7] (s (.block 1 (q [m 18 0,m 19 7,u 20 57 18 19,f 21 0 20,l 22 1 21,b 23 .eql 22 (i 0),m 24 23,⟨some 25,some (24,true),.mv 0⟩,⟨some 26,some (24,true),.mv 7⟩,⟨some 27,some (24,true),.lW 57 25 26⟩,⟨some 28,some (24,true),.aB 1 27⟩,⟨some 29,some (24,true),.load false 1 28⟩,⟨some 30,some (24,true),.mv 1⟩,⟨some 31,some (24,true),.bin .eql 29 30⟩,w 32 24 31 (.k (.bool false)),m 33 32,⟨some 34,some (33,true),.mv 0⟩,⟨some 35,some (33,true),.mv 7⟩,⟨some 36,some (33,true),.mv 2⟩,⟨some 37,some (33,true),.lW 57 34 35⟩,⟨some 38,some (33,true),.aB 2 37⟩,⟨some 39,some (33,true),.aB 3 38⟩,⟨some 40,some (33,true),.bo 8 1 39 36⟩,⟨some 41,some (33,true),.load false 1 40⟩,⟨some 42,some (33,true),.bin .neq 41 (.k (.int .u8 0))⟩,w 43 33 42 (.k (.bool false))] (k [0,1,2,7,43] (h 43 (t [m 6 (.k (.bool false))]) .skip)))) (k [0,1,2,7] (p [m 16 7,b 17 .add 16 (i 1),m 7 17]))))))))) (k [] (t [m 6 (.k (.bool true))])))⟩
structure QD (R:Env):Prop where
 EL:R.Fn 504 WK
def WL:bt:=Nf ⟨3,[6],q [x 4 55 1,m 6 (.k (.bool false))] (s (q [f 7 0 4,l 8 1 7,b 9 .eql 8 (i 0),m 10 9,⟨some 11,some (10,false),.aB 0 4⟩,⟨some 12,some (10,false),.load false 1 11⟩,⟨some 13,some (10,false),.bin .eql 12 (i 1)⟩,w 14 10 (.k (.bool true)) 13] (k [0,2,4,14] (h 14 (q [m 15 0,f 16 1 4,l 17 1 16,m 18 2,c 19 504 [15,17,18],m 6 19] (k [6] .ret)) .skip))) (y [0,2,4] [m 20 0,f 21 41 4,f 22 0 21,l 23 1 22,m 24 2,c 25 504 [20,23,24],m 26 25,⟨some 27,some (26,false),.mv 0⟩,⟨some 28,some (26,false),.aB 41 4⟩,⟨some 29,some (26,false),.aB 1 28⟩,⟨some 30,some (26,false),.load false 1 29⟩,⟨some 31,some (26,false),.mv 2⟩,⟨some 32,some (26,false),.call 504 [27,30,31]⟩,w 33 26 (.k (.bool true)) 32,m 34 33,⟨some 35,some (34,false),.aB 41 4⟩,⟨some 36,some (34,false),.aB 2 35⟩,⟨some 37,some (34,false),.load false 1 36⟩,⟨some 38,some (34,false),.bin .neq 37 (i 0)⟩,⟨some 39,some (34,false),.mv 38⟩,⟨some 40,some (39,true),.mv 0⟩,⟨some 41,some (39,true),.aB 41 4⟩,⟨some 42,some (39,true),.aB 2 41⟩,⟨some 43,some (39,true),.load false 1 42⟩,⟨some 44,some (39,true),.mv 2⟩,⟨some 45,some (39,true),.call 504 [40,43,44]⟩,⟨some 46,some (34,false),.pick 39 45 (.k (.bool false))⟩,w 47 34 (.k (.bool true)) 46,m 6 47] (k [6] .ret)))⟩
structure QE (R:Env):Prop where
 WM:R.Fn 489 WL
 zQ:QD R
def WN:bt:=Nf ⟨1,[2,3],q [m 2 (.k .bP),m 3 (.k .bP)] (q [c 8 345 [],o 9 (.build [.ai,.ai] []),x 10 56 9,m 4 8,m 5 10] (k [0,4,5] (s (q [m 6 (i 0)] (k [0,4,5,6] (.block 0 (.loop (s (q [m 11 6,m 12 0,n 13 12,b 14 .lss 11 13,m 15 14,⟨some 16,some (15,true),.mv 6⟩,⟨some 17,some (15,true),.bin .lss 16 (i 30)⟩,w 18 15 17 (.k (.bool false))] (k [0,4,5,6,18] (h 18 .skip (.exit 0)))) (k [0,4,5,6] (s (.block 1 (q [m 21 0,m 22 6,u 23 57 21 22,g 24 57 23,c 25 420 [24],a 7 55 Z1,r 57 7 25] (y [0,4,5,6,7] [m 26 4,g 27 57 7,c 28 421 [26,27]] (p [m 29 5,g 30 57 7,c 31 432 [29,30]])))) (k [0,4,5,6] (p [m 19 6,b 20 .add 19 (i 1),m 6 20]))))))))) (k [4,5] (t [m 32 4,m 33 5,m 2 32,m 3 33])))))⟩
structure QF (R:Env):Prop where
 abE:R.Fn 490 WN
 n345:KN R
 Lf:Qs R
 QG:Qt R
 QH:Qw R
def WO:bt:=Nf ⟨0,[0],q [m 0 (.k (.bool false))] (q [c 5 345 [],m 1 5] (s (q [m 6 1,o 7 (.RO false 6)] (h 7 (t [m 0 (.k (.bool false))]) .skip)) (y [1] [o 8 (.build [j 0,j 0,j 0] []),o 9 (.build [j 0,j 0,j 0] [(0,1,i 5)]),o 10 (.build [j 0,j 0,j 0] [(1,1,i 7)]),o 11 (.aC 26 3 3 [j 0,j 0,j 0] [(0,8),(1,9),(2,10)]),o 12 (.ZJ 18 2 [j 0,j 0] (i 3) (i 3)),o 13 (.build [j 0,j 0,j 0] [(0,1,i 0),(1,1,i 1),(2,1,i 2)]),o 14 (.build [j 0,j 0,j 0] [(0,1,i 2),(1,1,i 1),(2,1,i 0)]),o 15 (.aC 13 3 2 [j 0,j 0,j 0] [(0,13),(1,14)]),o 16 (.build [.ai,.ai,.ai] [(0,1,11),(1,1,12),(2,1,15)]),o 17 (.build Z4 [(0,1,i 1),(1,3,16)]),a 2 39 Z4,r 24 2 17] (y [1,2] [m 18 1,o 19 (.build Z5 [(0,1,.k (.int .u8 1))]),o 20 (.build Z3 [(1,1,i 1),(3,8,19)]),g 21 24 2,c 22 346 [18,i 1,20,21]] (y [1] [m 23 1,o 24 (.build Z5 [(0,1,.k (.int .u8 1))]),o 25 (.build Z3 [(1,1,i 3),(3,8,24)]),o 26 (.build Z4 [(0,1,i 3)]),c 27 346 [23,i 2,25,26]] (y [1] [m 28 1,c 29 221 [],o 30 (.build Z8 [(0,1,i 1),(1,1,i 2),(4,12,29)]),c 31 347 [28,30]] (q [m 33 1,c 34 491 [33,i 0],m 32 34,e 35 32 0,e 36 32 1,a 3 59 Z7,r 9 3 35,m 4 36] (y [3,4] [m 37 4,b 38 .eql 37 (i 0),m 39 38,⟨some 40,some (39,true),.aB 0 3⟩,⟨some 41,some (39,true),.load false 1 40⟩,⟨some 42,some (39,true),.fH 41⟩,⟨some 43,some (39,true),.bin .eql 42 (i 2)⟩,w 44 39 43 (.k (.bool false)),m 45 44,⟨some 46,some (45,true),.aB 1 3⟩,⟨some 47,some (45,true),.load false 1 46⟩,⟨some 48,some (45,true),.fH 47⟩,⟨some 49,some (45,true),.bin .eql 48 (i 1)⟩,w 50 45 49 (.k (.bool false)),m 51 50,⟨some 52,some (51,true),.aB 0 3⟩,⟨some 53,some (51,true),.load false 1 52⟩,⟨some 54,some (51,true),.lW 19 53 (i 0)⟩,⟨some 55,some (51,true),.aB 16 54⟩,⟨some 56,some (51,true),.load false 1 55⟩,⟨some 57,some (51,true),.bin .eql 56 (i (-1))⟩,w 58 51 57 (.k (.bool false)),m 0 58] (k [0] .ret)))))))))⟩
structure QI (R:Env):Prop where
 WP:R.Fn 493 WO
 n221:O' R
 n345:KN R
 n346:KU R
 EK:KV R
 BI:K0 R
def WQ:bt:=Nf ⟨2,[4],q [m 4 (.k (.bool false))] (q [m 16 1,b 17 .rem 16 (i 8),b 18 .add 17 (i 8),b 19 .rem 18 (i 8),m 1 19] (y [0,1] [m 20 0,m 21 0,n 22 21,o 23 (.mm false [22,i 30]),o 24 (.sU 55 57 20 none (some 23) none),m 0 24] (y [0,1] [m 5 (.k .ai)] (s (q [m 25 0,n 26 25,m 27 (i 0)] (k [0,1,5,25,26,27] (.block 0 (.loop (q [b 28 .lss 27 26] (s (h 28 .skip (.exit 0)) (k [0,1,5,25,26,27] (s (.block 1 (q [u 29 57 25 27,g 30 57 29,a 7 55 Z1,r 57 7 30] (q [m 31 0,g 32 57 7,m 33 1,c 34 489 [31,32,33],o 35 (.un .not 34)] (k [0,1,5,7,25,26,27,35] (h 35 (p [m 36 5,g 37 57 7,o 38 (.aC 55 57 1 Z1 [(0,37)]),o 39 (.app 55 57 36 38),m 5 39]) .skip))))) (k [0,1,5,25,26,27] (p [b 40 .add 27 (i 1),m 27 40])))))))))) (y [0,1,5] [m 42 0,c 43 490 [42],m 41 43,e 44 41 0,e 45 41 1,m 8 44,m 9 45] (y [1,5,8] [m 47 5,c 48 490 [47],m 46 48,e 49 46 0,e 50 46 1,m 10 49,m 11 50] (y [1,8,10] [m 52 8,m 53 1,c 54 491 [52,53],m 51 54,e 55 51 0,e 56 51 1,a 12 59 Z7,r 9 12 55,m 13 56] (y [1,10,12,13] [m 58 10,m 59 1,c 60 491 [58,59],m 57 60,e 61 57 0,e 62 57 1,a 14 59 Z7,r 9 14 61,m 15 62] (y [12,13,14,15] [m 63 13,b 64 .eql 63 (i 0),m 65 64,⟨some 66,some (65,true),.mv 15⟩,⟨some 67,some (65,true),.bin .eql 66 (i 0)⟩,w 68 65 67 (.k (.bool false)),m 69 68,⟨some 70,some (69,true),.load true 9 12⟩,⟨some 71,some (69,true),.load true 9 14⟩,⟨some 72,some (69,true),.call 492 [70,71]⟩,w 73 69 72 (.k (.bool false)),m 74 73,⟨some 75,some (74,true),.call 493 []⟩,w 76 74 75 (.k (.bool false)),m 4 76] (k [4] .ret))))))))))⟩
structure WR (R:Env):Prop where
 abF:R.Fn 488 WQ
 Lg:QE R
 Lh:QF R
 BI:K0 R
 Li:QC R
 Lj:QI R
end Go.UM
namespace Go.UM
open Go.AM
def u8 (n:Int):UInt8:=UInt8.ofNat (n % 256).toNat
theorem CP (n:Int):wr .u8 n=((u8 n).toNat:Int):=by
 have h1:0<=n % 256:=Int.emod_nonneg _ (by decide)
 have h2:n % 256<256:=Int.emod_lt_of_pos _ (by decide)
 simp only[wr,IntKind.wrap,IntKind.bits,IntKind.signed,u8]
 simp
 omega
theorem BJ (n:Int):u8 (n % 256)=u8 n:=by unfold u8; rw[Int.emod_emod_of_dvd n (Int.dvd_refl 256)]
theorem Lk {n:Int} (h:0<=n):u8 (n.tmod 256)=u8 n:=by rw[Int.tmod_eq_emod_of_nonneg h,BJ]
theorem u8_in {n:Int} (h:0<=n/\n<=255):((u8 n).toNat:Int)=n:=by rw[<-CP,CO (k:= .u8) h]
def bA (l:List UInt8):List (List AV):=l.map fun c=>[.int .u8 c.toNat]
def bp (k:IntKind) (l:List Int):List (List AV):=l.map fun x=>[.int k x]
@[simp] theorem WS:bA []=[]:=rfl
@[simp] theorem fS (l:List UInt8):(bA l).length=l.length:=by simp[bA]
@[simp] theorem Nb (a b:List UInt8):bA (a++b)=bA a++bA b:=by simp[bA]
@[simp] theorem WT (n:Int):[[AV.int .u8 (wr .u8 n)]]=bA [u8 n]:=by simp[bA,CP]
@[simp] theorem WU (k:IntKind):bp k []=[]:=rfl
@[simp] theorem zR (k:IntKind) (l:List Int):(bp k l).length=l.length:=by simp[bp]
@[simp] theorem Nc (k:IntKind) (a b:List Int):bp k (a++b)=bp k a++bp k b:=by simp[bp]
@[simp] theorem WV (l:List UInt8):mW (bA l):=by simp[bA]
@[simp] theorem WW (k:IntKind) (l:List Int):mW (bp k l):=by simp[bp]
@[simp] theorem WX (l:List UInt8):zK (bA l):=by simp[bA]
@[simp] theorem WY (k:IntKind) (l:List Int):zK (bp k l):=by simp[bp]
instance {l:List UInt8}:iG (bA l) l.length:=⟨fS l⟩
instance {k:IntKind} {l:List Int}:iG (bp k l) l.length:=⟨zR k l⟩
@[simp] theorem WZ {e:List AV} {l:List UInt8}:e ∈ bA l↔∃c,c ∈ l/\[AV.int .u8 c.toNat]=e:=by simp[bA]
@[simp] theorem W4 {k:IntKind} {e:List AV} {l:List Int}:e ∈ bp k l↔∃c,c ∈ l/\[AV.int k c]=e:=by simp[bp]
theorem ar {α:Type} {l:List α} {k:Nat} {x:α} (h:l[k]? =some x):l.take (k+1)=l.take k++ [x]:=by
 rw[List.take_add_one,h]; rfl
theorem QJ {k:IntKind} {x y:Int} (hx:0<=x):fC k x y=x / 2 ^ (min y.toNat k.bits):=by
 unfold fC
 rw[Int.fdiv_eq_ediv_of_nonneg]
 exact Int.le_of_lt (Int.pow_pos (by decide))
theorem aS8 {s:List UInt8} {K:List UInt8->Prop} (k:K s):SH (bA s) K:=⟨⟨s,rfl,k⟩⟩
theorem tW {α:Type} (l:List α) (m:Int):l.take (min (l.length:Int) m).toNat=l.take m.toNat:=by
 by_cases h:(l.length:Int)<=m
 ·rw[show (min (l.length:Int) m).toNat=l.length by omega,List.take_of_length_le (Nat.le_refl _),List.take_of_length_le (by omega)]
 ·rw[show (min (l.length:Int) m).toNat=m.toNat by omega]
end Go.UM
namespace Go.UM
open Go.AM
theorem jX {n:Nat} {x:Int} (h0:0<=x) (h1:x<2 ^ n):(BitVec.ofInt n x).toNat=x.toNat:=by
 rw[BitVec.toNat_ofInt]
 congr 1
 apply Int.emod_eq_of_lt h0
 exact_mod_cast h1
theorem tX {x:Nat} (h:x<18446744073709551616):wr .u64 (x:Int)=x:=CO (k:= .u64) ⟨by omega,by omega⟩
theorem BK {x y:Int} (hx:0<=x/\x<=18446744073709551615) (hy:0<=y/\y<=18446744073709551615):eE .or .u64 x y=((x.toNat||| y.toNat:Nat):Int):=by
 have e:eE .or .u64 x y=wr .u64 ((BitVec.ofInt 64 x||| BitVec.ofInt 64 y).toNat:Int):=rfl
 rw[e,BitVec.toNat_or,jX hx.1 (by omega),jX hy.1 (by omega)]
 apply tX
 exact Nat.or_lt_two_pow (n:=64) (by omega) (by omega)
theorem Ll {x y:Int} (hx:0<=x/\x<=18446744073709551615) (hy:0<=y/\y<=18446744073709551615):eE .and .u64 x y=((x.toNat&&& y.toNat:Nat):Int):=by
 have e:eE .and .u64 x y=wr .u64 ((BitVec.ofInt 64 x&&& BitVec.ofInt 64 y).toNat:Int):=rfl
 rw[e,BitVec.toNat_and,jX hx.1 (by omega),jX hy.1 (by omega)]
 apply tX
 exact Nat.and_lt_two_pow (n:=64) _ (by omega)
def le:List UInt8->Nat
 |[]=>0
 |c::r=>c.toNat+256*le r
end Go.UM
namespace Go.UM
open Go.AM
structure T3 where
 (a b c:Int)
def z3:T3:=⟨0,0,0⟩
def t3 (x:T3):List AV:=[.int .i64 x.a,.int .i64 x.b,.int .i64 x.c]
def bJ (l:List T3):List (List AV):=l.map t3
@[simp] theorem W5:bJ []=[]:=rfl
@[simp] theorem zS (l:List T3):(bJ l).length=l.length:=by simp[bJ]
@[simp] theorem Nd (a b:List T3):bJ (a++b)=bJ a++bJ b:=by simp[bJ]
@[simp] theorem W6 (l:List T3):mW (bJ l):=by simp[bJ,t3]
@[simp] theorem W7 (l:List T3):zK (bJ l):=by simp[bJ,t3]
theorem EM (l:List T3) (k:Nat):(bJ l).take k=bJ (l.take k):=by simp[bJ,List.map_take]
instance {l:List T3}:iG (bJ l) l.length:=⟨zS l⟩
end Go.UM
namespace Go.UM
open Go.AM
set_option maxRecDepth 4000
abbrev fA (n:Int):Prop:=bf .i64 n
abbrev Jv (n:Int):Prop:=bf .u64 n
theorem cy {n:Int}:fA n↔ -9223372036854775808<=n/\n<=9223372036854775807:=Iff.rfl
theorem se {n:Int}:Jv n↔0<=n/\n<=18446744073709551615:=Iff.rfl
theorem iB (n:Int):wr .u64 n=n % 18446744073709551616:=by
 simp only[wr,IntKind.wrap,IntKind.bits,IntKind.signed]; simp
theorem eb (n:Int):wr .i64 n=(n+9223372036854775808) % 18446744073709551616 - 9223372036854775808:=by
 simp only[wr,IntKind.wrap,IntKind.bits,IntKind.signed]; simp; omega
def jY (v:Int):Int:=if 9223372036854775807<v then 9223372036854775807 else if v< -9223372036854775808 then -9223372036854775808 else v
theorem tY (v:Int):fA (jY v):=by
 rw[cy]; unfold jY; split
 ·omega
 ·split<;>omega
theorem xR {v:Int} (h:fA v):jY v=v:=by
 rw[cy]at h; unfold jY; rw[if_neg (by omega),if_neg (by omega)]
def gU (a b:Int):Int:=jY (a+b)
def pE (a b:Int):Int:=jY (a*b / 4294967296)
def bK (x:Int):Int:=if x<0 then -x else x
theorem hG {x:Int} (h:fA x):0<=bK x/\bK x<=9223372036854775808:=by
 rw[cy]at h; unfold bK; split<;>omega
theorem xS (a b:Int):a*b=if (decide (a<0) != decide (b<0))=true then -(bK a*bK b)else bK a*bK b:=by
 unfold bK
 by_cases ha:a<0<;>by_cases hb:b<0<;>simp[ha,hb,Int.neg_mul,Int.mul_neg]
theorem gV {x y B:Int} (hx:0<=x/\x<=B) (hy:0<=y/\y<=B):0<=x*y/\x*y<=B*B:=
 ⟨Int.mul_nonneg hx.1 hy.1,Int.mul_le_mul hx.2 hy.2 hy.1 (by omega)⟩
theorem CQ {a b:Int} (ha:fA a) (hb:fA b): -85070591730234615865843651857942052864<=a*b/\a*b<=85070591730234615865843651857942052864:=by
 have h:=gV (hG ha) (hG hb)
 rw[xS]
 split<;>omega
def lU (v:Int):Int:=v / 18446744073709551616
def xT (v:Int):Int:=v % 18446744073709551616
abbrev Lm (v:Int):Prop:= -85070591730234615865843651857942052864<=v/\v<=85070591730234615865843651857942052864
theorem xU {v:Int} (h:Lm v): -4611686018427387904<=lU v/\lU v<=4611686018427387904:=by unfold lU; omega
theorem qo (v:Int):0<=xT v/\xT v<=18446744073709551615:=by unfold xT; omega
theorem Ln {x y:Int} (hx:Jv x) (hy:Jv y):
  (0<=x % 4294967296* (y % 4294967296)/\x % 4294967296* (y % 4294967296)<=18446744065119617025)/\
  (0<=x / 4294967296* (y % 4294967296)/\x / 4294967296* (y % 4294967296)<=18446744065119617025)/\
  (0<=x % 4294967296* (y / 4294967296)/\x % 4294967296* (y / 4294967296)<=18446744065119617025)/\
  (0<=x / 4294967296* (y / 4294967296)/\x / 4294967296* (y / 4294967296)<=18446744065119617025)/\
  x*y=x / 4294967296* (y / 4294967296)*18446744073709551616+ (x / 4294967296* (y % 4294967296)+x % 4294967296* (y / 4294967296))*4294967296+x % 4294967296* (y % 4294967296):=by
 rw[se]at hx hy
 have a1:0<=x % 4294967296/\x % 4294967296<=4294967295:=by omega
 have a2:0<=x / 4294967296/\x / 4294967296<=4294967295:=by omega
 have b1:0<=y % 4294967296/\y % 4294967296<=4294967295:=by omega
 have b2:0<=y / 4294967296/\y / 4294967296<=4294967295:=by omega
 refine⟨gV a1 b1,gV a2 b1,gV a1 b2,gV a2 b2,?_⟩
 have ex:x=x / 4294967296*4294967296+x % 4294967296:=by omega
 have ey:y=y / 4294967296*4294967296+y % 4294967296:=by omega
 generalize x / 4294967296=p at*
 generalize x % 4294967296=q at*
 generalize y / 4294967296=r at*
 generalize y % 4294967296=s at*
 subst ex; subst ey
 simp only[Int.mul_add,Int.add_mul]
 have e1:p*4294967296* (r*4294967296)=p*r*18446744073709551616:=by
  rw[Int.mul_assoc p,Int.mul_left_comm 4294967296 r,<-Int.mul_assoc]; rfl
 have e2:p*4294967296*s=p*s*4294967296:=by rw[Int.mul_assoc,Int.mul_comm 4294967296 s,Int.mul_assoc]
 have e3:q* (r*4294967296)=q*r*4294967296:=by rw[Int.mul_assoc]
 rw[e1,e2,e3]
 omega
theorem zU {hi lo:Int} (hh:0<=hi/\hi<=4294967295) (hl:0<=lo/\lo<=4294967295):eE .or .u64 (hi*4294967296) lo=hi*4294967296+lo:=by
 rw[BK ⟨by omega,by omega⟩ ⟨by omega,by omega⟩]
 have e:(hi*4294967296).toNat=2 ^ 32*hi.toNat:=by omega
 rw[e,<-Nat.two_pow_add_eq_or_of_lt (i:=32) (b:=lo.toNat) (by omega)]
 omega
theorem pF {x:Int} (h:Jv x):eE .and .u64 x 4294967295=x % 4294967296:=by
 rw[se]at h
 rw[Ll ⟨by omega,by omega⟩ ⟨by omega,by omega⟩]
 have e:((4294967295:Int).toNat)=2 ^ 32 - 1:=rfl
 rw[e,Nat.and_two_pow_sub_one_eq_mod]
 omega
theorem wE {x:Int} (k:IntKind) (hk:32<=k.bits):fC k x 32=x / 4294967296:=by
 unfold fC
 rw[show min (32:Int).toNat k.bits=32 by simp; omega]
 exact Int.fdiv_eq_ediv_of_nonneg _ (by decide)
theorem Ng {x:Int} (k:IntKind) (hk:63<=k.bits):fC k x 63=x / 9223372036854775808:=by
 unfold fC
 rw[show min (63:Int).toNat k.bits=63 by simp; omega]
 exact Int.fdiv_eq_ediv_of_nonneg _ (by decide)
theorem W8 {x:Int} (k:IntKind) (hk:31<=k.bits):fC k x 31=x / 2147483648:=by
 unfold fC
 rw[show min (31:Int).toNat k.bits=31 by simp; omega]
 exact Int.fdiv_eq_ediv_of_nonneg _ (by decide)
theorem HI {x:Int}:pY .u64 x 32=x*4294967296 % 18446744073709551616:=by
 unfold pY
 rw[show min (32:Int).toNat (IntKind.bits .u64)=32 by rfl]
 show wr .u64 _=_
 rw[iB]; rfl
end Go.UM
namespace Go.UM
open Go.AM
set_option maxRecDepth 4000
abbrev T3.I (t:T3):Prop:=fA t.a/\fA t.b/\fA t.c
def vn (x y:T3):T3:=⟨gU x.a y.a,gU x.b y.b,gU x.c y.c⟩
def vp (x y:T3):T3:=⟨pE x.a y.a,pE x.b y.b,pE x.c y.c⟩
def BL:T3:=⟨4294967296,4294967296,4294967296⟩
def Nh (x y:T3):Int:=gU (gU (pE x.a y.a) (pE x.b y.b)) (pE x.c y.c)
def n1 (x:Int):Int:=if x<0 then jY (-x)else x
def CR (v:T3):Int:=max (max (n1 v.a) (n1 v.b)) (n1 v.c)
def eW (x:Int):Int:=(x+2147483648) / 4294967296
def RZ (p:T3):T3:=⟨jY (p.a*4294967296),jY (p.b*4294967296),jY (p.c*4294967296)⟩
theorem fB (x y:Int):fA (gU x y):=tY _
theorem jZ (x y:Int):fA (pE x y):=tY _
theorem CS (x y:T3):(vn x y).I:=⟨fB _ _,fB _ _,fB _ _⟩
theorem CT (x y:T3):(vp x y).I:=⟨jZ _ _,jZ _ _,jZ _ _⟩
theorem BM (x y:T3):fA (Nh x y):=fB _ _
theorem HJ (p:T3):(RZ p).I:=⟨tY _,tY _,tY _⟩
theorem wF {x:Int} (h:fA x):gU 0 x=x:=by unfold gU; rw[Int.zero_add,xR h]
theorem HK {x:Int} (h:fA x):pE 4294967296 x=x:=by unfold pE; rw[Int.mul_ediv_cancel_left _ (by decide),xR h]
theorem W9 {x:T3} (h:x.I):vn z3 x=x:=by simp only[vn,z3,wF h.1,wF h.2.1,wF h.2.2]
theorem Xa {x:T3} (h:x.I):vp BL x=x:=by simp only[vp,BL,HK h.1,HK h.2.1,HK h.2.2]
theorem Ni:z3.I:=⟨⟨by decide,by decide⟩,⟨by decide,by decide⟩,⟨by decide,by decide⟩⟩
theorem Lo:BL.I:=⟨⟨by decide,by decide⟩,⟨by decide,by decide⟩,⟨by decide,by decide⟩⟩
structure Af where
 (m0 m1 m2 m3 m4 m5 m6 m7 m8:Int)
 t:T3
def Af.row (a:Af):List AV:=[.int .i64 a.m0,.int .i64 a.m1,.int .i64 a.m2,.int .i64 a.m3,.int .i64 a.m4,.int .i64 a.m5,.int .i64 a.m6,.int .i64 a.m7,.int .i64 a.m8,.int .i64 a.t.a,.int .i64 a.t.b,.int .i64 a.t.c]
def Af.Xb (a:Af):List AV:=[.int .i64 a.m0,.int .i64 a.m1,.int .i64 a.m2,.int .i64 a.m3,.int .i64 a.m4,.int .i64 a.m5,.int .i64 a.m6,.int .i64 a.m7,.int .i64 a.m8]
structure Af.I (a:Af):Prop where
 m0:fA a.m0
 m1:fA a.m1
 m2:fA a.m2
 m3:fA a.m3
 m4:fA a.m4
 m5:fA a.m5
 m6:fA a.m6
 m7:fA a.m7
 m8:fA a.m8
 t:a.t.I
def Af.rw (a:Af):Nat->T3
 |0=>⟨a.m0,a.m1,a.m2⟩|1=>⟨a.m3,a.m4,a.m5⟩|_=>⟨a.m6,a.m7,a.m8⟩
def Af.cl (a:Af):Nat->T3
 |0=>⟨a.m0,a.m3,a.m6⟩|1=>⟨a.m1,a.m4,a.m7⟩|_=>⟨a.m2,a.m5,a.m8⟩
theorem Af.I.rw {a:Af} (h:a.I) (i:Nat):(a.rw i).I:=by
 unfold Af.rw; split
 ·exact⟨h.m0,h.m1,h.m2⟩
 ·exact⟨h.m3,h.m4,h.m5⟩
 ·exact⟨h.m6,h.m7,h.m8⟩
theorem Af.I.cl {a:Af} (h:a.I) (i:Nat):(a.cl i).I:=by
 unfold Af.cl; split
 ·exact⟨h.m0,h.m3,h.m6⟩
 ·exact⟨h.m1,h.m4,h.m7⟩
 ·exact⟨h.m2,h.m5,h.m8⟩
def HL:Af:=⟨4294967296,0,0,0,4294967296,0,0,0,4294967296,z3⟩
def wG (a:Af) (v:T3):T3:=⟨Nh (a.rw 0) v,Nh (a.rw 1) v,Nh (a.rw 2) v⟩
def qp (a:Af) (v:T3):T3:=vn (wG a v) a.t
theorem CU (a:Af) (v:T3):(wG a v).I:=⟨BM _ _,BM _ _,BM _ _⟩
theorem zV (a:Af) (v:T3):(qp a v).I:=CS _ _
theorem Lp:HL.I:=by
 refine⟨?_,?_,?_,?_,?_,?_,?_,?_,?_,Ni⟩<;>exact⟨by decide,by decide⟩
def bU (x:Int):Bool:=decide (1099511627776<x)||decide (x< -1099511627776)
def ms (a:Af):List Int:=[a.m0,a.m1,a.m2,a.m3,a.m4,a.m5,a.m6,a.m7,a.m8]
def vq (a:Af):Int:=if (ms a).any bU=true then 2 else if 562949953421312<CR a.t then 2 else 0
def EN (x:Int):Bool:=decide (65536<x)||decide (x< -65536)
def Lq (v:T3):T3:=⟨eW v.a,eW v.b,eW v.c⟩
def n2 (v:T3):T3 × Int:=if (EN (eW v.a)||EN (eW v.b)||EN (eW v.c))=true then (z3,8)else (Lq v,0)
def bW (a:Af) (p:T3):T3 × Int:=if vq a≠0 then (z3,vq a)else n2 (qp a (RZ p))
end Go.UM
namespace Go.UM
open Go.AM
set_option maxRecDepth 4000
def HM:Array Value->Sem Value:=fun args=>do
 let (x,y,b)<-Extern.MathBitsCarry.three "Sub64" args
 pure (Extern.MathBitsCarry.pair ((x+Extern.MathBitsCarry.m64 - y - b) % Extern.MathBitsCarry.m64) (if x<y+b then 1 else 0))
theorem EO {P:Program} (x y b:Nat) (hb:b<=1) (w:World):(HM #[.int .u64 x,.int .u64 y,.int .u64 b]).run P w=
  .ok (.tuple #[.int .u64 (((x+18446744073709551616 - y - b) % 18446744073709551616:Nat):Int),.int .u64 ((if x<y+b then 1 else 0:Nat):Int)]) w:=by
 have:b=0\/ b=1:=by omega
 rcases this with rfl|rfl<;>rfl
theorem EP {fn:Func} (hn:fn.name= "math/bits.Sub64") (ho:fn.origin= ""):(fn.name== "runtime.NumGoroutine")=false/\Extern.findNext fn=none/\Extern.find fn=some HM:=by
 obtain⟨name,origin⟩:=fn
 simp only at hn ho
 subst hn; subst ho
 exact⟨by kernel_rfl,by kernel_rfl,by kernel_rfl⟩
theorem CV {R:Env} (h:R.Xn 286 "math/bits.Sub64") {x y b:Int} (hx:bf .u64 x) (hy:bf .u64 y) (hb:0<=b/\b<=1):
  GM R.P (R.ft 286) [.int .u64 x,.int .u64 y,.int .u64 b] (.aN [.int .u64 ((x - y - b) % 18446744073709551616),.int .u64 (if x<y+b then 1 else 0)]):=by
 obtain⟨fn,hf,hn,ho,hbd⟩:=h.fn
 obtain⟨r1,r2,r3⟩:=EP hn ho
 have hx:0<=x/\x<=18446744073709551615:=hx
 have hy:0<=y/\y<=18446744073709551615:=hy
 intro ρ L I N w vs hv
 obtain⟨hl,hr⟩:=hv
 obtain⟨v0,v1,v2,rfl⟩:∃v0 v1 v2,vs=[v0,v1,v2]:=by
  match vs,hl with
  |[a,b,c],_=>exact⟨a,b,c,rfl⟩
 have e0:aL ρ L I w N (.int .u64 x) v0:=hr 0 (by simp)
 have e1:aL ρ L I w N (.int .u64 y) v1:=hr 1 (by simp)
 have e2:aL ρ L I w N (.int .u64 b) v2:=hr 2 (by simp)
 cases e0; cases e1; cases e2
 obtain⟨X,rfl⟩:=Int.eq_ofNat_of_zero_le hx.1
 obtain⟨Y,rfl⟩:=Int.eq_ofNat_of_zero_le hy.1
 obtain⟨B,rfl⟩:=Int.eq_ofNat_of_zero_le hb.1
 refine⟨_,by rw[run_callFunc_extern hf r1 hbd r2 r3,show ([Value.int .u64 (X:Int),.int .u64 (Y:Int),.int .u64 (B:Int)].toArray)= #[Value.int .u64 (X:Int),.int .u64 (Y:Int),.int .u64 (B:Int)]from rfl,EO X Y B (by omega)]; rfl,?_⟩
 have q1:((X:Int) - Y - B) % 18446744073709551616=(((X+18446744073709551616 - Y - B) % 18446744073709551616:Nat):Int):=by omega
 have q2:(if (X:Int)<Y+B then (1:Int)else 0)=((if X<Y+B then 1 else 0:Nat):Int):=by
  by_cases hc:X<Y+B
  ·rw[if_pos hc,if_pos (by omega)]; rfl
  ·rw[if_neg hc,if_neg (by omega)]; rfl
 rw[q1,q2]
 refine aL.aN _ _ rfl ?_
 intro j hj
 match j,hj with
 |0,_=>exact aL.int _ _
 |1,_=>exact aL.int _ _
end Go.UM
namespace Go.UM
open Go.AM
set_option maxRecDepth 4000
def BN (v:Int):List AV:=[.int .i64 (lU v),.int .u64 (xT v)]
def sgn (s:Bool) (P:Int):Int:=bif s then -P else P
theorem HN {R:Env} (h:OS R) {n:Int} (hn:fA n):R.Pc 275 [.int .i64 n] (.aN [.int .u64 (bK n),.bool (decide (n<0))]):=
 h.OT.enter 60 rfl fun X bb hfit hp=>by
  rw[cy]at hn
  refine sh ?_
  refine cS (fun h1=> ?_) (fun h1=> ?_)
  ·refine sh ?_
   refine bz ?_
   refine sh ?_
   refine bz ?_
   refine sh ?_
   refine rT ?_
   refine pC ?_ ?_
   all_goals first|(rw[iB,iB,bK,if_pos h1]; omega)|(simp; omega)
  ·refine sh ?_
   refine rT ?_
   refine pC ?_ ?_
   all_goals first|(rw[bK,if_neg (by omega)])|(simp; omega)
theorem Lr {x y:Int} (hx:Jv x) (hy:Jv y):wr .u64 (wr .u64 (wr .u64 (fC .u64 x 32*fC .u64 y 32)+fC .u64 (wr .u64 (wr .u64 (fC .u64 x 32*eE .and .u64 y 4294967295)+fC .u64 (wr .u64 (eE .and .u64 x 4294967295*eE .and .u64 y 4294967295)) 32)) 32)+
  fC .u64 (wr .u64 (eE .and .u64 (wr .u64 (wr .u64 (fC .u64 x 32*eE .and .u64 y 4294967295)+fC .u64 (wr .u64 (eE .and .u64 x 4294967295*eE .and .u64 y 4294967295)) 32)) 4294967295+wr .u64 (eE .and .u64 x 4294967295*fC .u64 y 32))) 32)=lU (x*y):=by
 have k:=fun v=>wE (x:=v) .u64 (by decide)
 simp only[k,pF hx,pF hy]
 rw[pF (qm .u64 _)]
 obtain⟨p1,p2,p3,p4,e⟩:=Ln hx hy
 rw[e]
 simp only[iB,lU]
 generalize x % 4294967296* (y % 4294967296)=A at*
 generalize x / 4294967296* (y % 4294967296)=B at*
 generalize x % 4294967296* (y / 4294967296)=C at*
 generalize x / 4294967296* (y / 4294967296)=D at*
 omega
theorem CW {R:Env} (h:Kq R) {x y:Int} (hx:Jv x) (hy:Jv y):R.Pc 276 [.int .u64 x,.int .u64 y] (.aN [.int .u64 (lU (x*y)),.int .u64 (xT (x*y))]):=
 h.OJ.enter 60 rfl fun X bb hfit hp=>by
  refine sh ?_
  refine bz ?_
  refine sh ?_
  refine bz ?_
  refine sh ?_
  refine bz ?_
  refine sh ?_
  refine bz ?_
  refine sh ?_
  refine bz ?_
  refine sh ?_
  refine bz ?_
  refine sh ?_
  refine bz ?_
  refine sh ?_
  refine bz ?_
  refine sh ?_
  refine bz ?_
  refine sh ?_
  refine rT ?_
  refine be ?_
  all_goals first|exact Lr hx hy|(rw[iB]; rfl)
theorem HO {R:Env} (h:OU R) {P:Int} (hP:0<=P/\P<=85070591730234615865843651857942052864):R.Pc 283 [.int .u64 (lU P),.int .u64 (xT P)] (.aN [.int .u64 (lU (-P) % 18446744073709551616),.int .u64 (xT (-P))]):=
 h.Uc.enter 60 rfl fun X bb hfit hp=>by
  refine sh ?_
  refine s6.mk ⟨_,CV h.n286.TN (x:=0) (b:=0) ⟨by omega,by omega⟩ (qo P) ⟨by omega,by omega⟩,?_⟩
  refine sh ?_
  refine s6.mk ⟨_,CV h.n286.TN (x:=0) ⟨by omega,by omega⟩ (y:=lU P) ⟨by unfold lU; omega,by unfold lU; omega⟩ ⟨by split<;>omega,by split<;>omega⟩,?_⟩
  refine sh ?_
  refine rT ?_
  refine pC ?_ ?_
  all_goals first|(unfold xT; omega)|(unfold lU xT; split<;>omega)
theorem EQ {R:Env} (h:OV R) {P:Int} (hP:0<=P/\P<=85070591730234615865843651857942052864) (s:Bool):R.Pc 277 [.int .u64 (lU P),.int .u64 (xT P),.bool s] (.aN [.agg (BN (sgn s P)),.bool true]):=
 h.Ue.enter 60 rfl fun X bb hfit hp=>by
  have i1:=xU (v:=P) ⟨by omega,hP.2⟩
  have i2:=xU (v:= -P) ⟨by omega,by omega⟩
  cases s with
  |false=>
   have i3:0<=lU P:=by unfold lU; omega
   refine sh ?_
   refine af (by (simp; omega)) ?_
   refine sh ?_
   exact rT
  |true=>
   refine sh ?_
   refine ae.pure h.n283.Uc.hb (HO h.n283 hP) rfl ?_
   refine sh ?_
   refine Hr (m:=lU (-P)) (by rw[eb]; omega) ?_
   by_cases h0:P=0
   ·subst h0
    refine sh ?_
    refine aw (by (simp[lU])) ?_
    refine sh ?_
    refine rT ?_
    exact iV
    all_goals first|rfl|decide
   ·refine sh ?_
    refine af (by (simp; unfold lU; omega)) ?_
    refine sh ?_
    exact rT
end Go.UM
namespace Go.UM
open Go.AM
set_option maxRecDepth 4000
theorem Ls (a b:Int):sgn (decide (a<0) != decide (b<0)) (bK a*bK b)=a*b:=by
 rw[xS a b]; unfold sgn
 cases (decide (a<0) != decide (b<0))<;>simp
theorem tZ {a b:Int} (ha:fA a) (hb:fA b):0<=bK a*bK b/\bK a*bK b<=85070591730234615865843651857942052864:=by
 have:=gV (hG ha) (hG hb)
 omega
theorem pG {a:Int} (ha:fA a):Jv (bK a):=by have:=hG ha; rw[se]; omega
theorem Nj {R:Env} (h:Kt R) {a b:Int} (ha:fA a) (hb:fA b):R.Pc 264 [.int .i64 a,.int .i64 b] (.agg (BN (a*b))):=
 h.OW.enter 60 rfl fun X bb hfit hp=>by
  refine sh ?_
  refine ae.pure h.n275.OT.hb (HN h.n275 ha) rfl ?_
  refine sh ?_
  refine ae.pure h.n275.OT.hb (HN h.n275 hb) rfl ?_
  refine sh ?_
  refine ae.pure h.n276.OJ.hb (CW h.n276 (pG ha) (pG hb)) rfl ?_
  have c:=EQ h.n277 (tZ ha hb) (decide (a<0) != decide (b<0))
  rw[Ls]at c
  refine sh ?_
  refine ae.pure h.n277.Ue.hb c rfl ?_
  refine sh ?_
  exact rT
theorem Xc {R:Env} (h:Ku R) {v:Int} (hv:fA v):R.Pc 274 [.agg (BN v)] (.aN [.int .i64 v,.bool true]):=
 h.Kv.enter 60 rfl fun X bb hfit hp=>by
  rw[cy]at hv
  have h2:=qo v
  refine sh ?_
  refine Hr (m:=v) (by rw[eb]; unfold xT; omega) ?_
  refine sh ?_
  refine aw (by (rw[Ng .i64 (by decide)]; simp; unfold lU; omega)) ?_
  refine sh ?_
  exact rT
theorem Xd {R:Env} (h:Ku R) {v:Int} (hv:Lm v) (hn:¬fA v):R.Pc 274 [.agg (BN v)] (.aN [.int .i64 0,.bool false]):=
 h.Kv.enter 60 rfl fun X bb hfit hp=>by
  have h1:=xU hv
  have h2:=qo v
  rw[cy]at hn
  refine sh ?_
  refine bz ?_
  refine sh ?_
  refine af (by (rw[Ng .i64 (by decide),eb]; simp; unfold lU xT; omega)) ?_
  refine sh ?_
  exact rT
theorem HP {R:Env} (h:Kw R) {v:Int} (hv:Lm v):R.Pc 265 [.agg (BN v)] (.int .i64 (jY v)):=
 h.OY.enter 60 rfl fun X bb hfit hp=>by
  by_cases hi:fA v
  ·refine sh ?_
   refine ae.pure h.n274.Kv.hb (Xc h.n274 hi) rfl ?_
   refine sh ?_
   refine rT ?_
   refine be ?_
   all_goals exact (xR hi).symm
  ·have hi2:=hi
   rw[cy]at hi2
   refine sh ?_
   refine ae.pure h.n274.Kv.hb (Xd h.n274 hv hi) rfl ?_
   refine sh ?_
   refine cS (fun h1=> ?_) (fun h1=> ?_)
   ·have h2:v<0:=by unfold lU at h1; omega
    refine sh ?_
    refine rT ?_
    refine be ?_
    all_goals (unfold jY; rw[if_neg (by omega),if_pos (by omega)])
   ·have h2:0<=v:=by unfold lU at h1; omega
    refine sh ?_
    refine rT ?_
    refine be ?_
    all_goals (unfold jY; rw[if_pos (by omega)])
theorem ER {hi lo:Int} (hh:0<=hi/\hi<=4294967295) (hl:0<=lo/\lo<=4294967295):eE .or .u64 lo (hi*4294967296)=hi*4294967296+lo:=by
 rw[<-zU hh hl,BK ⟨by omega,by omega⟩ ⟨by omega,by omega⟩,BK ⟨by omega,by omega⟩ ⟨by omega,by omega⟩,Nat.or_comm]
theorem Xe {R:Env} (h:OX R) {v:Int} (hv:Lm v):R.Pc 285 [.agg (BN v),.int .i64 32] (.agg (BN (v / 4294967296))):=
 h.Uk.enter 60 rfl fun X bb hfit hp=>by
  have h1:=xU hv
  have h2:=qo v
  refine sh ?_
  refine aw (by decide) ?_
  refine sh ?_
  refine aw (by decide) ?_
  have e1:fC .i64 (lU v) (max 32 0)=lU (v / 4294967296):=by rw[show max (32:Int) 0=32 from rfl,wE .i64 (by decide)]; unfold lU; omega
  have e2:eE .or .u64 (fC .u64 (xT v) (max 32 0)) (pY .u64 (wr .u64 (lU v)) (64 - max 32 0))=xT (v / 4294967296):=by
   rw[show max (32:Int) 0=32 from rfl,wE .u64 (by decide)]
   have e:pY .u64 (wr .u64 (lU v)) (64 - 32)=(lU v % 4294967296)*4294967296:=by
    rw[show (64 - 32:Int)=32 from rfl,HI,iB]; omega
   rw[e,ER (by omega) (by omega)]
   unfold lU xT; omega
  refine sh ?_
  refine bz ?_
  refine sh ?_
  refine rT ?_
  exact iV
  all_goals first|exact e1|exact e2
def xV (s:Int) (l:List Int):Int:=l.foldl gU s
theorem HQ {R:Env} (h:Ky R) (l:List Int) (hl:l.length<=1000) (hi:∀x ∈ l,fA x):R.Pc 267 [.aH 1 (bp .i64 l)] (.int .i64 (xV 0 l)):=
 h.O0.enter 100 rfl fun X bb hfit hp=>by
  refine sh ?_
  refine gD 100 (fun s:Nat × Int=>s.1<=l.length/\fA s.2/\xV 0 (l.take s.1)=s.2) (fun s=>⟨[(3,.int .i64 s.2),(7,.aH 1 (bp .i64 l)),(8,.int .i64 l.length),(9,.int .i64 s.1)],[],0⟩) (fun s=>l.length - s.1) ((0,0)) ?_ ?_
  ·exact⟨Nat.zero_le _,⟨by decide,by decide⟩,rfl⟩
  ·rintro⟨k,s⟩ ⟨h1,h2,h3⟩
   dsimp only at h1 h2 h3 ⊢
   refine sh ?_
   refine cS (fun h4=> ?_) (fun h4=> ?_)
   ·obtain⟨x,hx⟩:∃u_,l[k]? =some u_:=⟨_,List.getElem?_eq_getElem (by first|omega|(simp<;>omega))⟩
    refine sh ?_
    refine aa hx ?_
    have ix:=hi x (List.mem_of_getElem? hx)
    have QK:xV 0 (l.take (k+1))=gU s x:=by rw[ar hx,xV,List.foldl_append]; unfold xV at h3; rw[h3]; rfl
    rw[cy]at h2 ix
    refine sh ?_
    refine bz ?_
    refine sh ?_
    refine cS (fun a1=> ?_) (fun a1=> ?_)
    ·refine sh ?_
     refine cS (fun a2=> ?_) (fun a2=> ?_)
     ·refine sh ?_
      refine cS (fun a3=> ?_) (fun a3=> ?_)
      ·refine sh ?_
       refine nX ((k+1,gU s x)) ?_ ?_ ⟨_,hp,rfl⟩ ?_ ?_
       ·exact⟨by omega,fB s x,QK⟩
       ·omega
       ·refine be ?_
        all_goals (unfold gU jY; simp only[eb]at *; split<;>first|omega|(split<;>omega))
       ·exact iV
      ·refine sh ?_
       refine aw (by (simp; omega)) ?_
       refine sh ?_
       refine nX ((k+1,gU s x)) ?_ ?_ ⟨_,hp,rfl⟩ ?_ ?_
       ·exact⟨by omega,fB s x,QK⟩
       ·omega
       ·refine be ?_
        all_goals (unfold gU jY; simp only[eb]at *; split<;>first|omega|(split<;>omega))
       ·exact iV
     ·refine sh ?_
      refine aw (by (simp; omega)) ?_
      refine sh ?_
      refine nX ((k+1,gU s x)) ?_ ?_ ⟨_,hp,rfl⟩ ?_ ?_
      ·exact⟨by omega,fB s x,QK⟩
      ·omega
      ·refine be ?_
       all_goals (unfold gU jY; simp only[eb]at *; split<;>first|omega|(split<;>omega))
      ·exact iV
    ·refine sh ?_
     refine cS (fun b1=> ?_) (fun b1=> ?_)
     ·refine sh ?_
      refine cS (fun b2=> ?_) (fun b2=> ?_)
      ·refine sh ?_
       refine cS (fun b3=> ?_) (fun b3=> ?_)
       ·refine sh ?_
        refine nX ((k+1,gU s x)) ?_ ?_ ⟨_,hp,rfl⟩ ?_ ?_
        ·exact⟨by omega,fB s x,QK⟩
        ·omega
        ·refine be ?_
         all_goals (unfold gU jY; simp only[eb]at *; split<;>first|omega|(split<;>omega))
        ·exact iV
       ·refine sh ?_
        refine nX ((k+1,gU s x)) ?_ ?_ ⟨_,hp,rfl⟩ ?_ ?_
        ·exact⟨by omega,fB s x,QK⟩
        ·omega
        ·refine be ?_
         all_goals (unfold gU jY; simp only[eb]at *; split<;>first|omega|(split<;>omega))
        ·exact iV
      ·refine sh ?_
       refine nX ((k+1,gU s x)) ?_ ?_ ⟨_,hp,rfl⟩ ?_ ?_
       ·exact⟨by omega,fB s x,QK⟩
       ·omega
       ·refine be ?_
        all_goals (unfold gU jY; simp only[eb]at *; split<;>first|omega|(split<;>omega))
       ·exact iV
     ·refine sh ?_
      refine nX ((k+1,gU s x)) ?_ ?_ ⟨_,hp,rfl⟩ ?_ ?_
      ·exact⟨by omega,fB s x,QK⟩
      ·omega
      ·refine be ?_
       all_goals (unfold gU jY; simp only[eb]at *; split<;>first|omega|(split<;>omega))
      ·exact iV
   ·rw[List.take_of_length_le (by omega)]at h3
    refine sh ?_
    refine rT ?_
    exact iV
    all_goals exact h3.symm
theorem QL {R:Env} (h:OZ R) {a b:Int} (ha:fA a) (hb:fA b):R.Pc 284 [.aH 1 (bp .i64 [a,b])] (.int .i64 (pE a b)):=
 h.Un.enter 100 rfl fun X bb hfit hp=>by
  have hP:=CQ ha hb
  refine sh ?_
  refine ao.one 100 ?_
  refine sh ?_
  refine af (by simp) ?_
  refine sh ?_
  refine aa (show ([a,b]:List Int)[0]? =some a from rfl) ?_
  refine sh ?_
  refine af (by decide) ?_
  refine sh ?_
  refine ao.one 100 ?_
  refine sh ?_
  refine af (by simp) ?_
  refine sh ?_
  refine aa (show ([a,b]:List Int)[1]? =some b from rfl) ?_
  refine sh ?_
  refine aw (by decide) ?_
  refine sh ?_
  refine ae.pure h.n264.OW.hb (Nj h.n264 ha hb) rfl ?_
  refine sh ?_
  refine ae.pure h.n285.Uk.hb (Xe h.n285 hP) rfl ?_
  refine sh ?_
  refine ae.pure h.n265.OY.hb (HP h.n265 (v:=a*b / 4294967296) (by omega)) rfl ?_
  refine sh ?_
  refine ao.one 100 ?_
  refine sh ?_
  refine aw (by simp) ?_
  refine sh ?_
  exact rT
def xW (a b:Int):Int:=jY (a - b)
theorem QM {R:Env} (h:O1 R) {a b:Int} (ha:fA a) (hb:fA b):R.Pc 281 [.int .i64 a,.int .i64 b] (.int .i64 (xW a b)):=
 h.Uq.enter 100 rfl fun X bb hfit hp=>by
  rw[cy]at ha hb
  refine sh ?_
  refine bz ?_
  refine sh ?_
  refine cS (fun a1=> ?_) (fun a1=> ?_)
  ·refine sh ?_
   refine cS (fun a2=> ?_) (fun a2=> ?_)
   ·refine sh ?_
    refine cS (fun a3=> ?_) (fun a3=> ?_)
    ·refine sh ?_
     refine rT ?_
     refine be ?_
     all_goals (unfold xW jY; simp only[eb]at *; split<;>first|omega|(split<;>omega))
    ·refine sh ?_
     refine aw (by (simp; omega)) ?_
     refine sh ?_
     refine rT ?_
     refine be ?_
     all_goals (unfold xW jY; simp only[eb]at *; split<;>first|omega|(split<;>omega))
   ·refine sh ?_
    refine aw (by (simp; omega)) ?_
    refine sh ?_
    refine rT ?_
    refine be ?_
    all_goals (unfold xW jY; simp only[eb]at *; split<;>first|omega|(split<;>omega))
  ·refine sh ?_
   refine cS (fun b1=> ?_) (fun b1=> ?_)
   ·refine sh ?_
    refine cS (fun b2=> ?_) (fun b2=> ?_)
    ·refine sh ?_
     refine cS (fun b3=> ?_) (fun b3=> ?_)
     ·refine sh ?_
      refine rT ?_
      refine be ?_
      all_goals (unfold xW jY; simp only[eb]at *; split<;>first|omega|(split<;>omega))
     ·refine sh ?_
      refine rT ?_
      refine be ?_
      all_goals (unfold xW jY; simp only[eb]at *; split<;>first|omega|(split<;>omega))
    ·refine sh ?_
     refine rT ?_
     refine be ?_
     all_goals (unfold xW jY; simp only[eb]at *; split<;>first|omega|(split<;>omega))
   ·refine sh ?_
    refine rT ?_
    exact iV
    all_goals (unfold xW jY; simp only[eb]at *; split<;>first|omega|(split<;>omega))
theorem QN {R:Env} (h:O2 R) {a:Int} (ha:fA a):R.Pc 270 [.int .i64 a] (.int .i64 (jY (-a))):=
 h.Us.enter 100 rfl fun X bb hfit hp=>by
  refine sh ?_
  refine ae.pure h.n281.Uq.hb (QM h.n281 (a:=0) ⟨by decide,by decide⟩ ha) rfl ?_
  refine sh ?_
  refine rT ?_
  refine be ?_
  all_goals (unfold xW; rw[Int.zero_sub])
theorem iC {R:Env} (h:Kz R) {a:Int} (ha:fA a):R.Pc 255 [.int .i64 a] (.int .i64 (n1 a)):=
 h.qn.enter 100 rfl fun X bb hfit hp=>by
  refine sh ?_
  refine ae.pure h.n270.Us.hb (QN h.n270 ha) rfl ?_
  rw[cy]at ha
  refine sh ?_
  refine rT ?_
  refine be ?_
  all_goals (unfold n1 jY; split<;>split<;>first|omega|(split<;>omega))
theorem HR {R:Env} (h:O4 R) {n:Int} (hn:fA n):R.Pc 248 [.int .i64 n] (.int .i64 (jY (n*4294967296))):=
 h.KB.enter 100 rfl fun X bb hfit hp=>by
  have h1:fA 4294967296:=⟨by decide,by decide⟩
  refine sh ?_
  refine ae.pure h.n264.OW.hb (Nj h.n264 hn h1) rfl ?_
  refine sh ?_
  refine ae.pure h.n265.OY.hb (HP h.n265 (CQ hn h1)) rfl ?_
  refine sh ?_
  exact rT
theorem Lt {x:Int} (h:fA x):eE .and .i64 x 1=x % 2:=by
 show wr .i64 (((BitVec.ofInt 64 x&&& BitVec.ofInt 64 1:BitVec 64).toNat:Nat):Int)=_
 rw[cy]at h
 have e:(BitVec.ofInt 64 x&&& BitVec.ofInt 64 1:BitVec 64).toNat=(x % 2).toNat:=by
  rw[BitVec.toNat_and,BitVec.toNat_ofInt,BitVec.toNat_ofInt]
  have:((1:Int) % ((2 ^ 64:Nat):Int)).toNat=2 ^ 1 - 1:=rfl
  rw[this,Nat.and_two_pow_sub_one_eq_mod]
  omega
 rw[e,eb]; omega
theorem ud {R:Env} (h:O3 R) {x:Int} (hx:fA x):R.Pc 260 [.int .i64 x] (.int .i64 (eW x)):=
 h.KA.enter 100 rfl fun X bb hfit hp=>by
  have hx2:=hx
  rw[cy]at hx2
  have e1:eE .and .i64 (fC .i64 x 31) 1=x / 2147483648 % 2:=by
   rw[W8 .i64 (by decide),Lt (by rw[cy]; omega)]
  refine sh ?_
  rw[e1,wE .i64 (by decide)]
  refine xL (by simp only[bf]; omega) ?_
  refine sh ?_
  refine rT ?_
  refine be ?_
  all_goals (unfold eW; omega)
end Go.UM
namespace Go.UM
open Go.AM
set_option maxRecDepth 4000
theorem BO {R:Env} (h:KG R) {a b:Int} (ha:fA a) (hb:fA b):R.Pc 263 [.int .i64 a,.int .i64 b] (.int .i64 (gU a b)):=
 h.KH.enter 60 rfl fun X bb hfit hp=>by
  have c:=HQ h.n267 [a,b] (by simp) (by intro x hx; simp at hx; rcases hx with rfl|rfl<;>assumption)
  rw[show xV 0 [a,b]=gU a b by unfold xV; simp[wF ha]]at c
  refine sh ?_
  refine ae.Ka rfl h.n267.O0.hb c ?_ rfl ?_
  ·exact iV
  refine sh ?_
  exact rT
theorem BQ {R:Env} (h:KD R) {a b:Int} (ha:fA a) (hb:fA b):R.Pc 278 [.int .i64 a,.int .i64 b] (.int .i64 (pE a b)):=
 h.KE.enter 60 rfl fun X bb hfit hp=>by
  refine sh ?_
  refine ae.Ka rfl h.n284.Un.hb (QL h.n284 ha hb) ?_ rfl ?_
  ·exact iV
  refine sh ?_
  exact rT
theorem HS {R:Env} (h:HC R) (hf:KG R) {a b:T3} (ha:a.I) (hb:b.I):R.Pc 262 [.agg (t3 a),.agg (t3 b),.bR (.fn (R.ft 263)) []] (.agg (t3 (vn a b))):=
 h.KC.enter 60 rfl fun X bb hfit hp=>by
  refine sh ?_
  refine ae.pure hf.KH.hb (BO hf ha.1 hb.1) rfl ?_
  refine sh ?_
  refine ae.pure hf.KH.hb (BO hf ha.2.1 hb.2.1) rfl ?_
  refine sh ?_
  refine ae.pure hf.KH.hb (BO hf ha.2.2 hb.2.2) rfl ?_
  refine sh ?_
  exact rT
theorem HT {R:Env} (h:HC R) (hf:KD R) {a b:T3} (ha:a.I) (hb:b.I):R.Pc 262 [.agg (t3 a),.agg (t3 b),.bR (.fn (R.ft 278)) []] (.agg (t3 (vp a b))):=
 h.KC.enter 60 rfl fun X bb hfit hp=>by
  refine sh ?_
  refine ae.pure hf.KE.hb (BQ hf ha.1 hb.1) rfl ?_
  refine sh ?_
  refine ae.pure hf.KE.hb (BQ hf ha.2.1 hb.2.1) rfl ?_
  refine sh ?_
  refine ae.pure hf.KE.hb (BQ hf ha.2.2 hb.2.2) rfl ?_
  refine sh ?_
  exact rT
theorem QO {R:Env} (h:O7 R) (l:List T3) (hl:l.length<=1000) (hi:∀x ∈ l,x.I):R.Pc 246 [.aH 3 (bJ l)] (.agg (t3 (l.foldl vn z3))):=
 h.UD.enter 100 rfl fun X bb hfit hp=>by
  refine sh ?_
  refine gD 100 (fun s:Nat × T3=>s.1<=l.length/\s.2.I/\(l.take s.1).foldl vn z3=s.2) (fun s=>⟨[(2,.loc 0 1 0 0),(3,.loc 1 1 0 0),(6,.aH 3 (bJ l)),(7,.int .i64 l.length),(8,.int .i64 s.1)],[(1,.var (R.ty 31) (t3 s.2)),(0,.var (R.ty 31) [.int .i64 0,.int .i64 0,.int .i64 0])],2⟩) (fun s=>l.length - s.1) ((0,z3)) ?_ ?_
  ·exact⟨Nat.zero_le _,Ni,rfl⟩
  ·rintro⟨k,s⟩ ⟨h1,h2,h3⟩
   dsimp only at h1 h2 h3 ⊢
   refine sh ?_
   refine cS (fun h4=> ?_) (fun h4=> ?_)
   ·obtain⟨x,hx⟩:∃u_,l[k]? =some u_:=⟨_,List.getElem?_eq_getElem (by first|omega|(simp<;>omega))⟩
    refine sh ?_
    refine aa hx ?_
    have ix:=hi x (List.mem_of_getElem? hx)
    refine sh ?_
    refine ae.pure h.n262.KC.hb (HS h.n262 h.n263 h2 ix) rfl ?_
    refine sh ?_
    refine kI ((k+1,vn s x)) ?_ ?_
    ·exact⟨by omega,CS s x,by rw[ar hx,List.foldl_append,h3]; rfl⟩
    ·omega
   ·rw[List.take_of_length_le (by omega)]at h3
    rw[h3]
    refine sh ?_
    exact rT
theorem HU {R:Env} (h:O5 R) (l:List T3) (hl:l.length<=1000) (hi:∀x ∈ l,x.I):R.Pc 266 [.aH 3 (bJ l)] (.agg (t3 (l.foldl vp BL))):=
 h.Uz.enter 100 rfl fun X bb hfit hp=>by
  refine sh ?_
  refine gD 100 (fun s:Nat × T3=>s.1<=l.length/\s.2.I/\(l.take s.1).foldl vp BL=s.2) (fun s=>⟨[(2,.loc 0 1 0 0),(3,.loc 1 1 0 0),(7,.aH 3 (bJ l)),(8,.int .i64 l.length),(9,.int .i64 s.1)],[(1,.var (R.ty 31) (t3 s.2)),(0,.var (R.ty 31) [.int .i64 0,.int .i64 0,.int .i64 0])],2⟩) (fun s=>l.length - s.1) ((0,BL)) ?_ ?_
  ·exact⟨Nat.zero_le _,Lo,rfl⟩
  ·rintro⟨k,s⟩ ⟨h1,h2,h3⟩
   dsimp only at h1 h2 h3 ⊢
   refine sh ?_
   refine cS (fun h4=> ?_) (fun h4=> ?_)
   ·obtain⟨x,hx⟩:∃u_,l[k]? =some u_:=⟨_,List.getElem?_eq_getElem (by first|omega|(simp<;>omega))⟩
    refine sh ?_
    refine aa hx ?_
    have ix:=hi x (List.mem_of_getElem? hx)
    refine sh ?_
    refine ae.pure h.n262.KC.hb (HT h.n262 h.n278 h2 ix) rfl ?_
    refine sh ?_
    refine kI ((k+1,vp s x)) ?_ ?_
    ·exact⟨by omega,CT s x,by rw[ar hx,List.foldl_append,h3]; rfl⟩
    ·omega
   ·rw[List.take_of_length_le (by omega)]at h3
    rw[h3]
    refine sh ?_
    exact rT
theorem HV {R:Env} (h:O6 R) {a b:T3} (ha:a.I) (hb:b.I):R.Pc 252 [.agg (t3 a),.agg (t3 b)] (.int .i64 (Nh a b)):=
 h.KF.enter 100 rfl fun X bb hfit hp=>by
  have c1:=HU h.n266 [a,b] (by simp) (by intro x hx; simp at hx; rcases hx with rfl|rfl<;>assumption)
  rw[show [a,b].foldl vp BL=vp a b by simp[Xa ha]]at c1
  refine sh ?_
  refine ae.Ka rfl h.n266.Uz.hb c1 ?_ rfl ?_
  ·exact iV
  have i1:=CT a b
  generalize hv:vp a b=v at*
  have c2:=HQ h.n267 [v.a,v.b,v.c] (by simp) (by intro x hx; simp at hx; rcases hx with rfl|rfl|rfl; exact i1.1; exact i1.2.1; exact i1.2.2)
  rw[show xV 0 [v.a,v.b,v.c]=Nh a b by unfold xV Nh; simp only[List.foldl_cons,List.foldl_nil]; rw[wF i1.1,<-hv]; rfl]at c2
  refine sh ?_
  refine ae.Ka rfl h.n267.O0.hb c2 ?_ rfl ?_
  ·exact iV
  refine sh ?_
  exact rT
theorem QP {R:Env} (h:O9 R) {p:T3} (rS:p.I):R.Pc 249 [.agg (t3 p)] (.agg (t3 (RZ p))):=
 h.UH.enter 100 rfl fun X bb hfit hp=>by
  refine sh ?_
  refine ae.pure h.n248.KB.hb (HR h.n248 rS.1) rfl ?_
  refine sh ?_
  refine ae.pure h.n248.KB.hb (HR h.n248 rS.2.1) rfl ?_
  refine sh ?_
  refine ae.pure h.n248.KB.hb (HR h.n248 rS.2.2) rfl ?_
  refine sh ?_
  exact rT
theorem Lu {R:Env} (h:O8 R) {p:T3} (rS:p.I):R.Pc 256 [.agg (t3 p)] (.int .i64 (CR p)):=
 h.UF.enter 100 rfl fun X bb hfit hp=>by
  refine sh ?_
  refine ae.pure h.n255.qn.hb (iC h.n255 rS.1) rfl ?_
  refine sh ?_
  refine ae.pure h.n255.qn.hb (iC h.n255 rS.2.1) rfl ?_
  refine sh ?_
  refine ae.pure h.n255.qn.hb (iC h.n255 rS.2.2) rfl ?_
  refine sh ?_
  exact rT
theorem j0 {R:Env} (h:BG R) {x:Int} (hx:fA x):R.Pc 279 [.int .i64 x] (.int .u64 (bK x)):=
 h.xQ.enter 100 rfl fun X bb hfit hp=>by
  rw[cy]at hx
  unfold bK
  refine sh ?_
  refine cS (fun h1=> ?_) (fun h1=> ?_)
  ·refine sh ?_
   refine rT ?_
   exact iV
   all_goals omega
  ·refine sh ?_
   refine rT ?_
   exact iV
   all_goals omega
def lV (s:Int) (below iu:Bool):Int:=if below=true then (if iu=true\/ 9223372036854775808<=s then -9223372036854775808 else -s)else (if iu=true\/ 9223372036854775808<=s then 9223372036854775807 else s)
theorem jr {R:Env} (h:EI R) {s:Int} (hs:Jv s) (below iu:Bool):R.Pc 280 [.int .u64 s,.bool below,.bool iu] (.int .i64 (lV s below iu)):=
 h.zN.enter 100 rfl fun X bb hfit hp=>by
  rw[se]at hs
  unfold lV
  cases below with
  |true=>
   cases iu with
   |true=>
    refine sh ?_
    exact rT
   |false=>
    refine sh ?_
    refine cS (fun h1=> ?_) (fun h1=> ?_)
    ·refine sh ?_
     refine rT ?_
     refine be ?_
     all_goals (simp; omega)
    ·refine sh ?_
     refine rT ?_
     refine be ?_
     all_goals (simp; omega)
  |false=>
   cases iu with
   |true=>
    refine sh ?_
    exact rT
   |false=>
    refine sh ?_
    refine cS (fun h1=> ?_) (fun h1=> ?_)
    ·refine sh ?_
     refine rT ?_
     refine be ?_
     all_goals (simp; omega)
    ·refine sh ?_
     refine rT ?_
     refine be ?_
     all_goals (simp; omega)
theorem ES {a b:Int} (h:(decide (a<0)==decide (b<0))=true):(a<0/\b<0)\/(0<=a/\0<=b):=by
 by_cases ha:a<0<;>by_cases hb:b<0
 ·exact .inl ⟨ha,hb⟩
 ·simp[ha,hb]at h
 ·simp[ha,hb]at h
 ·exact .inr ⟨by omega,by omega⟩
theorem QQ {a b:Int} (ha:fA a) (hb:fA b) (h:(a<0/\b<0)\/(0<=a/\0<=b)):lV (wr .u64 (bK a+bK b)) (decide (a<0)) (decide (wr .u64 (bK a+bK b)<bK a))=jY (a+b):=by
 rw[cy]at ha hb
 rcases h with⟨h1,h2⟩|⟨h1,h2⟩
 ·have e1:bK a= -a:=if_pos h1
  have e2:bK b= -b:=if_pos h2
  rw[e1,e2,iB,decide_eq_true h1]
  unfold lV jY
  simp only[if_true,decide_eq_true_eq]
  repeat' split
  all_goals omega
 ·have e1:bK a=a:=if_neg (show ¬a<0 by omega)
  have e2:bK b=b:=if_neg (show ¬b<0 by omega)
  rw[e1,e2,iB,decide_eq_false (show ¬a<0 by omega)]
  unfold lV jY
  simp only[Bool.false_eq_true,if_false,decide_eq_true_eq]
  repeat' split
  all_goals omega
theorem qq {R:Env} (h:K2 R) {a b:Int} (ha:fA a) (hb:fA b):R.Pc 269 [.int .i64 a,.int .i64 b] (.int .i64 (gU a b)):=
 h.BH.enter 100 rfl fun X bb hfit hp=>by
  refine sh ?_
  refine ae.pure h.n279.xQ.hb (j0 h.n279 ha) rfl ?_
  refine sh ?_
  refine ae.pure h.n279.xQ.hb (j0 h.n279 hb) rfl ?_
  have u1:=hG ha
  have u2:=hG hb
  refine sh ?_
  refine cS (fun h1=> ?_) (fun h1=> ?_)
  ·have e:=QQ ha hb (ES h1)
   refine sh ?_
   refine bz ?_
   refine sh ?_
   refine bz ?_
   refine sh ?_
   refine ae.pure h.n280.zN.hb (jr h.n280 (qm .u64 _) _ _) rfl ?_
   rw[e]
   refine sh ?_
   exact rT
  ·rw[cy]at ha hb
   have h2: -9223372036854775808<=a+b/\a+b<=9223372036854775807:=by
    by_cases q1:a<0<;>by_cases q2:b<0
    ·simp[q1,q2]at h1
    ·omega
    ·omega
    ·simp[q1,q2]at h1
   refine sh ?_
   refine rT ?_
   refine be ?_
   all_goals exact (xR (cy.2 h2)).symm
theorem Lv {R:Env} (h:P3 R) {b:Int} (hb:fA b):R.Pc 282 [.int .i64 0,.int .i64 b] (.int .i64 (jY (-b))):=
 h.VR.enter 100 rfl fun X bb hfit hp=>by
  have h0:fA 0:=⟨by decide,by decide⟩
  refine sh ?_
  refine ae.pure h.n279.xQ.hb (j0 h.n279 h0) rfl ?_
  refine sh ?_
  refine ae.pure h.n279.xQ.hb (j0 h.n279 hb) rfl ?_
  have u2:=hG hb
  rw[cy]at hb
  refine sh ?_
  refine cS (fun h1=> ?_) (fun h1=> ?_)
  ·have hneg:b<0:=by
    by_cases q:b<0
    ·exact q
    ·simp[q]at h1
   have e:lV (wr .u64 (bK 0+bK b)) (decide ((0:Int)<0)) (decide (wr .u64 (bK 0+bK b)<bK 0))=jY (-b):=by
    have e1:bK 0=0:=rfl
    have e2:bK b= -b:=if_pos hneg
    rw[e1,e2,iB,decide_eq_false (show ¬ (0:Int)<0 by omega)]
    unfold lV jY
    simp only[Bool.false_eq_true,if_false,decide_eq_true_eq]
    repeat' split
    all_goals omega
   refine sh ?_
   refine bz ?_
   refine sh ?_
   refine bz ?_
   refine sh ?_
   refine ae.pure h.n280.zN.hb (jr h.n280 (qm .u64 _) _ _) rfl ?_
   rw[e]
   refine sh ?_
   exact rT
  ·have hpos:¬b<0:=by
    intro q
    simp[q]at h1
   refine sh ?_
   refine rT ?_
   refine be ?_
   all_goals (unfold jY; rw[if_neg (by omega),if_neg (by omega)]; omega)
theorem HW {a b:Int} (ha:fA a) (hb:fA b) {s:Int} {iu:Bool} (below:Bool) (tw:a*b=if below=true then -(bK a*bK b)else bK a*bK b)
  (hs:s=(bK a*bK b / 4294967296+ (if below=true/\0<bK a*bK b % 4294967296 then 1 else 0)) % 18446744073709551616)
  (iy:iu=decide (18446744073709551616<=bK a*bK b / 4294967296+ (if below=true/\0<bK a*bK b % 4294967296 then 1 else 0))):lV s below iu=pE a b:=by
 have hP:=tZ ha hb
 unfold pE
 rw[tw]
 generalize bK a*bK b=P at*
 subst hs iy
 unfold lV jY
 cases below with
 |true=>
  simp only[decide_eq_true_eq,true_and,if_true]
  repeat' split
  all_goals omega
 |false=>
  simp only[decide_eq_true_eq,Bool.false_eq_true,false_and,if_false]
  repeat' split
  all_goals omega
theorem ue {R:Env} (h:P1 R) {a b:Int} (ha:fA a) (hb:fA b):R.Pc 268 [.int .i64 a,.int .i64 b] (.int .i64 (pE a b)):=
 h.K1.enter 100 rfl fun X bb hfit hp=>by
  refine sh ?_
  refine ae.pure h.n279.xQ.hb (j0 h.n279 ha) rfl ?_
  refine sh ?_
  refine ae.pure h.n279.xQ.hb (j0 h.n279 hb) rfl ?_
  refine sh ?_
  refine ae.pure h.n276.OJ.hb (CW h.n276 (pG ha) (pG hb)) rfl ?_
  have hP:=tZ ha hb
  have tw:=xS a b
  have hE:=fun s iu=>HW (s:=s) (iu:=iu) ha hb (decide (a<0) != decide (b<0)) tw
  have e1:eE .or .u64 (pY .u64 (lU (bK a*bK b)) 32) (fC .u64 (xT (bK a*bK b)) 32)=bK a*bK b / 4294967296 % 18446744073709551616:=by
   generalize bK a*bK b=P at*
   have e:pY .u64 (lU P) 32=(lU P % 4294967296)*4294967296:=by rw[HI]; omega
   have h2:=qo P
   rw[e,wE .u64 (by decide),zU (by omega) (by omega)]
   unfold lU xT; omega
  have e2:eE .and .u64 (xT (bK a*bK b)) 4294967295=bK a*bK b % 4294967296:=by
   rw[pF (qo _)]; unfold xT; omega
  generalize hbe:(decide (a<0) != decide (b<0))=below at*
  cases below with
  |false=>
   refine sh ?_
   rw[hbe]
   refine aw rfl ?_
   refine sh ?_
   rw[e1]
   clear e1
   refine ae.pure h.n280.zN.hb (jr h.n280 ⟨by omega,by omega⟩ _ _) rfl ?_
   rw[hE _ _ (by simp) (by simp only[Bool.false_eq_true,false_and,if_false]; congr 1; unfold lU; apply propext; constructor<;>intro<;>omega)]
   refine sh ?_
   exact rT
  |true=>
   refine sh ?_
   rw[hbe]
   refine af rfl ?_
   refine sh ?_
   rw[e2]
   refine cS (fun g=> ?_) (fun g=> ?_)
   ·refine sh ?_
    rw[e1]
    clear e1 e2
    refine bz ?_
    refine sh ?_
    refine cS (fun g2=> ?_) (fun g2=> ?_)
    ·refine sh ?_
     refine ae.pure h.n280.zN.hb (jr h.n280 (qm .u64 _) _ _) rfl ?_
     rw[hE _ _ (by simp only[true_and]; rw[if_pos g,iB]; omega) (by simp only[true_and]; rw[if_pos g]; symm; rw[decide_eq_true_eq]; unfold lU at g2; omega)]
     refine sh ?_
     exact rT
    ·refine sh ?_
     refine ae.pure h.n280.zN.hb (jr h.n280 (qm .u64 _) _ _) rfl ?_
     rw[hE _ _ (by simp only[true_and]; rw[if_pos g,iB]; omega) (by simp only[true_and]; rw[if_pos g,iB,Bool.eq_iff_iff]; simp only[beq_iff_eq,decide_eq_true_eq]; unfold lU at g2; omega)]
     refine sh ?_
     exact rT
   ·refine sh ?_
    rw[e1]
    clear e1 e2
    refine ae.pure h.n280.zN.hb (jr h.n280 ⟨by omega,by omega⟩ _ _) rfl ?_
    rw[hE _ _ (by simp only[true_and]; rw[if_neg (by omega)]; simp) (by simp only[true_and]; rw[if_neg (by omega)]; congr 1; unfold lU; apply propext; constructor<;>intro<;>omega)]
    refine sh ?_
    exact rT
theorem HX {R:Env} (h:P6 R) {n:Int} (hn:fA n):R.Pc 272 [.int .i64 n] (.int .i64 (jY (n*4294967296))):=
 h.K4.enter 100 rfl fun X bb hfit hp=>by
  refine sh ?_
  refine ae.pure h.n279.xQ.hb (j0 h.n279 hn) rfl ?_
  have u1:=hG hn
  refine sh ?_
  rw[HI]
  refine ae.pure h.n280.zN.hb (jr h.n280 ⟨by omega,by omega⟩ _ _) rfl ?_
  have e:lV (bK n*4294967296 % 18446744073709551616) (decide (n<0)) (decide (bK n>= 4294967296))=jY (n*4294967296):=by
   rw[cy]at hn
   by_cases h1:n<0
   ·have e1:bK n= -n:=if_pos h1
    rw[e1,decide_eq_true h1]
    unfold lV jY
    simp only[if_true,decide_eq_true_eq]
    repeat' split
    all_goals omega
   ·have e1:bK n=n:=if_neg h1
    rw[e1,decide_eq_false h1]
    unfold lV jY
    simp only[Bool.false_eq_true,if_false,decide_eq_true_eq]
    repeat' split
    all_goals omega
  rw[e]
  refine sh ?_
  exact rT
theorem HY {R:Env} (h:P4 R) {x:Int} (hx:fA x):R.Pc 273 [.int .i64 x] (.int .i64 (x / 4294967296)):=
 h.VT.enter 100 rfl fun X bb hfit hp=>by
  refine sh ?_
  refine ae.pure h.n279.xQ.hb (j0 h.n279 hx) rfl ?_
  have u1:=hG hx
  have hand:eE .and .u64 (bK x) 4294967295=bK x % 4294967296:=pF (pG hx)
  have ahi:fC .u64 (bK x) 32=bK x / 4294967296:=wE .u64 (by decide)
  have hx2:=hx
  rw[cy]at hx2
  refine sh ?_
  refine cS (fun h1=> ?_) (fun h1=> ?_)
  ·have e1:bK x=x:=if_neg (show ¬x<0 by omega)
   refine sh ?_
   refine rT ?_
   exact iV
   all_goals omega
  ·have e1:bK x= -x:=if_pos h1
   refine sh ?_
   rw[hand]
   refine cS (fun g=> ?_) (fun g=> ?_)
   ·refine sh ?_
    refine rT ?_
    exact iV
    all_goals omega
   ·refine sh ?_
    refine rT ?_
    exact iV
    all_goals omega
theorem uf {R:Env} (h:P5 R) {x:Int} (hx:fA x):R.Pc 261 [.int .i64 x] (.int .i64 (eW x)):=
 h.K3.enter 100 rfl fun X bb hfit hp=>by
  have hx2:=hx
  rw[cy]at hx2
  refine sh ?_
  refine cS (fun h1=> ?_) (fun h1=> ?_)
  ·refine sh ?_
   refine rT ?_
   refine be ?_
   all_goals (unfold eW; omega)
  ·refine sh ?_
   refine ae.pure h.n273.VT.hb (HY h.n273 (x:=x+2147483648) ⟨by omega,by omega⟩) rfl ?_
   refine sh ?_
   exact rT
theorem BR {R:Env} (h:P7 R) {a b:T3} (ha:a.I) (hb:b.I):R.Pc 253 [.agg (t3 a),.agg (t3 b)] (.int .i64 (Nh a b)):=
 h.K5.enter 100 rfl fun X bb hfit hp=>by
  refine sh ?_
  refine ae.pure h.n268.K1.hb (ue h.n268 ha.1 hb.1) rfl ?_
  refine sh ?_
  refine ae.pure h.n269.BH.hb (qq h.n269 (a:=0) ⟨by decide,by decide⟩ (jZ a.a b.a)) rfl ?_
  rw[wF (jZ a.a b.a)]
  refine sh ?_
  refine ae.pure h.n268.K1.hb (ue h.n268 ha.2.1 hb.2.1) rfl ?_
  refine sh ?_
  refine ae.pure h.n269.BH.hb (qq h.n269 (jZ a.a b.a) (jZ a.b b.b)) rfl ?_
  refine sh ?_
  refine ae.pure h.n268.K1.hb (ue h.n268 ha.2.2 hb.2.2) rfl ?_
  refine sh ?_
  refine ae.pure h.n269.BH.hb (qq h.n269 (fB _ _) (jZ a.c b.c)) rfl ?_
  refine sh ?_
  exact rT
theorem Lw {R:Env} (h:P8 R) {a b:T3} (ha:a.I) (hb:b.I):R.Pc 254 [.agg (t3 a),.agg (t3 b)] (.agg (t3 (vn a b))):=
 h.VY.enter 100 rfl fun X bb hfit hp=>by
  refine sh ?_
  refine ae.pure h.n269.BH.hb (qq h.n269 ha.1 hb.1) rfl ?_
  refine sh ?_
  refine ae.pure h.n269.BH.hb (qq h.n269 ha.2.1 hb.2.1) rfl ?_
  refine sh ?_
  refine ae.pure h.n269.BH.hb (qq h.n269 ha.2.2 hb.2.2) rfl ?_
  refine sh ?_
  exact rT
theorem QR {R:Env} (h:Qa R) {p:T3} (rS:p.I):R.Pc 259 [.agg (t3 p)] (.agg (t3 (RZ p))):=
 h.V3.enter 100 rfl fun X bb hfit hp=>by
  refine sh ?_
  refine ae.pure h.n272.K4.hb (HX h.n272 rS.1) rfl ?_
  refine sh ?_
  refine ae.pure h.n272.K4.hb (HX h.n272 rS.2.1) rfl ?_
  refine sh ?_
  refine ae.pure h.n272.K4.hb (HX h.n272 rS.2.2) rfl ?_
  refine sh ?_
  exact rT
theorem js {R:Env} (h:P9 R) {x:Int} (hx:fA x):R.Pc 271 [.int .i64 x] (.int .i64 (n1 x)):=
 h.zO.enter 100 rfl fun X bb hfit hp=>by
  refine sh ?_
  refine cS (fun h1=> ?_) (fun h1=> ?_)
  ·refine sh ?_
   refine ae.pure h.n282.VR.hb (Lv h.n282 hx) rfl ?_
   refine sh ?_
   refine rT ?_
   refine be ?_
   all_goals (unfold n1; rw[if_pos h1])
  ·refine sh ?_
   refine rT ?_
   refine be ?_
   all_goals (unfold n1; rw[if_neg (by omega)])
theorem Lx {R:Env} (h:P' R) {p:T3} (rS:p.I):R.Pc 257 [.agg (t3 p)] (.int .i64 (CR p)):=
 h.V1.enter 100 rfl fun X bb hfit hp=>by
  unfold CR
  refine sh ?_
  refine ae.pure h.n271.zO.hb (js h.n271 rS.1) rfl ?_
  refine sh ?_
  refine ae.pure h.n271.zO.hb (js h.n271 rS.2.1) rfl ?_
  refine sh ?_
  refine cS (fun h1=> ?_) (fun h1=> ?_)
  ·refine sh ?_
   refine ae.pure h.n271.zO.hb (js h.n271 rS.2.1) rfl ?_
   refine sh ?_
   refine ae.pure h.n271.zO.hb (js h.n271 rS.2.2) rfl ?_
   refine sh ?_
   refine cS (fun h2=> ?_) (fun h2=> ?_)
   ·refine sh ?_
    refine ae.pure h.n271.zO.hb (js h.n271 rS.2.2) rfl ?_
    refine sh ?_
    refine rT ?_
    exact iV
    all_goals omega
   ·refine sh ?_
    refine rT ?_
    exact iV
    all_goals omega
  ·refine sh ?_
   refine ae.pure h.n271.zO.hb (js h.n271 rS.2.2) rfl ?_
   refine sh ?_
   refine cS (fun h2=> ?_) (fun h2=> ?_)
   ·refine sh ?_
    refine ae.pure h.n271.zO.hb (js h.n271 rS.2.2) rfl ?_
    refine sh ?_
    refine rT ?_
    exact iV
    all_goals omega
   ·refine sh ?_
    refine rT ?_
    exact iV
    all_goals omega
end Go.UM
namespace Go.UM
open Go.AM
set_option maxRecDepth 4000
@[simp] theorem af6 (x:T3):AV.az (t3 x)=[]:=by simp[t3]
@[simp] theorem af7 (x:T3):AV.jo (t3 x)=true:=by simp[t3]
@[simp] theorem af8 (a:Af):AV.az a.row=[]:=by simp[Af.row]
@[simp] theorem af9 (a:Af):AV.jo a.row=true:=by simp[Af.row]
theorem Ly {R:Env} (h:O' R):R.Pc 221 [] (.agg HL.row):=
 h.UJ.enter 60 rfl fun X bb hfit hp=>by
  refine sh ?_
  exact rT
theorem BS {R:Env} (h:Pa R) (a:Af) (i:Nat) (hi:i<3):R.Pc 251 [.agg a.Xb,.int .i64 i] (.agg (t3 (a.rw i))):=by
 match i,hi with
 |0,_=>
  exact h.EH.enter 60 rfl fun X bb hfit hp=>by
   refine sh ?_
   exact rT
 |1,_=>
  exact h.EH.enter 60 rfl fun X bb hfit hp=>by
   refine sh ?_
   exact rT
 |2,_=>
  exact h.EH.enter 60 rfl fun X bb hfit hp=>by
   refine sh ?_
   exact rT
theorem Lz {R:Env} (h:Pb R) {a:Af} {v:T3} (ha:a.I) (hv:v.I):R.Pc 231 [.agg a.row,.agg (t3 v)] (.agg (t3 (wG a v))):=
 h.UN.enter 60 rfl fun X bb hfit hp=>by
  refine sh ?_
  refine ae.pure h.n251.EH.hb (BS h.n251 a 0 (by omega)) rfl ?_
  refine sh ?_
  refine ae.pure h.n252.KF.hb (HV h.n252 (ha.rw 0) hv) rfl ?_
  refine sh ?_
  refine ae.pure h.n251.EH.hb (BS h.n251 a 1 (by omega)) rfl ?_
  refine sh ?_
  refine ae.pure h.n252.KF.hb (HV h.n252 (ha.rw 1) hv) rfl ?_
  refine sh ?_
  refine ae.pure h.n251.EH.hb (BS h.n251 a 2 (by omega)) rfl ?_
  refine sh ?_
  refine ae.pure h.n252.KF.hb (HV h.n252 (ha.rw 2) hv) rfl ?_
  refine sh ?_
  exact rT
theorem HZ {R:Env} (h:Pd R) {a:Af} {v:T3} (ha:a.I) (hv:v.I):R.Pc 233 [.agg a.row,.agg (t3 v)] (.agg (t3 (qp a v))):=
 h.UP.enter 60 rfl fun X bb hfit hp=>by
  refine sh ?_
  refine ae.pure h.n231.UN.hb (Lz h.n231 ha hv) rfl ?_
  have i1:=CU a v
  have c1:=QO h.n246 [wG a v,a.t] (by simp) (by intro x hx; simp at hx; rcases hx with rfl|rfl; exact i1; exact ha.t)
  rw[show [wG a v,a.t].foldl vn z3=qp a v by simp[W9 i1,qp]]at c1
  refine sh ?_
  refine cM true [] (c1.mc h.n246.UD.hb) ?_
  repeat (intro _; first|refine eK ?_|refine eP ?_)
  refine sh ?_
  exact rT
theorem H0 {R:Env} (h:Qb R) {a:Af} {v:T3} (ha:a.I) (hv:v.I):R.Pc 232 [.agg a.row,.agg (t3 v)] (.agg (t3 (wG a v))):=
 h.V5.enter 60 rfl fun X bb hfit hp=>by
  refine sh ?_
  refine ao.one 100 ?_
  refine sh ?_
  refine af (by decide) ?_
  refine sh ?_
  refine ae.pure h.n253.K5.hb (BR h.n253 (ha.rw 0) hv) rfl ?_
  refine sh ?_
  refine ao.one 100 ?_
  refine sh ?_
  refine af (by decide) ?_
  refine sh ?_
  refine ae.pure h.n253.K5.hb (BR h.n253 (ha.rw 1) hv) rfl ?_
  refine sh ?_
  refine ao.one 100 ?_
  refine sh ?_
  refine af (by decide) ?_
  refine sh ?_
  refine ae.pure h.n253.K5.hb (BR h.n253 (ha.rw 2) hv) rfl ?_
  refine sh ?_
  refine ao.one 100 ?_
  refine sh ?_
  refine aw (by decide) ?_
  refine sh ?_
  refine tQ rfl ?_
  refine sh ?_
  refine tQ rfl ?_
  refine sh ?_
  refine tQ rfl ?_
  refine sh ?_
  exact rT
theorem ET {R:Env} (h:Qc R) {a:Af} {v:T3} (ha:a.I) (hv:v.I):R.Pc 234 [.agg a.row,.agg (t3 v)] (.agg (t3 (qp a v))):=
 h.V7.enter 60 rfl fun X bb hfit hp=>by
  refine sh ?_
  refine ae.pure h.n232.V5.hb (H0 h.n232 ha hv) rfl ?_
  refine sh ?_
  refine ae.pure h.n254.VY.hb (Lw h.n254 (CU a v) ha.t) rfl ?_
  refine sh ?_
  exact rT
theorem de {x:Int} (hx:fA x):bU x=decide (1099511627776<n1 x):=by
 rw[cy]at hx
 unfold bU n1 jY
 rw[Bool.eq_iff_iff]
 simp only[Bool.or_eq_true,decide_eq_true_eq]
 repeat' split
 all_goals omega
theorem br {a:Af} {x:Int} (hx:x ∈ ms a) (h:bU x=true):vq a=2:=by
 unfold vq
 rw[if_pos (List.any_eq_true.2 ⟨x,hx,h⟩)]
theorem H1 {R:Env} (h:Pe R) {a:Af} (ha:a.I):R.Pc 235 [.agg a.row] (.int .i64 (vq a)):=
 h.UR.enter 100 rfl fun X bb hfit hp=>by
  refine sh ?_
  refine ao.one 100 ?_
  refine sh ?_
  refine af (by decide) ?_
  refine sh ?_
  refine ae.pure h.n255.qn.hb (iC h.n255 ha.m0) rfl ?_
  refine sh ?_
  refine cS (fun o0=> ?_) (fun o0=> ?_)
  ·rw[br (x:=a.m0) (by simp[ms]) (by rw[de ha.m0]; simpa using o0)]
   refine sh ?_
   exact rT
  ·skip
   refine sh ?_
   refine ao.one 100 ?_
   refine sh ?_
   refine af (by decide) ?_
   refine sh ?_
   refine ae.pure h.n255.qn.hb (iC h.n255 ha.m1) rfl ?_
   refine sh ?_
   refine cS (fun o1=> ?_) (fun o1=> ?_)
   ·rw[br (x:=a.m1) (by simp[ms]) (by rw[de ha.m1]; simpa using o1)]
    refine sh ?_
    exact rT
   ·skip
    refine sh ?_
    refine ao.one 100 ?_
    refine sh ?_
    refine af (by decide) ?_
    refine sh ?_
    refine ae.pure h.n255.qn.hb (iC h.n255 ha.m2) rfl ?_
    refine sh ?_
    refine cS (fun o2=> ?_) (fun o2=> ?_)
    ·rw[br (x:=a.m2) (by simp[ms]) (by rw[de ha.m2]; simpa using o2)]
     refine sh ?_
     exact rT
    ·skip
     refine sh ?_
     refine ao.one 100 ?_
     refine sh ?_
     refine af (by decide) ?_
     refine sh ?_
     refine ae.pure h.n255.qn.hb (iC h.n255 ha.m3) rfl ?_
     refine sh ?_
     refine cS (fun o3=> ?_) (fun o3=> ?_)
     ·rw[br (x:=a.m3) (by simp[ms]) (by rw[de ha.m3]; simpa using o3)]
      refine sh ?_
      exact rT
     ·skip
      refine sh ?_
      refine ao.one 100 ?_
      refine sh ?_
      refine af (by decide) ?_
      refine sh ?_
      refine ae.pure h.n255.qn.hb (iC h.n255 ha.m4) rfl ?_
      refine sh ?_
      refine cS (fun o4=> ?_) (fun o4=> ?_)
      ·rw[br (x:=a.m4) (by simp[ms]) (by rw[de ha.m4]; simpa using o4)]
       refine sh ?_
       exact rT
      ·skip
       refine sh ?_
       refine ao.one 100 ?_
       refine sh ?_
       refine af (by decide) ?_
       refine sh ?_
       refine ae.pure h.n255.qn.hb (iC h.n255 ha.m5) rfl ?_
       refine sh ?_
       refine cS (fun o5=> ?_) (fun o5=> ?_)
       ·rw[br (x:=a.m5) (by simp[ms]) (by rw[de ha.m5]; simpa using o5)]
        refine sh ?_
        exact rT
       ·skip
        refine sh ?_
        refine ao.one 100 ?_
        refine sh ?_
        refine af (by decide) ?_
        refine sh ?_
        refine ae.pure h.n255.qn.hb (iC h.n255 ha.m6) rfl ?_
        refine sh ?_
        refine cS (fun o6=> ?_) (fun o6=> ?_)
        ·rw[br (x:=a.m6) (by simp[ms]) (by rw[de ha.m6]; simpa using o6)]
         refine sh ?_
         exact rT
        ·skip
         refine sh ?_
         refine ao.one 100 ?_
         refine sh ?_
         refine af (by decide) ?_
         refine sh ?_
         refine ae.pure h.n255.qn.hb (iC h.n255 ha.m7) rfl ?_
         refine sh ?_
         refine cS (fun o7=> ?_) (fun o7=> ?_)
         ·rw[br (x:=a.m7) (by simp[ms]) (by rw[de ha.m7]; simpa using o7)]
          refine sh ?_
          exact rT
         ·skip
          refine sh ?_
          refine ao.one 100 ?_
          refine sh ?_
          refine af (by decide) ?_
          refine sh ?_
          refine ae.pure h.n255.qn.hb (iC h.n255 ha.m8) rfl ?_
          refine sh ?_
          refine cS (fun o8=> ?_) (fun o8=> ?_)
          ·rw[br (x:=a.m8) (by simp[ms]) (by rw[de ha.m8]; simpa using o8)]
           refine sh ?_
           exact rT
          ·skip
           refine sh ?_
           refine ao.one 100 ?_
           refine sh ?_
           refine aw (by decide) ?_
           have hno:(ms a).any bU=false:=by
            simp only[ms,List.any_cons,List.any_nil,(de ha.m0).trans (decide_eq_false (by omega)),(de ha.m1).trans (decide_eq_false (by omega)),(de ha.m2).trans (decide_eq_false (by omega)),(de ha.m3).trans (decide_eq_false (by omega)),(de ha.m4).trans (decide_eq_false (by omega)),(de ha.m5).trans (decide_eq_false (by omega)),(de ha.m6).trans (decide_eq_false (by omega)),(de ha.m7).trans (decide_eq_false (by omega)),(de ha.m8).trans (decide_eq_false (by omega))]
            rfl
           unfold vq
           rw[if_neg (by rw[hno]; simp)]
           refine sh ?_
           refine ae.pure h.n256.UF.hb (Lu h.n256 ha.t) rfl ?_
           refine sh ?_
           refine cS (fun w=> ?_) (fun w=> ?_)
           ·rw[if_pos (by omega)]
            refine sh ?_
            exact rT
           ·rw[if_neg (by omega)]
            refine sh ?_
            exact rT
theorem EU {R:Env} (h:Qd R) {a:Af} (ha:a.I):R.Pc 236 [.agg a.row] (.int .i64 (vq a)):=
 h.V9.enter 100 rfl fun X bb hfit hp=>by
  refine sh ?_
  refine ao.one 100 ?_
  refine sh ?_
  refine af (by decide) ?_
  refine sh ?_
  refine cS (fun o0=> ?_) (fun o0=> ?_)
  ·rw[br (x:=a.m0) (by simp[ms]) (by simp[bU]; omega)]
   refine sh ?_
   exact rT
  ·refine sh ?_
   refine cS (fun q0=> ?_) (fun q0=> ?_)
   ·rw[br (x:=a.m0) (by simp[ms]) (by simp[bU]; omega)]
    refine sh ?_
    exact rT
   ·skip
    refine sh ?_
    refine ao.one 100 ?_
    refine sh ?_
    refine af (by decide) ?_
    refine sh ?_
    refine cS (fun o1=> ?_) (fun o1=> ?_)
    ·rw[br (x:=a.m1) (by simp[ms]) (by simp[bU]; omega)]
     refine sh ?_
     exact rT
    ·refine sh ?_
     refine cS (fun q1=> ?_) (fun q1=> ?_)
     ·rw[br (x:=a.m1) (by simp[ms]) (by simp[bU]; omega)]
      refine sh ?_
      exact rT
     ·skip
      refine sh ?_
      refine ao.one 100 ?_
      refine sh ?_
      refine af (by decide) ?_
      refine sh ?_
      refine cS (fun o2=> ?_) (fun o2=> ?_)
      ·rw[br (x:=a.m2) (by simp[ms]) (by simp[bU]; omega)]
       refine sh ?_
       exact rT
      ·refine sh ?_
       refine cS (fun q2=> ?_) (fun q2=> ?_)
       ·rw[br (x:=a.m2) (by simp[ms]) (by simp[bU]; omega)]
        refine sh ?_
        exact rT
       ·skip
        refine sh ?_
        refine ao.one 100 ?_
        refine sh ?_
        refine af (by decide) ?_
        refine sh ?_
        refine cS (fun o3=> ?_) (fun o3=> ?_)
        ·rw[br (x:=a.m3) (by simp[ms]) (by simp[bU]; omega)]
         refine sh ?_
         exact rT
        ·refine sh ?_
         refine cS (fun q3=> ?_) (fun q3=> ?_)
         ·rw[br (x:=a.m3) (by simp[ms]) (by simp[bU]; omega)]
          refine sh ?_
          exact rT
         ·skip
          refine sh ?_
          refine ao.one 100 ?_
          refine sh ?_
          refine af (by decide) ?_
          refine sh ?_
          refine cS (fun o4=> ?_) (fun o4=> ?_)
          ·rw[br (x:=a.m4) (by simp[ms]) (by simp[bU]; omega)]
           refine sh ?_
           exact rT
          ·refine sh ?_
           refine cS (fun q4=> ?_) (fun q4=> ?_)
           ·rw[br (x:=a.m4) (by simp[ms]) (by simp[bU]; omega)]
            refine sh ?_
            exact rT
           ·skip
            refine sh ?_
            refine ao.one 100 ?_
            refine sh ?_
            refine af (by decide) ?_
            refine sh ?_
            refine cS (fun o5=> ?_) (fun o5=> ?_)
            ·rw[br (x:=a.m5) (by simp[ms]) (by simp[bU]; omega)]
             refine sh ?_
             exact rT
            ·refine sh ?_
             refine cS (fun q5=> ?_) (fun q5=> ?_)
             ·rw[br (x:=a.m5) (by simp[ms]) (by simp[bU]; omega)]
              refine sh ?_
              exact rT
             ·skip
              refine sh ?_
              refine ao.one 100 ?_
              refine sh ?_
              refine af (by decide) ?_
              refine sh ?_
              refine cS (fun o6=> ?_) (fun o6=> ?_)
              ·rw[br (x:=a.m6) (by simp[ms]) (by simp[bU]; omega)]
               refine sh ?_
               exact rT
              ·refine sh ?_
               refine cS (fun q6=> ?_) (fun q6=> ?_)
               ·rw[br (x:=a.m6) (by simp[ms]) (by simp[bU]; omega)]
                refine sh ?_
                exact rT
               ·skip
                refine sh ?_
                refine ao.one 100 ?_
                refine sh ?_
                refine af (by decide) ?_
                refine sh ?_
                refine cS (fun o7=> ?_) (fun o7=> ?_)
                ·rw[br (x:=a.m7) (by simp[ms]) (by simp[bU]; omega)]
                 refine sh ?_
                 exact rT
                ·refine sh ?_
                 refine cS (fun q7=> ?_) (fun q7=> ?_)
                 ·rw[br (x:=a.m7) (by simp[ms]) (by simp[bU]; omega)]
                  refine sh ?_
                  exact rT
                 ·skip
                  refine sh ?_
                  refine ao.one 100 ?_
                  refine sh ?_
                  refine af (by decide) ?_
                  refine sh ?_
                  refine cS (fun o8=> ?_) (fun o8=> ?_)
                  ·rw[br (x:=a.m8) (by simp[ms]) (by simp[bU]; omega)]
                   refine sh ?_
                   exact rT
                  ·refine sh ?_
                   refine cS (fun q8=> ?_) (fun q8=> ?_)
                   ·rw[br (x:=a.m8) (by simp[ms]) (by simp[bU]; omega)]
                    refine sh ?_
                    exact rT
                   ·skip
                    refine sh ?_
                    refine ao.one 100 ?_
                    refine sh ?_
                    refine aw (by decide) ?_
                    have hno:(ms a).any bU=false:=by
                     simp only[ms,List.any_cons,List.any_nil,(show bU a.m0=false by simp[bU]; omega),(show bU a.m1=false by simp[bU]; omega),(show bU a.m2=false by simp[bU]; omega),(show bU a.m3=false by simp[bU]; omega),(show bU a.m4=false by simp[bU]; omega),(show bU a.m5=false by simp[bU]; omega),(show bU a.m6=false by simp[bU]; omega),(show bU a.m7=false by simp[bU]; omega),(show bU a.m8=false by simp[bU]; omega)]
                     rfl
                    unfold vq
                    rw[if_neg (by rw[hno]; simp)]
                    refine sh ?_
                    refine ae.pure h.n257.V1.hb (Lx h.n257 ha.t) rfl ?_
                    refine sh ?_
                    refine cS (fun w=> ?_) (fun w=> ?_)
                    ·rw[if_pos (by omega)]
                     refine sh ?_
                     exact rT
                    ·rw[if_neg (by omega)]
                     refine sh ?_
                     exact rT
theorem LA {R:Env} (h:Pf R) {v:T3} (hv:v.I):R.Pc 243 [.agg (t3 v)] (.aN [.agg (t3 (n2 v).1),.int .i64 (n2 v).2]):=
 h.UT.enter 100 rfl fun X bb hfit hp=>by
  refine sh ?_
  refine ae.pure h.n260.KA.hb (ud h.n260 hv.1) rfl ?_
  refine sh ?_
  refine ae.pure h.n260.KA.hb (ud h.n260 hv.2.1) rfl ?_
  refine sh ?_
  refine ae.pure h.n260.KA.hb (ud h.n260 hv.2.2) rfl ?_
  generalize hq:n2 v=q
  unfold n2 Lq at hq
  generalize eW v.a=x at*
  generalize eW v.b=y at*
  generalize eW v.c=z at*
  unfold EN at hq
  refine sh ?_
  refine cS (fun h1=> ?_) (fun h1=> ?_)
  ·rw[if_pos (by simp; omega)]at hq
   subst hq
   refine sh ?_
   exact rT
  ·refine sh ?_
   refine cS (fun h2=> ?_) (fun h2=> ?_)
   ·rw[if_pos (by simp; omega)]at hq
    subst hq
    refine sh ?_
    exact rT
   ·rw[if_neg (by simp; omega)]at hq
    subst hq
    refine sh ?_
    exact rT
theorem H2 {R:Env} (h:Qe R) {v:T3} (hv:v.I):R.Pc 244 [.agg (t3 v)] (.aN [.agg (t3 (n2 v).1),.int .i64 (n2 v).2]):=
 h.Wa.enter 100 rfl fun X bb hfit hp=>by
  refine sh ?_
  refine ae.pure h.n261.K3.hb (uf h.n261 hv.1) rfl ?_
  refine sh ?_
  refine ae.pure h.n261.K3.hb (uf h.n261 hv.2.1) rfl ?_
  refine sh ?_
  refine ae.pure h.n261.K3.hb (uf h.n261 hv.2.2) rfl ?_
  generalize hq:n2 v=q
  unfold n2 Lq at hq
  generalize eW v.a=x at*
  generalize eW v.b=y at*
  generalize eW v.c=z at*
  unfold EN at hq
  by_cases ho:(65536<x\/ x< -65536)\/(65536<y\/ y< -65536)\/(65536<z\/ z< -65536)
  ·rw[if_pos (by simp; omega)]at hq
   subst hq
   refine sh ?_
   refine cS (fun h1=> ?_) (fun h1=> ?_)
   ·refine sh ?_
    exact rT
   ·refine sh ?_
    refine cS (fun h2=> ?_) (fun h2=> ?_)
    ·refine sh ?_
     exact rT
    ·refine sh ?_
     refine cS (fun h3=> ?_) (fun h3=> ?_)
     ·refine sh ?_
      exact rT
     ·refine sh ?_
      refine cS (fun h4=> ?_) (fun h4=> ?_)
      ·refine sh ?_
       exact rT
      ·refine sh ?_
       refine cS (fun h5=> ?_) (fun h5=> ?_)
       ·refine sh ?_
        exact rT
       ·refine sh ?_
        refine af (by (simp; omega)) ?_
        refine sh ?_
        exact rT
  ·rw[if_neg (by simp; omega)]at hq
   subst hq
   refine sh ?_
   refine aw (by (simp; omega)) ?_
   refine sh ?_
   refine aw (by (simp; omega)) ?_
   refine sh ?_
   refine aw (by (simp; omega)) ?_
   refine sh ?_
   refine aw (by (simp; omega)) ?_
   refine sh ?_
   refine aw (by (simp; omega)) ?_
   refine sh ?_
   refine aw (by (simp; omega)) ?_
   refine sh ?_
   exact rT
theorem fh {R:Env} (h:KI R) {a:Af} {p:T3} (ha:a.I) (rS:p.I):R.Pc 241 [.agg a.row,.agg (t3 p)] (.aN [.agg (t3 (bW a p).1),.int .i64 (bW a p).2]):=
 h.tU.enter 100 rfl fun X bb hfit hp=>by
  refine sh ?_
  refine ae.pure h.n235.UR.hb (H1 h.n235 ha) rfl ?_
  generalize hq:bW a p=q
  unfold bW at hq
  by_cases hc:vq a=0
  ·rw[if_neg (by simpa using hc)]at hq
   refine sh ?_
   refine aw (by simpa using hc) ?_
   refine sh ?_
   refine ae.pure h.n249.UH.hb (QP h.n249 rS) rfl ?_
   refine sh ?_
   refine ae.pure h.n233.UP.hb (HZ h.n233 ha (HJ p)) rfl ?_
   refine sh ?_
   refine ae.pure h.n243.UT.hb (LA h.n243 (zV a (RZ p))) rfl ?_
   subst hq
   refine sh ?_
   exact rT
  ·rw[if_pos (by simpa using hc)]at hq
   refine sh ?_
   refine af (by simpa using hc) ?_
   subst hq
   refine sh ?_
   exact rT
theorem qt {R:Env} (h:Qf R) {a:Af} {p:T3} (ha:a.I) (rS:p.I):R.Pc 242 [.agg a.row,.agg (t3 p)] (.aN [.agg (t3 (bW a p).1),.int .i64 (bW a p).2]):=
 h.K6.enter 100 rfl fun X bb hfit hp=>by
  refine sh ?_
  refine ae.pure h.n236.V9.hb (EU h.n236 ha) rfl ?_
  generalize hq:bW a p=q
  unfold bW at hq
  by_cases hc:vq a=0
  ·rw[if_neg (by simpa using hc)]at hq
   refine sh ?_
   refine aw (by simpa using hc) ?_
   refine sh ?_
   refine ae.pure h.n259.V3.hb (QR h.n259 rS) rfl ?_
   refine sh ?_
   refine ae.pure h.n234.V7.hb (ET h.n234 ha (HJ p)) rfl ?_
   refine sh ?_
   refine ae.pure h.n244.Wa.hb (H2 h.n244 (zV a (RZ p))) rfl ?_
   subst hq
   refine sh ?_
   exact rT
  ·rw[if_pos (by simpa using hc)]at hq
   refine sh ?_
   refine af (by simpa using hc) ?_
   subst hq
   refine sh ?_
   exact rT
end Go.UM
namespace Go.UM
open Go.AM
set_option maxRecDepth 4000
end Go.UM
namespace Go.UM
open Go.AM
set_option maxRecDepth 4000
structure Gr where
 par:Int
 t:Af
 aQ:Int
 df:Int
 cb:Int
def Gr.row (g:Gr):List AV:=[.int .i64 g.par,.int .i64 g.t.m0,.int .i64 g.t.m1,.int .i64 g.t.m2,.int .i64 g.t.m3,.int .i64 g.t.m4,.int .i64 g.t.m5,.int .i64 g.t.m6,.int .i64 g.t.m7,.int .i64 g.t.m8,.int .i64 g.t.t.a,.int .i64 g.t.t.b,.int .i64 g.t.t.c,.int .i64 g.aQ,.int .i64 g.df,.int .i64 g.cb]
end Go.UM
namespace Go.UM
open Go.AM
set_option maxRecDepth 4000
end Go.UM
namespace Go.UM
open Go.AM
set_option maxRecDepth 4000
end Go.UM
namespace Go.UM
open Go.AM
set_option maxRecDepth 4000
end Go.UM
namespace Go.UM
open Go.AM
set_option maxRecDepth 4000
def z4:Af:=⟨0,0,0,0,0,0,0,0,0,z3⟩
end Go.UM
namespace Go.UM
open Go.AM
set_option maxRecDepth 4000
structure In where
 aQ:Int
 df:Int
 cb:Int
 n:Int
 t:Af
def In.row (x:In):List AV:=[.int .i64 x.aQ,.int .i64 x.df,.int .i64 x.cb,.int .i64 x.n,.int .i64 x.t.m0,.int .i64 x.t.m1,.int .i64 x.t.m2,.int .i64 x.t.m3,.int .i64 x.t.m4,.int .i64 x.t.m5,.int .i64 x.t.m6,.int .i64 x.t.m7,.int .i64 x.t.m8,.int .i64 x.t.t.a,.int .i64 x.t.t.b,.int .i64 x.t.t.c]
def cE (l:List In):List (List AV):=l.map In.row
@[simp] theorem BT (l:List In):(cE l).length=l.length:=by simp[cE]
@[simp] theorem BU (a b:List In):cE (a++b)=cE a++cE b:=by simp[cE]
@[simp] theorem Y0 (l:List In):mW (cE l):=by simp[cE,In.row]
@[simp] theorem Y1 (l:List In):zK (cE l):=by simp[cE,In.row]
instance {l:List In}:iG (cE l) l.length:=⟨BT l⟩
def abH (g:Gr) (k:T3):Bool:=(g.aQ==k.a)&&((g.df==k.b)&&((g.cb==k.c)&&true))
def abI (l:List Gr) (k:T3):Nat:=l.countP fun g=>abH g k
def Xb (l:List Gr) (k:T3):List AV:=[.int .i64 k.a,.int .i64 k.b,.int .i64 k.c,.int .i64 (abI l k)]
end Go.UM
namespace Go.UM
open Go.AM
set_option maxRecDepth 4000
theorem afv {kc:List AV} {es:List (List AV)} {K:AV->Prop} {c:AV} (g:∀r ∈ es,jF r=true) (e:DD (bL kc es)=c) (k:K c):AFv kc es K:=⟨g,by rw[e]; exact k⟩
end Go.UM
namespace Go.UM
open Go.AM
set_option maxRecDepth 4000
end Go.UM
namespace Go.UM
open Go.AM
set_option maxRecDepth 4000
def p2 (x:Int × Int):List AV:=[.int .i64 x.1,.int .i64 x.2]
def cW (l:List (Int × Int)):List (List AV):=l.map p2
@[simp] theorem Xf:cW []=[]:=rfl
@[simp] theorem zW (l:List (Int × Int)):(cW l).length=l.length:=by simp[cW]
@[simp] theorem Nk (a b:List (Int × Int)):cW (a++b)=cW a++cW b:=by simp[cW]
@[simp] theorem Xg (l:List (Int × Int)):mW (cW l):=by simp[cW,p2]
@[simp] theorem Xh (l:List (Int × Int)):zK (cW l):=by simp[cW,p2]
theorem EV (l:List (Int × Int)) (k:Nat):(cW l).take k=cW (l.take k):=by simp[cW,List.map_take]
instance {l:List (Int × Int)}:iG (cW l) l.length:=⟨zW l⟩
structure Ms where
 v:List T3
 uv:List (Int × Int)
 t:List T3
def Ms.row (m:Ms):List AV:=[.aH 3 (bJ m.v),.aH 2 (cW m.uv),.aH 3 (bJ m.t)]
def lD (p:T3):Bool:= !(decide (-4096<=p.a/\p.a<=4096/\ -4096<=p.b/\p.b<=4096/\ -4096<=p.c/\p.c<=4096))
def rU (x:Int × Int):Bool:= !(decide (0<=x.1/\x.1<=65535/\0<=x.2/\x.2<=65535))
def mE (n:Nat) (t:T3):Bool:= !(decide (0<=t.a/\t.a<n/\0<=t.b/\t.b<n/\0<=t.c/\t.c<n/\t.a≠t.b/\t.b≠t.c/\t.c≠t.a))
def jI (m:Ms):Int:=
 if 64<m.v.length\/ 64<m.t.length then 3
 else if m.v.length=0\/ m.t.length=0\/ m.uv.length≠m.v.length then 5
 else if m.v.any lD=true then 8
 else if m.uv.any rU=true\/ m.t.any (mE m.v.length)=true then 5 else 0
def pH {α:Type} (l:List α) (p:α->Bool):Int:=if l.any p=true then (l.findIdx p:Int)else -1
theorem pI {α:Type} {p:α->Bool} {x:α}:∀ {l:List α} {i:Nat},l[i]? =some x->p x=true->(l.take i).any p=false->l.findIdx p=i
 |[],_,h,_,_=>by simp at h
 |a::r,0,h,hp,_=>by simp at h; subst h; simp[List.findIdx_cons,hp]
 |a::r,i+1,h,hp,hn=>by
  simp only[List.take_succ_cons,List.any_cons,Bool.or_eq_false_iff]at hn
  rw[List.findIdx_cons,hn.1,pI (l:=r) (i:=i) (by simpa using h) hp hn.2]
  rfl
theorem ec {α:Type} {p:α->Bool} {l:List α} {i:Nat} {x:α} (h:l[i]? =some x) (hp:p x=true):l.any p=true:=List.any_eq_true.2 ⟨x,List.mem_of_getElem? h,hp⟩
theorem dd {α:Type} {l:List α} {k:Nat} {x:α} {p:α->Bool} (h:l[k]? =some x):(l.take (k+1)).any p=((l.take k).any p||p x):=by
 rw[ar h]; simp
theorem sf {α:Type} {l:List α} {p:α->Bool}:decide (pH l p>= 0)=l.any p:=by
 unfold pH
 split
 ·rename_i h; rw[h]; simp
 ·rename_i h; simp at h ⊢; exact h
theorem H3 {R:Env} (h:OD R) (g:Nat) (hb:cx R.P (R.ft g)) (l:List T3) (p:T3->Bool) (hc:∀x ∈ l,R.Pc g [.agg (t3 x)] (.bool (p x))) (hl:l.length<=1073741824):R.Pc 217 [.aH 3 (bJ l),R.cl g []] (.int .i64 (pH l p)):=
 h.TB.enter 100 rfl fun X bb hfit hp=>by
  refine sh ?_
  refine gD 100 (fun i:Nat=>i<=l.length/\(l.take i).any p=false) (fun i=>⟨[(0,.aH 3 (bJ l)),(1,R.cl g []),(7,.int .i64 l.length),(8,.int .i64 i)],[],0⟩) (fun i=>l.length - i) (0) ?_ ?_
  ·exact⟨Nat.zero_le _,by simp⟩
  ·intro i hi
   dsimp only
   refine sh ?_
   refine cS (fun h1=> ?_) (fun h1=> ?_)
   ·obtain⟨x,hx⟩:∃u_,l[i]? =some u_:=⟨_,List.getElem?_eq_getElem (by first|omega|(simp<;>omega))⟩
    refine sh ?_
    refine aa hx ?_
    refine sh ?_
    refine ae.pure hb (hc x (List.mem_of_getElem? hx)) rfl ?_
    refine sh ?_
    refine cS (fun h2=> ?_) (fun h2=> ?_)
    ·refine sh ?_
     refine rT ?_
     refine be ?_
     unfold pH
     rw[if_pos (ec hx h2),pI hx h2 hi.2]
    ·refine sh ?_
     refine kI (i+1) ?_ ?_
     ·refine⟨by omega,?_⟩
      rw[dd hx,hi.2,h2]; rfl
     ·omega
   ·refine sh ?_
    refine rT ?_
    refine be ?_
    unfold pH
    have h3:=hi.2
    rw[List.take_of_length_le (by omega)]at h3
    rw[if_neg (by simp[h3])]
theorem EW {R:Env} (h:OE R) (g:Nat) (hb:cx R.P (R.ft g)) (l:List T3) (p:T3->Bool) (hc:∀x ∈ l,R.Pc g [.agg (t3 x)] (.bool (p x))) (hl:l.length<=1073741824):R.Pc 209 [.aH 3 (bJ l),R.cl g []] (.bool (l.any p)):=
 h.TE.enter 100 rfl fun X bb hfit hp=>by
  refine sh ?_
  refine ae.pure h.n217.TB.hb (H3 h.n217 g hb l p hc hl) rfl ?_
  refine sh ?_
  refine rT ?_
  refine be ?_
  exact sf
theorem H4 {R:Env} (h:OF R) (g:Nat) (hb:cx R.P (R.ft g)) (l:List (Int × Int)) (p:Int × Int->Bool) (hc:∀x ∈ l,R.Pc g [.agg (p2 x)] (.bool (p x))) (hl:l.length<=1073741824):R.Pc 218 [.aH 2 (cW l),R.cl g []] (.int .i64 (pH l p)):=
 h.TG.enter 100 rfl fun X bb hfit hp=>by
  refine sh ?_
  refine gD 100 (fun i:Nat=>i<=l.length/\(l.take i).any p=false) (fun i=>⟨[(0,.aH 2 (cW l)),(1,R.cl g []),(7,.int .i64 l.length),(8,.int .i64 i)],[],0⟩) (fun i=>l.length - i) (0) ?_ ?_
  ·exact⟨Nat.zero_le _,by simp⟩
  ·intro i hi
   dsimp only
   refine sh ?_
   refine cS (fun h1=> ?_) (fun h1=> ?_)
   ·obtain⟨x,hx⟩:∃u_,l[i]? =some u_:=⟨_,List.getElem?_eq_getElem (by first|omega|(simp<;>omega))⟩
    refine sh ?_
    refine aa hx ?_
    refine sh ?_
    refine ae.pure hb (hc x (List.mem_of_getElem? hx)) rfl ?_
    refine sh ?_
    refine cS (fun h2=> ?_) (fun h2=> ?_)
    ·refine sh ?_
     refine rT ?_
     refine be ?_
     unfold pH
     rw[if_pos (ec hx h2),pI hx h2 hi.2]
    ·refine sh ?_
     refine kI (i+1) ?_ ?_
     ·refine⟨by omega,?_⟩
      rw[dd hx,hi.2,h2]; rfl
     ·omega
   ·refine sh ?_
    refine rT ?_
    refine be ?_
    unfold pH
    have h3:=hi.2
    rw[List.take_of_length_le (by omega)]at h3
    rw[if_neg (by simp[h3])]
theorem EX {R:Env} (h:OG R) (g:Nat) (hb:cx R.P (R.ft g)) (l:List (Int × Int)) (p:Int × Int->Bool) (hc:∀x ∈ l,R.Pc g [.agg (p2 x)] (.bool (p x))) (hl:l.length<=1073741824):R.Pc 210 [.aH 2 (cW l),R.cl g []] (.bool (l.any p)):=
 h.TI.enter 100 rfl fun X bb hfit hp=>by
  refine sh ?_
  refine ae.pure h.n218.TG.hb (H4 h.n218 g hb l p hc hl) rfl ?_
  refine sh ?_
  refine rT ?_
  refine be ?_
  exact sf
def H5 (R:Env) (m:Ms):ah:=[(0,.var (R.ty 25) m.row)]
theorem H6 {R:Env} (h:OH R) (g:Nat) (l:List T3) (p:T3->Bool) (m:Ms) (hc:∀x ∈ l,R.Mc g [.agg (t3 x),.loc 0 1 0 0] (H5 R m) (.bool (p x)) (H5 R m) 1) (hl:l.length<=1073741824):
  R.Mc 219 [.aH 3 (bJ l),R.cl g [.loc 0 1 0 0]] (H5 R m) (.int .i64 (pH l p)) (H5 R m) 1:=
 h.aaR.bC 100 1 rfl rfl rfl fun X bb hfit hp=>by
  refine sh ?_
  refine gD 100 (fun i:Nat=>i<=l.length/\(l.take i).any p=false) (fun i=>⟨[(0,.aH 3 (bJ l)),(1,R.cl g [.loc 0 1 0 0]),(7,.int .i64 l.length),(8,.int .i64 i)],H5 R m,1⟩) (fun i=>l.length - i) (0) ?_ ?_
  ·exact⟨Nat.zero_le _,by simp⟩
  ·intro i hi
   dsimp only
   refine sh ?_
   refine cS (fun h1=> ?_) (fun h1=> ?_)
   ·obtain⟨x,hx⟩:∃u_,l[i]? =some u_:=⟨_,List.getElem?_eq_getElem (by first|omega|(simp<;>omega))⟩
    refine sh ?_
    refine aa hx ?_
    refine sh ?_
    refine cM false [0] (hc x (List.mem_of_getElem? hx)) ?_
    repeat (intro _; first|refine eK ?_|refine eP ?_)
    refine sh ?_
    refine cS (fun h2=> ?_) (fun h2=> ?_)
    ·refine sh ?_
     refine rM [0] ?_
     refine be ?_
     unfold pH
     rw[if_pos (ec hx h2),pI hx h2 hi.2]
    ·refine sh ?_
     refine kI (i+1) ?_ ?_
     ·refine⟨by omega,?_⟩
      rw[dd hx,hi.2,h2]; rfl
     ·omega
   ·refine sh ?_
    refine rM [0] ?_
    refine be ?_
    unfold pH
    have h3:=hi.2
    rw[List.take_of_length_le (by omega)]at h3
    rw[if_neg (by simp[h3])]
theorem EY {R:Env} (h:OI R) (g:Nat) (l:List T3) (p:T3->Bool) (m:Ms) (hc:∀x ∈ l,R.Mc g [.agg (t3 x),.loc 0 1 0 0] (H5 R m) (.bool (p x)) (H5 R m) 1) (hl:l.length<=1073741824):
  R.Mc 211 [.aH 3 (bJ l),R.cl g [.loc 0 1 0 0]] (H5 R m) (.bool (l.any p)) (H5 R m) 1:=
 h.aaS.bC 100 1 rfl rfl rfl fun X bb hfit hp=>by
  refine sh ?_
  refine cM false [0] (H6 h.n219 g l p m hc hl) ?_
  repeat (intro _; first|refine eK ?_|refine eP ?_)
  refine sh ?_
  refine rM [0] ?_
  refine be ?_
  exact sf
theorem Xi {R:Env} (h:Ph R) (p:T3):R.Pc 206 [.agg (t3 p)] (.bool (lD p)):=
 h.UX.enter 60 rfl fun X bb hfit hp=>by
  unfold lD
  refine sh ?_
  refine cS (fun h1=> ?_) (fun h1=> ?_)
  ·refine sh ?_
   refine rT ?_
   refine be ?_
   simp; omega
  ·refine sh ?_
   refine rT ?_
   refine be ?_
   rw[Bool.eq_iff_iff]; simp only[Bool.not_eq_true',decide_eq_true_eq,decide_eq_false_iff_not]; omega
theorem QS {R:Env} (h:Pj R) (p:Int × Int):R.Pc 207 [.agg (p2 p)] (.bool (rU p)):=
 h.UZ.enter 60 rfl fun X bb hfit hp=>by
  unfold rU
  refine sh ?_
  refine cS (fun h1=> ?_) (fun h1=> ?_)
  ·refine sh ?_
   refine rT ?_
   refine be ?_
   simp; omega
  ·refine sh ?_
   refine rT ?_
   refine be ?_
   rw[Bool.eq_iff_iff]; simp only[Bool.not_eq_true',decide_eq_true_eq,decide_eq_false_iff_not]; omega
theorem Xj {R:Env} (h:Pk R) (m:Ms) (p:T3):R.Mc 208 [.agg (t3 p),.loc 0 1 0 0] (H5 R m) (.bool (mE m.v.length p)) (H5 R m) 1:=
 h.aa1.bC 60 1 rfl rfl rfl fun X bb hfit hp=>by
  unfold mE
  refine sh ?_
  refine cS (fun h1=> ?_) (fun h1=> ?_)
  ·refine sh ?_
   refine rM [0] ?_
   refine be ?_
   simp; omega
  ·refine sh ?_
   refine cS (fun h2=> ?_) (fun h2=> ?_)
   ·refine sh ?_
    refine rM [0] ?_
    refine be ?_
    simp; omega
   ·refine sh ?_
    refine cS (fun h3=> ?_) (fun h3=> ?_)
    ·refine sh ?_
     refine rM [0] ?_
     refine be ?_
     simp; omega
    ·refine sh ?_
     refine cS (fun h4=> ?_) (fun h4=> ?_)
     ·refine sh ?_
      refine rM [0] ?_
      refine be ?_
      simp; omega
     ·refine sh ?_
      refine rM [0] ?_
      refine be ?_
      rw[Bool.eq_iff_iff]; simp only[Bool.not_eq_true',decide_eq_true_eq,decide_eq_false_iff_not,beq_iff_eq]; omega
theorem zX {R:Env} (h:KJ R) (m:Ms):R.Pc 193 [.agg m.row] (.int .i64 (jI m)):=
 h.Pl.enter 100 rfl fun X bb hfit hp=>by
  unfold jI
  refine sh ?_
  refine cS (fun h1=> ?_) (fun h1=> ?_)
  ·rw[if_pos (.inl (by omega))]
   refine sh ?_
   exact rT
  ·refine sh ?_
   refine cS (fun h2=> ?_) (fun h2=> ?_)
   ·rw[if_pos (.inr (by omega))]
    refine sh ?_
    exact rT
   ·rw[if_neg (by omega)]
    refine sh ?_
    refine cS (fun h3=> ?_) (fun h3=> ?_)
    ·rw[if_pos (.inl (by omega))]
     refine sh ?_
     exact rT
    ·refine sh ?_
     refine cS (fun h4=> ?_) (fun h4=> ?_)
     ·rw[if_pos (.inr (.inl (by omega)))]
      refine sh ?_
      exact rT
     ·refine sh ?_
      refine cS (fun h5=> ?_) (fun h5=> ?_)
      ·rw[if_pos (.inr (.inr (by omega)))]
       refine sh ?_
       exact rT
      ·rw[if_neg (by omega)]
       refine sh ?_
       refine ae.pure h.n209.TE.hb (EW h.n209 206 h.n206.UX.hb m.v lD (fun x _=>Xi h.n206 x) (by omega)) rfl ?_
       refine sh ?_
       refine cS (fun h6=> ?_) (fun h6=> ?_)
       ·rw[if_pos h6]
        refine sh ?_
        exact rT
       ·rw[if_neg (by rw[h6]; decide)]
        refine sh ?_
        refine ae.pure h.n210.TI.hb (EX h.n210 207 h.n207.UZ.hb m.uv rU (fun x _=>QS h.n207 x) (by omega)) rfl ?_
        refine sh ?_
        refine cS (fun h7=> ?_) (fun h7=> ?_)
        ·rw[if_pos (.inl h7)]
         refine sh ?_
         exact rT
        ·refine sh ?_
         refine cM false [0] (EY h.n211 208 m.t (mE m.v.length) m (fun x _=>Xj h.n208 m x) (by omega)) ?_
         repeat (intro _; first|refine eK ?_|refine eP ?_)
         refine sh ?_
         refine cS (fun h8=> ?_) (fun h8=> ?_)
         ·rw[if_pos (.inr h8)]
          refine sh ?_
          exact rT
         ·rw[if_neg (by rw[h7,h8]; decide)]
          refine sh ?_
          exact rT
end Go.UM
namespace Go.UM
open Go.AM
set_option maxRecDepth 4000
theorem H7 {R:Env} (h:N62 R) (l:List UInt8) (hl:l.length<=1073741824):
  R.Mc 62 [.aH 1 (bA l)] [] (.bc 0 l.length) [(0,.arr (R.ty 4) 1 (bA l))] 1:=
 h.o62.bC 60 0 rfl rfl rfl fun X b hfit hp=>by
  refine sh ?_
  refine GL.mk (fun hn=> ?_) ?_
  ·have:l=[]:=by simpa[bA]using hn
   subst this
   refine sh ?_
   exact rM [50]
  ·refine sh ?_
   exact rM [0]
def enc (w:Nat) (x:Int):List UInt8:=(List.range w).map fun i=>u8 (x / 256 ^ i)
def kK (b:List UInt8) (w:Int) (n:List Int):List UInt8 × Int:=
 if w<1\/ 8<w then ([],2)else if n.any (fun x=>decide (256 ^ w.toNat<=x))=true then ([],3)else (b++n.flatMap (enc w.toNat),0)
theorem ry (w:Nat):∀l:List Int,(l.flatMap (enc w)).length=w*l.length
 |[]=>by simp
 |x::r=>by simp[ry w r,enc,Nat.mul_add]; omega
theorem ug {b:List UInt8} {n:List Int} {w:Int} {k:Nat} {i:Nat} {x:Int} (hl:b.length+8*n.length<=1073741824) (hw:w<=8) (qg:1<=w) (hk:(k:Int)<n.length) (hi:(i:Int)<w):(b++(n.take k).flatMap (enc w.toNat)++enc i x).length+1<=1073741824:=by
 have h1:w.toNat* (n.take k).length<=8*k:=Nat.mul_le_mul (by omega) (by simp; omega)
 simp only[List.length_append,ry]
 have:(enc i x).length=i:=by simp[enc]
 omega
theorem uh (i:Nat) (x:Int):enc (i+1) x=enc i x++ [u8 (x / 256 ^ i)]:=by simp[enc,List.range_succ]
@[simp] theorem Xk (x:Int):enc 0 x=[]:=rfl
@[simp] theorem QT (w:Nat) (x:Int):(enc w x).length=w:=by simp[enc]
theorem xX {x:Int} {i:Nat} (hx:0<=x) (hi:i<8):fC .u64 x (8* (i:Int))=x / 256 ^ i:=by
 rw[QJ hx]
 have h:(8* (i:Int)).toNat=8*i:=by omega
 rw[h,show min (8*i) (IntKind.bits .u64)=8*i by simp[IntKind.bits]; omega,Int.pow_mul]
 rfl
theorem CX {x w:Int} (hx:0<=x) (h1:1<=w) (h8:w<8):0<fC .u64 x (8*w)↔256 ^ w.toNat<=x:=by
 obtain⟨i,rfl⟩:∃i:Nat,w=i:=⟨w.toNat,by omega⟩
 rw[xX hx (by omega),Int.toNat_natCast]
 have hp:(0:Int)<256 ^ i:=Int.pow_pos (by decide)
 constructor
 ·intro h
  have:=(Int.le_ediv_iff_mul_le hp).1 (show 1<=x / 256 ^ i from h)
  rwa[Int.one_mul]at this
 ·intro h
  show 1<=x / 256 ^ i
  exact (Int.le_ediv_iff_mul_le hp).2 (by rw[Int.one_mul]; exact h)
theorem fj {n:List Int} {k:Nat} {x:Int} {p:Int->Bool} (h:n[k]? =some x):(n.take (k+1)).any p=((n.take k).any p||p x):=by
 rw[ar h]; simp
theorem zY {b:List UInt8} {w:Int} {n:List Int} {x:Int} (h1:1<=w) (h2:w<=8) (hx:x ∈ n) (h:256 ^ w.toNat<=x):kK b w n=([],3):=by
 unfold kK
 rw[if_neg (by omega),if_pos]
 simp only[List.any_eq_true,decide_eq_true_eq]
 exact⟨x,hx,h⟩
theorem pJ {b:List UInt8} {w:Int} {n:List Int} (h1:1<=w) (h2:w<=8) (h:n.any (fun x=>decide (256 ^ w.toNat<=x))=false):kK b w n=(b++n.flatMap (enc w.toNat),0):=by
 unfold kK
 rw[if_neg (by omega),if_neg (by rw[h]; decide)]
theorem CY {R:Env} (h:Pg R) (b:List UInt8) (w:Int) (n:List Int) (hl:b.length+8*n.length<=1073741824) (hn:∀x ∈ n,0<=x/\x<=18446744073709551615):
  R.Mc 54 [.aH 1 (bA b),.int .i64 w,.aH 1 (bp .u64 n)] [] (.aN [.bc 0 (kK b w n).1.length,.int .i64 (kK b w n).2]) [(0,.arr (R.ty 4) 1 (bA (kK b w n).1))] 1:=
 h.o54.bC 100 0 rfl rfl rfl fun X bb hfit hp=>by
  generalize hq:kK b w n=q
  refine sh ?_
  refine cS (fun h1=> ?_) (fun h1=> ?_)
  ·rw[kK,if_pos (.inl h1)]at hq
   subst hq
   refine sh ?_
   exact rM [50]
  ·refine sh ?_
   refine cS (fun h2=> ?_) (fun h2=> ?_)
   ·rw[kK,if_pos (.inr h2)]at hq
    subst hq
    refine sh ?_
    exact rM [50]
   ·refine sh ?_
    refine cM false [] (H7 h.n62 b (by omega)) ?_
    repeat (intro _; first|refine eK ?_|refine eP ?_)
    refine sh ?_
    refine gD 100 (fun k:Nat=>k<=n.length/\(n.take k).any (fun x=>decide (256 ^ w.toNat<=x))=false) (fun k=>⟨[(1,.int .i64 w),(8,.bc 0 (b++(n.take k).flatMap (enc w.toNat)).length),(20,.aH 1 (bp .u64 n)),(21,.int .i64 n.length),(22,.int .i64 k)],[(0,.arr (R.ty 4) 1 (bA (b++(n.take k).flatMap (enc w.toNat))))],1⟩) (fun k=>n.length - k) (0) ?_ ?_
    ·exact⟨Nat.zero_le _,by simp⟩
    ·intro k hk
     dsimp only
     refine sh ?_
     refine cS (fun h3=> ?_) (fun h3=> ?_)
     ·obtain⟨x,hx⟩:∃u_,n[k]? =some u_:=⟨_,List.getElem?_eq_getElem (by first|omega|(simp<;>omega))⟩
      refine sh ?_
      refine aa hx ?_
      have mX:=hx
      have hx:=hn x (List.mem_of_getElem? mX)
      refine sh ?_
      refine cS (fun h4=> ?_) (fun h4=> ?_)
      ·refine sh ?_
       refine cS (fun h5=> ?_) (fun h5=> ?_)
       ·rw[zY (by omega) (by omega) (List.mem_of_getElem? mX) ((CX hx.1 (by omega) h4).1 h5)]at hq
        subst hq
        refine sh ?_
        exact rM [50]
       ·have hnb:¬256 ^ w.toNat<=x:=fun hb=>absurd ((CX hx.1 (by omega) h4).2 hb) (by omega)
        refine sh ?_
        refine gD 100 (fun i:Nat=>(i:Int)<=w) (fun i=>⟨[(1,.int .i64 w),(8,.bc 0 (b++(n.take k).flatMap (enc w.toNat)++enc i x).length),(10,.int .u64 x),(20,.aH 1 (bp .u64 n)),(21,.int .i64 n.length),(22,.int .i64 k),(35,.int .i64 w),(36,.int .i64 i)],[(0,.arr (R.ty 4) 1 (bA (b++(n.take k).flatMap (enc w.toNat)++enc i x)))],1⟩) (fun i=>w.toNat - i) (0) ?_ ?_
        ·show (0:Int)<=w
         omega
        ·intro i hi
         dsimp only
         refine sh ?_
         refine cS (fun h6=> ?_) (fun h6=> ?_)
         ·refine sh ?_
          rw[xX hx.1 (by omega)]
          refine bz ?_
          refine sh ?_
          refine⟨by rw[fS]; exact ug hl h2 h1 h3 h6,?_⟩
          refine sh ?_
          refine nX (i+1) ?_ ?_ ⟨_,hp,rfl⟩ ?_ ?_
          ·omega
          ·omega
          ·exact iV
          ·refine be ?_
           simp[uh]
         ·refine sh ?_
          refine nX (k+1) ?_ ?_ ⟨_,hp,rfl⟩ ?_ ?_
          ·refine⟨by omega,?_⟩
           rw[fj mX,hk.2,decide_eq_false hnb]; rfl
          ·omega
          ·refine be ?_
           rw[ar mX,show i=w.toNat by omega]; simp
          ·refine be ?_
           rw[ar mX,show i=w.toNat by omega]; simp
      ·have hnb:¬256 ^ w.toNat<=x:=by rw[show w.toNat=8 by omega]; omega
       refine sh ?_
       refine gD 100 (fun i:Nat=>(i:Int)<=w) (fun i=>⟨[(1,.int .i64 w),(8,.bc 0 (b++(n.take k).flatMap (enc w.toNat)++enc i x).length),(10,.int .u64 x),(20,.aH 1 (bp .u64 n)),(21,.int .i64 n.length),(22,.int .i64 k),(35,.int .i64 w),(36,.int .i64 i)],[(0,.arr (R.ty 4) 1 (bA (b++(n.take k).flatMap (enc w.toNat)++enc i x)))],1⟩) (fun i=>w.toNat - i) (0) ?_ ?_
       ·show (0:Int)<=w
        omega
       ·intro i hi
        dsimp only
        refine sh ?_
        refine cS (fun h6=> ?_) (fun h6=> ?_)
        ·refine sh ?_
         rw[xX hx.1 (by omega)]
         refine bz ?_
         refine sh ?_
         refine⟨by rw[fS]; exact ug hl h2 h1 h3 h6,?_⟩
         refine sh ?_
         refine nX (i+1) ?_ ?_ ⟨_,hp,rfl⟩ ?_ ?_
         ·omega
         ·omega
         ·exact iV
         ·refine be ?_
          simp[uh]
        ·refine sh ?_
         refine nX (k+1) ?_ ?_ ⟨_,hp,rfl⟩ ?_ ?_
         ·refine⟨by omega,?_⟩
          rw[fj mX,hk.2,decide_eq_false hnb]; rfl
         ·omega
         ·refine be ?_
          rw[ar mX,show i=w.toNat by omega]; simp
         ·refine be ?_
          rw[ar mX,show i=w.toNat by omega]; simp
     ·have hkn:n.take k=n:=List.take_of_length_le (by omega)
      rw[hkn]at hk ⊢
      rw[pJ (by omega) (by omega) hk.2]at hq
      subst hq
      refine sh ?_
      exact rM [0]
end Go.UM
namespace Go.UM
open Go.AM
set_option maxRecDepth 4000
def ig (b:List UInt8) (w:Int) (n:List Int):List UInt8 × Int:=
 if w<1\/ 8<w then ([],2)else if n.any (fun x=>decide (x< -(256 ^ w.toNat / 2))||decide (256 ^ w.toNat / 2<=x))=true then ([],3)else kK b w (n.map fun x=>x % 256 ^ w.toNat)
theorem qu {b:List UInt8} {w:Int} {n:List Int} {x:Int} (h1:1<=w) (h2:w<=8) (hx:x ∈ n) (h:x< -(256 ^ w.toNat / 2)\/ 256 ^ w.toNat / 2<=x):ig b w n=([],3):=by
 unfold ig
 rw[if_neg (by omega),if_pos]
 simp only[List.any_eq_true,Bool.or_eq_true,decide_eq_true_eq]
 exact⟨x,hx,h⟩
theorem ui {b:List UInt8} {w:Int} {n:List Int} (h1:1<=w) (h2:w<=8) (h:n.any (fun x=>decide (x< -(256 ^ w.toNat / 2))||decide (256 ^ w.toNat / 2<=x))=false):ig b w n=kK b w (n.map fun x=>x % 256 ^ w.toNat):=by
 unfold ig
 rw[if_neg (by omega),if_neg (by rw[h]; decide)]
theorem LB {w x:Int} (h1:1<=w) (h2:w<=8) (hx:bf .i64 x):(fC .i64 (pY .i64 x (64 - 8*w)) (64 - 8*w)=x)↔¬ (x< -(256 ^ w.toNat / 2)\/ 256 ^ w.toNat / 2<=x):=by
 simp only[bf]at hx
 obtain h|h|h|h|h|h|h|h:w=1\/ w=2\/ w=3\/ w=4\/ w=5\/ w=6\/ w=7\/ w=8:=by omega
 all_goals subst h
 all_goals (simp only[fC,pY,IntKind.wrap,IntKind.bits,IntKind.signed]; simp[Int.fdiv_eq_ediv]; omega)
theorem LC {w x:Int} (h1:1<=w) (h2:w<=8) (hx:bf .i64 x):fC .u64 (pY .u64 (wr .u64 x) (64 - 8*w)) (64 - 8*w)=x % 256 ^ w.toNat:=by
 simp only[bf]at hx
 obtain h|h|h|h|h|h|h|h:w=1\/ w=2\/ w=3\/ w=4\/ w=5\/ w=6\/ w=7\/ w=8:=by omega
 all_goals subst h
 all_goals (simp only[wr,fC,pY,IntKind.wrap,IntKind.bits,IntKind.signed]; simp[Int.fdiv_eq_ediv]<;>omega)
theorem zZ {b:List UInt8} {w:Int} {n:List Int} (h1:1<=w) (h2:w<=8):∀x ∈ n.map (fun x=>x % 256 ^ w.toNat),0<=x/\x<=18446744073709551615:=by
 intro x hx
 obtain⟨y,_,rfl⟩:=List.mem_map.1 hx
 obtain h|h|h|h|h|h|h|h:w=1\/ w=2\/ w=3\/ w=4\/ w=5\/ w=6\/ w=7\/ w=8:=by omega
 all_goals (subst h; simp<;>omega)
theorem z6 {R:Env} (h:UV R) (b:List UInt8) (w:Int) (n:List Int) (hl:b.length+8*n.length<=1073741824) (hn:∀x ∈ n,bf .i64 x):
  R.Mc 71 [.aH 1 (bA b),.int .i64 w,.aH 1 (bp .i64 n)] [] (.aN [.bc 0 (ig b w n).1.length,.int .i64 (ig b w n).2]) [(0,.arr (R.ty 4) 1 (bA (ig b w n).1))] 1:=
 h.o71.bC 100 0 rfl rfl rfl fun X bb hfit hp=>by
  generalize hq:ig b w n=q
  refine sh ?_
  refine cS (fun h1=> ?_) (fun h1=> ?_)
  ·rw[ig,if_pos (.inl h1)]at hq
   subst hq
   refine sh ?_
   exact rM [50]
  ·refine sh ?_
   refine cS (fun h2=> ?_) (fun h2=> ?_)
   ·rw[ig,if_pos (.inr h2)]at hq
    subst hq
    refine sh ?_
    exact rM [50]
   ·refine sh ?_
    refine gD 100 (fun k:Nat=>k<=n.length/\(n.take k).any (fun x=>decide (x< -(256 ^ w.toNat / 2))||decide (256 ^ w.toNat / 2<=x))=false) (fun k=>⟨[(0,.aH 1 (bA b)),(1,.int .i64 w),(8,.bc 0 ((n.take k).map fun x=>x % 256 ^ w.toNat).length),(18,.aH 1 (bp .i64 n)),(19,.int .i64 n.length),(20,.int .i64 k)],[(0,.arr (R.ty 6) 1 (bp .u64 ((n.take k).map fun x=>x % 256 ^ w.toNat)))],1⟩) (fun k=>n.length - k) (0) ?_ ?_
    ·exact⟨Nat.zero_le _,by simp⟩
    ·intro k hk
     dsimp only
     refine sh ?_
     refine cS (fun h3=> ?_) (fun h3=> ?_)
     ·obtain⟨x,hx⟩:∃u_,n[k]? =some u_:=⟨_,List.getElem?_eq_getElem (by first|omega|(simp<;>omega))⟩
      refine sh ?_
      refine aa hx ?_
      have mX:=hx
      have hx:=hn x (List.mem_of_getElem? mX)
      have hsx:=LB (by omega) h2 hx
      refine sh ?_
      refine cS (fun h4=> ?_) (fun h4=> ?_)
      ·rw[qu (by omega) (by omega) (List.mem_of_getElem? mX) (Decidable.not_not.1 fun hb=>h4 (hsx.2 hb))]at hq
       subst hq
       refine sh ?_
       exact rM [50]
      ·refine sh ?_
       refine bz ?_
       refine sh ?_
       rw[LC (by omega) h2 hx]
       refine nX (k+1) ?_ ?_ ⟨_,hp,rfl⟩ ?_ ?_
       ·refine⟨by omega,?_⟩
        rw[fj mX,hk.2]
        have:=hsx.1 h4
        simp only[Bool.false_or,Bool.or_eq_false_iff,decide_eq_false_iff_not]
        omega
       ·omega
       ·refine be ?_
        rw[ar mX]; simp
       ·refine be ?_
        rw[ar mX]; simp[bp]
     ·have hkn:n.take k=n:=List.take_of_length_le (by omega)
      rw[hkn]at hk ⊢
      rw[ui (by omega) (by omega) hk.2]at hq
      subst hq
      refine sh ?_
      refine cM true [] (CY h.Jt b w (n.map fun x=>x % 256 ^ w.toNat) (by simpa using hl) (zZ (b:=b) (by omega) h2)) ?_
      repeat (intro _; first|refine eK ?_|refine eP ?_)
      refine sh ?_
      exact rM [1]
structure Rd where
 l:List UInt8
 e:Int
 made:Bool
def Rd.row (r:Rd):List AV:=[.aH 1 (bA r.l),.int .i64 r.e,.bool r.made]
def Rd.off (r:Rd):Bool:= !r.made||decide (r.e≠0)
def Rd.take (r:Rd) (n:Int):List UInt8 × Rd:=
 if r.made=false\/ r.e≠0 then ([],r)else if n<0 then ([],{r with e:=2})else if (r.l.length:Int)<n then ([],{r with e:=4})else (r.l.take n.toNat,{r with l:=r.l.drop n.toNat})
def Rd.num (r:Rd) (w:Int):Nat × Rd:=let t:=r.take (if w<1\/ 8<w then -1 else w); (le t.1,t.2)
def sx (w:Int) (n:Nat):Int:=if 2*n<256 ^ w.toNat then n else n - 256 ^ w.toNat
def Rd.int (r:Rd) (w:Int):Int × Rd:=(if w<1\/ 8<w then 0 else sx w (r.num w).1,(r.num w).2)
def Rd.err (r:Rd):Int:=if r.made=false then 1 else r.e
def Rd.fin (r:Rd):Int:=if r.err≠0 then r.err else if 0<r.l.length then 5 else 0
end Go.UM
