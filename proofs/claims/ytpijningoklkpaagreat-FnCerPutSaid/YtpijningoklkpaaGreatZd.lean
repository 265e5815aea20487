/- Part 4 of a proof: what the last part needs. No condition. -/
import Derived.Test.YtpijningoklkpaaGreatZc
import Derived.Test.YtpijningoklkpaaGreatProg
import Derived.KernelRfl
set_option linter.all false
set_option linter.unusedSectionVars false
set_option linter.unusedVariables false
set_option linter.unusedSimpArgs false
namespace Go.TX.F
open Go Go.AE Go.TX
set_option maxRecDepth 100000
@[reducible] def bQ : Sig := ⟨[.i, .i, .i], [], [.b], []⟩
@[reducible] def kM : Sig := ⟨[.i], [], [.b], []⟩
@[reducible] def GQ : Sig := ⟨[.i], [], [.b], []⟩
@[reducible] def vS : Sig := ⟨[.r false .iop, .i, .i], [], [.b], []⟩
@[reducible] def GU : Sig := ⟨[.r false .iop, .i, .i], [], [.b], []⟩
@[reducible] def GV : Sig := ⟨[.sv false .blk], [], [.b], []⟩
@[reducible] def fE : Sig := ⟨[.sv false .blk], [], [.b], []⟩
@[reducible] def GX : Sig := ⟨[.sv false .blk, .sv false .blk], [], [.b], []⟩
@[reducible] def kN : Sig := ⟨[.i], [], [.agg [.own 0]], [.rows true .mono]⟩
@[reducible] def vT : Sig := ⟨[], [], [.agg [.own 0], .o 1], [.rows true .atom, .rows true .poly]⟩
@[reducible] def nY : Sig := ⟨[.r false .i64, .r false .i64], [], [.i], []⟩
@[reducible] def GY : Sig := ⟨[.sv false .mono], [], [.b], []⟩
@[reducible] def iq : Sig := ⟨[.sv false .poly], [], [.b], []⟩
@[reducible] def GZ : Sig := ⟨[.sv false .atom], [], [.b], []⟩
@[reducible] def G5 : Sig := ⟨[.sv false .poly, .i], [], [.b], []⟩
@[reducible] def vU : Sig := ⟨[.sv false .atom, .i], [], [.b], []⟩
@[reducible] def gB : Sig := ⟨[.sv false .poly, .sv false .poly], [], [.i], []⟩
@[reducible] def vV : Sig := ⟨[.sv false .atom, .sv false .atom], [], [.b], []⟩
@[reducible] def G6 : Sig := ⟨[.sv false .tab], [], [.b], []⟩
@[reducible] def dQ : Sig := ⟨[.r false .mono], [], [.agg [.own 0]], [.rows true .mono]⟩
@[reducible] def vW : Sig := ⟨[.sv false .atom], [], [.agg [.i, .i, .own 0, .own 1]], [.rows true .mono, .rows true .mono]⟩
@[reducible] def G7 : Sig := ⟨[.sv false .tab], [], [.agg [.own 0]], [.rows true .atom]⟩
@[reducible] def nZ : Sig := ⟨[.agg [.own 0], .sv false .atom], [.rows true .atom], [.agg [.own 1], .i], [.gone, .rows true .atom]⟩
@[reducible] def G8 : Sig := ⟨[.o 0, .i], [.rows false .poly], [.sv false .poly], [.rows false .poly]⟩
@[reducible] def vX : Sig := ⟨[.i], [], [.agg [.own 0]], [.rows true .mono]⟩
@[reducible] def kP : Sig := ⟨[.i], [], [.i], []⟩
@[reducible] def vY : Sig := ⟨[.r false .mono, .sv false .mono], [], [.o 0], [.rows false .mono]⟩
@[reducible] def vZ : Sig := ⟨[.r false .mono], [], [.agg [.own 0], .b], [.rows true .mono]⟩
@[reducible] def G9 : Sig := ⟨[.sv false .poly, .sv false .poly], [], [.agg [.own 0], .b], [.rows true .mono]⟩
@[reducible] def Hg : Sig := ⟨[.sv false .poly, .i], [], [.agg [.own 0]], [.rows true .mono]⟩
@[reducible] def Hl : Sig := ⟨[.r false .i64, .r false .i64], [], [.o 0], [.rows true .i64]⟩
@[reducible] def Ho : Sig := ⟨[.sv false .poly, .sv false .poly], [], [.agg [.own 0], .b], [.rows true .mono]⟩
@[reducible] def Hq : Sig := ⟨[.i, .sv false .poly, .sv false .poly], [], [.agg [.own 0], .b], [.rows true .mono]⟩
@[reducible] def og : Sig := ⟨[.sv false .poly], [], [.i, .b], []⟩
@[reducible] def wm : Sig := ⟨[.i, .i, .i], [], [.i], []⟩
@[reducible] def Hr : Sig := ⟨[.i, .i, .sv false .poly], [], [.agg [.own 0], .b], [.rows true .mono]⟩
@[reducible] def Ht : Sig := ⟨[.i, .sv false .poly, .sv false .poly], [], [.agg [.own 0], .b], [.rows true .mono]⟩
@[reducible] def Hu : Sig := ⟨[.agg [.own 0], .i, .sv false .poly, .sv false .poly], [.rows true .atom], [.agg [.own 1], .agg [.own 2]], [.gone, .rows true .atom, .rows true .mono]⟩
@[reducible] def Hw : Sig := ⟨[.r false .ev, .i], [], [.i], []⟩
@[reducible] def Hy : Sig := ⟨[.agg [.own 0], .r false .ev, .i], [.rows true .atom], [.agg [.own 1], .agg [.own 2]], [.gone, .rows true .atom, .rows true .mono]⟩
@[reducible] def oh : Sig := ⟨[.r false .poly], [], [.o 0], [.rows true .poly]⟩
@[reducible] def Hz : Sig := ⟨[.sv false .iop, .sv false .poly, .sv false .poly, .r false .poly], [], [.agg [.i, .i, .own 0, .own 1, .own 2]], [.rows true .mono, .rows true .mono, .rows true .poly]⟩
@[reducible] def HV : Sig := ⟨[.sv false .blk], [], [.i], []⟩
@[reducible] def HZ : Sig := ⟨[.sv false .blk], [], [.i], []⟩
@[reducible] def wo : Sig := ⟨[.sv false .sym, .i], [], [.agg [.rows false .ev, .rows false .poly, .i, .nil, .nil, .i]], []⟩
@[reducible] def H6 : Sig := ⟨[.sv false .sym, .i], [], [.sv false .sym], []⟩
@[reducible] def H7 : Sig := ⟨[.sv false .sym, .i], [], [.sv false .sym], []⟩
@[reducible] def H8 : Sig := ⟨[.sv false .tab, .sv false .blk], [], [.sv false .tab, .sv false .sym], []⟩
@[reducible] def wu : Sig := ⟨[.r false .poly, .r false .poly], [], [.b], []⟩
@[reducible] def H9 : Sig := ⟨[.sv false .ev, .sv false .ev], [], [.b], []⟩
@[reducible] def Ia : Sig := ⟨[.sv false .sym, .sv false .sym], [], [.b], []⟩
@[reducible] def Ib : Sig := ⟨[.sv false .blk, .sv false .blk], [], [.b], []⟩
@[reducible] def cB : Sig := ⟨[.i, .i, .i], [], [.b], []⟩
@[reducible] def Ee : Sig := ⟨[.sv false .iop], [], [.b, .b, .b, .b], []⟩
@[reducible] def lZ : Sig := ⟨[.i], [], [.b], []⟩
@[reducible] def Ef : Sig := ⟨[.i], [], [.b], []⟩
@[reducible] def Eh : Sig := ⟨[.i], [], [.b], []⟩
@[reducible] def QM : Sig := ⟨[.sv false .iop], [], [.b], []⟩
@[reducible] def Ei : Sig := ⟨[.sv false .blk, .i, .i], [], [.b], []⟩
@[reducible] def QN : Sig := ⟨[.sv false .blk, .i], [], [.b], []⟩
@[reducible] def Ej : Sig := ⟨[.sv false .blk], [], [.b, .b, .b], []⟩
@[reducible] def QO : Sig := ⟨[.sv false .blk], [], [.b], []⟩
@[reducible] def El : Sig := ⟨[.sv false .blk], [], [.b], []⟩
@[reducible] def QS : Sig := ⟨[.r false .iop, .r false .iop], [], [.b], []⟩
@[reducible] def Em : Sig := ⟨[.sv false .blk, .sv false .blk], [], [.b], []⟩
@[reducible] def QT : Sig := ⟨[.i, .p 0 1], [.box (.i)], [.b], [.box (.i)]⟩
@[reducible] def Ic : Sig := ⟨[.r false .i64, .c (.fn 176 [(0, 1)])], [.box (.i)], [.i], [.box (.i)]⟩
@[reducible] def QU : Sig := ⟨[.r false .i64, .c (.fn 176 [(0, 1)])], [.box (.i)], [.b], [.box (.i)]⟩
@[reducible] def En : Sig := ⟨[.sv false .poly, .i], [], [.b], []⟩
@[reducible] def QV : Sig := ⟨[.i], [], [.b], []⟩
@[reducible] def Ie : Sig := ⟨[.i, .i], [], [.i], []⟩
@[reducible] def QW : Sig := ⟨[.r false .i64], [], [.i], []⟩
@[reducible] def QX : Sig := ⟨[.r false .i64, .r false .i64], [], [.i], []⟩
@[reducible] def o8 : Sig := ⟨[.r false .i64, .r false .i64], [], [.i], []⟩
@[reducible] def Ig : Sig := ⟨[.i, .i], [], [.b], []⟩
@[reducible] def Ih : Sig := ⟨[.r false .i64], [], [.b], []⟩
@[reducible] def QY : Sig := ⟨[.sv false .mono], [], [.b], []⟩
@[reducible] def Ii : Sig := ⟨[.r false .mono, .c (.fn 161 [])], [], [.i], []⟩
@[reducible] def QZ : Sig := ⟨[.r false .mono, .c (.fn 161 [])], [], [.b], []⟩
@[reducible] def iZ : Sig := ⟨[.sv false .poly], [], [.b], []⟩
@[reducible] def Eo : Sig := ⟨[.sv false .atom, .i], [], [.b], []⟩
@[reducible] def wz : Sig := ⟨[.sv false .poly, .sv false .poly], [], [.i], []⟩
@[reducible] def kg : Sig := ⟨[.sv false .poly, .sv false .poly], [], [.b], []⟩
@[reducible] def Q0 : Sig := ⟨[.sv false .atom, .sv false .atom], [], [.b], []⟩
@[reducible] def Q5 : Sig := ⟨[.sv false .atom, .p 0 4], [.s false .atom], [.b], [.s false .atom]⟩
@[reducible] def Ij : Sig := ⟨[.r false .atom, .c (.fn 149 [(0, 4)])], [.s false .atom], [.i], [.s false .atom]⟩
@[reducible] def Ep : Sig := ⟨[.sv false .tab, .sv false .atom], [], [.i], []⟩
@[reducible] def Q6 : Sig := ⟨[.r true .atom], [], [.c (.clip true .atom)], []⟩
@[reducible] def Er : Sig := ⟨[.sv true .tab, .sv true .atom], [], [.sv true .tab, .i], []⟩
@[reducible] def Es : Sig := ⟨[.i], [], [.agg [.own 0]], [.rows true .mono]⟩
@[reducible] def Eu : Sig := ⟨[.p 0 2, .i, .i], [.g [.rows true .atom, .bool]], [.sv true .poly], [.g [.rows true .atom, .bool]]⟩
@[reducible] def Ew : Sig := ⟨[.p 0 2], [.g [.rows true .atom, .bool]], [.o 1], [.g [.rows true .atom, .bool], .rows true .poly]⟩
@[reducible] def Ey : Sig := ⟨[.r false .i64], [], [.o 0], [.rows true .i64]⟩
@[reducible] def wB : Sig := ⟨[.sv false .poly], [], [.agg [.own 0]], [.rows true .mono]⟩
@[reducible] def Ez : Sig := ⟨[.sv false .tab], [], [.agg [.own 0]], [.rows true .atom]⟩
@[reducible] def Q7 : Sig := ⟨[], [], [.sv true .tab, .r true .poly], []⟩
@[reducible] def Q8 : Sig := ⟨[.sv false .tab], [], [.b], []⟩
@[reducible] def Q9 : Sig := ⟨[.sv false .iop], [], [.b], []⟩
@[reducible] def Ra : Sig := ⟨[.o 0], [.rows true .poly], [.o 1], [.rows true .poly, .rows true .poly]⟩
@[reducible] def wC : Sig := ⟨[.i], [], [.agg [.own 0]], [.rows true .mono]⟩
@[reducible] def EA : Sig := ⟨[.sv false .poly], [], [.i, .b], []⟩
@[reducible] def wD : Sig := ⟨[.i], [], [.i], []⟩
@[reducible] def EB : Sig := ⟨[.sv false .mono, .sv false .mono], [], [.i], []⟩
@[reducible] def Ik : Sig := ⟨[.o 0, .i, .i, .c (.fn 200 [])], [.rows false .mono], [], [.rows false .mono]⟩
@[reducible] def Il : Sig := ⟨[.o 0, .i, .i, .i, .c (.fn 200 [])], [.rows false .mono], [], [.rows false .mono]⟩
@[reducible] def Im : Sig := ⟨[.o 0, .i, .i, .i, .c (.fn 200 [])], [.rows false .mono], [], [.rows false .mono]⟩
@[reducible] def om : Sig := ⟨[.o 0, .i, .i, .i, .c (.fn 200 [])], [.rows false .mono], [], [.rows false .mono]⟩
@[reducible] def Io : Sig := ⟨[.o 0, .i, .c (.fn 200 [])], [.rows false .mono], [], [.rows false .mono]⟩
@[reducible] def Ip : Sig := ⟨[.o 0, .c (.fn 200 [])], [.rows false .mono], [], [.rows false .mono]⟩
@[reducible] def EC : Sig := ⟨[.o 0], [.rows false .mono], [.agg [.own 1], .b], [.rows false .mono, .rows true .mono]⟩
@[reducible] def Rb : Sig := ⟨[.c (.nil), .i], [], [.o 0], [.rows true .mono]⟩
@[reducible] def Rc : Sig := ⟨[.r false .poly], [], [.o 0], [.rows false .mono]⟩
@[reducible] def Rf : Sig := ⟨[.sv false .poly, .sv false .poly], [], [.agg [.own 0], .b], [.rows true .mono]⟩
@[reducible] def Iq : Sig := ⟨[.c (.nil), .i], [], [.o 0], [.rows true .i64]⟩
@[reducible] def Rh : Sig := ⟨[.r false .ints], [], [.o 0], [.rows true .i64]⟩
@[reducible] def Ir : Sig := ⟨[.o 0, .i, .i], [.rows true .i64], [], [.rows true .i64]⟩
@[reducible] def Iu : Sig := ⟨[.o 0, .i, .i], [.rows true .i64], [], [.rows true .i64]⟩
@[reducible] def Iw : Sig := ⟨[.o 0, .i, .i], [.rows true .i64], [], [.rows true .i64]⟩
@[reducible] def Iy : Sig := ⟨[.o 0, .i, .i], [.rows true .i64], [.i, .i], [.rows true .i64]⟩
@[reducible] def Iz : Sig := ⟨[.o 0, .i, .i], [.rows true .i64], [], [.rows true .i64]⟩
@[reducible] def IB : Sig := ⟨[.o 0, .i, .i], [.rows true .i64], [.b], [.rows true .i64]⟩
@[reducible] def IC : Sig := ⟨[.o 0, .i, .i, .i], [.rows true .i64], [.i], [.rows true .i64]⟩
@[reducible] def IE : Sig := ⟨[.o 0, .i, .i, .i], [.rows true .i64], [.i, .b], [.rows true .i64]⟩
@[reducible] def qg : Sig := ⟨[.o 0, .i, .i, .i], [.rows true .i64], [], [.rows true .i64]⟩
@[reducible] def ZK : Sig := ⟨[.c (.int .u64)], [], [.i], []⟩
@[reducible] def IG : Sig := ⟨[.o 0], [.rows true .i64], [], [.rows true .i64]⟩
@[reducible] def ED : Sig := ⟨[.sv false .poly, .sv false .poly], [], [.agg [.own 0], .b], [.rows true .mono]⟩
@[reducible] def Ri : Sig := ⟨[.sv false .poly, .i], [], [.agg [.own 0]], [.rows true .mono]⟩
@[reducible] def Rj : Sig := ⟨[.i, .i, .i], [], [.i], []⟩
@[reducible] def Rk : Sig := ⟨[.i, .sv true .poly, .sv true .poly], [], [.sv true .poly, .b], []⟩
@[reducible] def Rl : Sig := ⟨[.sv true .tab, .i, .sv true .poly, .sv true .poly], [], [.sv true .tab, .sv true .poly, .b], []⟩
@[reducible] def Rm : Sig := ⟨[.r false .poly], [], [.o 0], [.rows true .poly]⟩
@[reducible] def Rn : Sig := ⟨[.sv false .sym], [], [.agg [.own 0, .own 1, .i, .own 2, .own 3, .i]], [.rows true .ev, .rows true .poly, .rows true .mono, .rows true .mono]⟩
@[reducible] def Ro : Sig := ⟨[.i, .i, .i], [], [.b], []⟩
@[reducible] def Rp : Sig := ⟨[.sv false .sym, .i], [], [.sv true .sym], []⟩
@[reducible] def Rq : Sig := ⟨[.sv true .tab, .sv false .blk], [], [.sv true .tab, .sv true .sym], []⟩
@[reducible] def Rs : Sig := ⟨[.sv false .poly, .sv false .poly], [], [.b], []⟩
@[reducible] def Rt : Sig := ⟨[.r false .poly, .r false .poly, .c (.fn 128 [])], [], [.b], []⟩
@[reducible] def EF : Sig := ⟨[.r false .poly, .r false .poly], [], [.b], []⟩
@[reducible] def Rv : Sig := ⟨[.sv false .ev, .sv false .ev], [], [.b], []⟩
@[reducible] def Rw : Sig := ⟨[.r false .ev, .r false .ev, .c (.fn 84 [])], [], [.b], []⟩
@[reducible] def Rx : Sig := ⟨[.sv false .sym, .sv false .sym], [], [.b], []⟩
@[reducible] def EG : Sig := ⟨[.sv false .blk, .sv false .blk], [], [.b], []⟩
@[reducible] def II : Sig := ⟨[.r false .cer], [], [.b], []⟩
@[reducible] def acw : Sig := ⟨[.sv false .cer], [], [.b], []⟩
@[reducible] def acy : Sig := ⟨[.sv false .cer, .p 0 7, .p 1 7], [.s false .blk, .s false .blk], [.b], [.s false .blk, .s false .blk]⟩
@[reducible] def IJ : Sig := ⟨[.r false .cer, .c (.fn 46 [(0, 7), (1, 7)])], [.s false .blk, .s false .blk], [.i], [.s false .blk, .s false .blk]⟩
@[reducible] def IK : Sig := ⟨[.r false .cer, .c (.fn 37 [])], [], [.i], []⟩
@[reducible] def Ry : Sig := ⟨[.r false .cer, .c (.fn 46 [(0, 7), (1, 7)])], [.s false .blk, .s false .blk], [.b], [.s false .blk, .s false .blk]⟩
@[reducible] def Rz : Sig := ⟨[.r false .cer, .c (.fn 37 [])], [], [.b], []⟩
@[reducible] def acz : Sig := ⟨[.r false .cer], [], [.b], []⟩
@[reducible] def IL : Sig := ⟨[.r true .u8], [], [.p 0 2], [.g [.rows true .u8, .i]]⟩
@[reducible] def dx : Sig := ⟨[.p 0 2, .i], [.g [.rows true .u8, .i]], [.i], [.g [.rows true .u8, .i]]⟩
@[reducible] def jc : Sig := ⟨[.sv false .blk], [], [.agg [.i, .i, .own 0, .i, .i, .i, .i]], [.rows true .iop]⟩
@[reducible] def wE : Sig := ⟨[.sv false .iop, .r false .i64], [], [.sv true .iop], []⟩
@[reducible] def oq : Sig := ⟨[.sv false .blk], [], [.agg [.i, .i, .own 0, .i, .i, .i, .i]], [.rows true .iop]⟩
@[reducible] def wF : Sig := ⟨[.sv false .blk, .r false .bool], [], [.agg [.i, .i, .own 0, .i, .i, .i, .i]], [.rows true .iop]⟩
@[reducible] def IQ : Sig := ⟨[.sv false .blk], [], [.o 0], [.rows true .bool]⟩
@[reducible] def IU : Sig := ⟨[.sv false .blk], [], [.agg [.i, .i, .own 0, .i, .i, .i, .i]], [.rows true .iop]⟩
@[reducible] def IV : Sig := ⟨[.r false .iop, .i], [], [.b], []⟩
@[reducible] def IW : Sig := ⟨[.sv false .blk], [], [.agg [.i, .i, .own 0, .i, .i, .i, .i]], [.rows true .iop]⟩
@[reducible] def wG : Sig := ⟨[.r false .iop, .i], [], [.i, .b], []⟩
@[reducible] def IX : Sig := ⟨[.sv false .blk, .i], [], [.agg [.i, .i, .rows false .iop, .i, .i, .i, .i]], []⟩
@[reducible] def IY : Sig := ⟨[.sv false .blk], [], [.sv false .blk], []⟩
@[reducible] def IZ : Sig := ⟨[.sv false .blk], [], [.sv false .blk], []⟩
@[reducible] def ou : Sig := ⟨[.sv false .blk], [], [.agg [.i, .i, .own 0, .i, .i, .i, .i]], [.rows true .iop]⟩
@[reducible] def I4 : Sig := ⟨[.p 0 2], [.g [.rows true .u8, .i]], [.agg [.i, .i, .i, .i]], [.g [.rows true .u8, .i]]⟩
@[reducible] def I5 : Sig := ⟨[.sv false .ins], [], [.b], []⟩
@[reducible] def wH : Sig := ⟨[.sv false .ins], [], [.b], []⟩
@[reducible] def wI : Sig := ⟨[.i], [], [.b], []⟩
@[reducible] def wJ : Sig := ⟨[.sv false .ins], [], [.b], []⟩
@[reducible] def I6 : Sig := ⟨[.p 0 2], [.g [.rows true .u8, .i]], [.agg [.i, .i, .i, .i]], [.g [.rows true .u8, .i]]⟩
@[reducible] def I7 : Sig := ⟨[.p 0 2], [.g [.rows true .u8, .i]], [.o 1], [.g [.rows true .u8, .i], .rows true .ins]⟩
@[reducible] def I8 : Sig := ⟨[.i, .r false .ins], [], [.b], []⟩
@[reducible] def jd : Sig := ⟨[.agg [.i, .i, .own 0, .i, .i, .i, .i], .sv false .iop], [.rows true .iop], [.agg [.i, .i, .own 1, .i, .i, .i, .i], .i], [.gone, .rows true .iop]⟩
@[reducible] def wK : Sig := ⟨[.agg [.i, .i, .own 0, .i, .i, .i, .i], .i, .i], [.rows true .iop], [.agg [.i, .i, .own 1, .i, .i, .i, .i]], [.gone, .rows true .iop]⟩
@[reducible] def kQ : Sig := ⟨[.agg [.i, .i, .own 0, .i, .i, .i, .i], .i], [.rows true .iop], [.agg [.i, .i, .own 1, .i, .i, .i, .i], .i], [.gone, .rows true .iop]⟩
@[reducible] def wL : Sig := ⟨[.agg [.i, .i, .own 0, .i, .i, .i, .i], .i, .i, .sv false .iop], [.rows true .iop], [.agg [.i, .i, .own 1, .i, .i, .i, .i], .i], [.gone, .rows true .iop]⟩
@[reducible] def I9 : Sig := ⟨[.i], [], [.i], []⟩
@[reducible] def Ja : Sig := ⟨[.agg [.i, .i, .own 0, .i, .i, .i, .i], .sv false .ins, .i], [.rows true .iop], [.agg [.i, .i, .own 1, .i, .i, .i, .i]], [.gone, .rows true .iop]⟩
@[reducible] def Jb : Sig := ⟨[.agg [.i, .i, .own 0, .i, .i, .i, .i], .sv false .ins], [.rows true .iop], [.agg [.i, .i, .own 1, .i, .i, .i, .i]], [.gone, .rows true .iop]⟩
@[reducible] def Jc : Sig := ⟨[.agg [.i, .i, .own 0, .i, .i, .i, .i], .sv false .ins, .i], [.rows true .iop], [.agg [.i, .i, .own 1, .i, .i, .i, .i]], [.gone, .rows true .iop]⟩
@[reducible] def Jd : Sig := ⟨[.i, .r false .ins], [], [.agg [.i, .i, .own 0, .i, .i, .i, .i]], [.rows true .iop]⟩
@[reducible] def wM : Sig := ⟨[.p 0 2], [.g [.rows true .u8, .i]], [.agg [.i, .i, .own 1, .i, .i, .i, .i]], [.g [.rows true .u8, .i], .rows true .iop]⟩
@[reducible] def wN : Sig := ⟨[.p 0 2, .i], [.g [.rows true .u8, .i]], [.b], [.g [.rows true .u8, .i]]⟩
@[reducible] def ow : Sig := ⟨[.p 0 2, .sv false .blk], [.g [.rows true .u8, .i]], [.agg [.i, .i, .own 1, .i, .i, .i, .i]], [.g [.rows true .u8, .i], .rows true .iop]⟩
@[reducible] def Je : Sig := ⟨[.p 0 2, .i], [.g [.rows true .u8, .i]], [.r false .cer], [.g [.rows true .u8, .i]]⟩
@[reducible] def Jf : Sig := ⟨[.p 0 2, .i], [.g [.rows true .u8, .i]], [.sv true .blk], [.g [.rows true .u8, .i]]⟩
@[reducible] def Jg : Sig := ⟨[.p 0 2, .sv false .blk], [.g [.rows true .u8, .i]], [.agg [.i, .i, .own 1, .i, .i, .i, .i]], [.g [.rows true .u8, .i], .rows true .iop]⟩
@[reducible] def Jh : Sig := ⟨[.p 0 2, .i], [.g [.rows true .u8, .i]], [.sv true .blk, .sv true .blk], [.g [.rows true .u8, .i]]⟩
@[reducible] def Ji : Sig := ⟨[.r true .u8], [], [.r false .cer, .agg [.i, .i, .rows true .iop, .i, .i, .i, .i, .i, .i, .rows true .iop, .i, .i, .i, .i]], []⟩
@[reducible] def RA : Sig := ⟨[.sv false .blk], [], [.agg [.i, .i, .own 0, .i, .i, .i, .i]], [.rows true .iop]⟩
@[reducible] def acA : Sig := ⟨[.sv false .cer], [], [.agg [.i, .i, .own 0, .i, .i, .i, .i, .i, .i, .own 1, .i, .i, .i, .i]], [.rows true .iop, .rows true .iop]⟩
@[reducible] def RD : Sig := ⟨[.r false .cer], [], [.o 0], [.rows true .cer]⟩
@[reducible] def RF : Sig := ⟨[.r false .cer, .i], [], [.r false .cer], []⟩
@[reducible] def acB : Sig := ⟨[.r false .cer, .sv false .cer], [], [.o 0], [.rows true .cer]⟩
@[reducible] def RG : Sig := ⟨[.sv false .blk, .sv false .blk], [], [.b], []⟩
@[reducible] def RH : Sig := ⟨[.r false .cer, .r false .cer], [], [.b], []⟩
@[reducible] def Jj : Sig := ⟨[.sv false .cer], [], [.agg [.i, .i, .own 0, .i, .i, .i, .i, .i, .i, .own 1, .i, .i, .i, .i]], [.rows true .iop, .rows true .iop]⟩
@[reducible] def Jk : Sig := ⟨[.r false .cer, .sv false .cer], [], [.r false .cer], []⟩
@[reducible] def acC : Sig := ⟨[.r false .cer, .sv false .blk, .sv false .blk], [], [.b], []⟩
@[reducible] def aiv : Sig := ⟨[.r true .u8], [], [.b], []⟩
variable {A:Alg} (B:Al A)
def UJ (x:Tup A.ah [.i,.i,.i]):Ot A bQ:=
 B.b B.F fun x0=>
 B.v (B.a (B.h x.1 x.2.1) (B.m x.1 x.2.2.1) B.F)
def UK (x:Tup A.ah [.i]):Ot A kM:=
 B.b B.F fun x0=>
 B.v (B.a (B.h x.1 B.z) (B.l x.1 (B.n 65536)) B.F)
def UL (bW:Pt A bQ) (bX:Ft A bQ) (x:Tup A.ah [.i]):Ot A GQ:=
 B.b B.F fun x0=>
 B.j bW bX (x.1,B.u,B.n 4,()) fun x1=>
 B.v (B.a x1.1 B.T (B.e x.1 (B.n 6)))
def UM (akg:Pt A GQ) (akh:Ft A GQ) (x:Tup A.ah [.l .iop,.i,.i]):Ot A vS:=
 B.b B.F fun x0=>
 B.C (B.O (B.N (B.a (B.h x.2.1 B.z) (B.l x.2.1 x.2.2.1) B.F)) (B.m B.z x.2.1))<|
 B.C (B.O (B.N (B.a (B.h x.2.1 B.z) (B.l x.2.1 x.2.2.1) B.F)) (B.l x.2.1 (B.y .iop x.1)))<|
 B.k (B.a (B.h x.2.1 B.z) (B.l x.2.1 x.2.2.1) B.F) akg akh (B.f .iop 0 (B.o .iop x.1 x.2.1),()) fun x1=>
 B.v (B.a (B.a (B.h x.2.1 B.z) (B.l x.2.1 x.2.2.1) B.F) x1.1 B.F)
def UN (tu:Pt A kM) (tC:Ft A kM) (bW:Pt A bQ) (bX:Ft A bQ) (qh:Pt A vS) (ql:Ft A vS) (x:Tup A.ah [.l .iop,.i,.i]):Ot A GU:=
 B.b B.F fun x0=>
 B.w .iop x.1 x.2.1<|
 B.s (.x .iop) (B.o .iop x.1 x.2.1) fun x1=>
 B.b (B.e (B.f .iop 0 x1.1) B.u) fun x2=>
 B.c x2.1 (B.k (B.a (B.e (B.f .iop 1 x1.1) B.z) (B.e (B.f .iop 2 x1.1) B.z) B.F) tu tC (B.f .iop 3 x1.1,()) fun x3=>
 B.v (B.a (B.a (B.a (B.e (B.f .iop 1 x1.1) B.z) (B.e (B.f .iop 2 x1.1) B.z) B.F) x3.1 B.F) (B.e (B.f .iop 4 x1.1) B.z) B.F))<|
 B.b (B.e (B.f .iop 0 x1.1) (B.n 2)) fun x3=>
 B.c x3.1 (B.k (B.a (B.e (B.f .iop 1 x1.1) B.z) (B.e (B.f .iop 2 x1.1) B.z) B.F) bW bX (B.f .iop 3 x1.1,B.z,B.n 3,()) fun x4=>
 B.v (B.a (B.a (B.a (B.e (B.f .iop 1 x1.1) B.z) (B.e (B.f .iop 2 x1.1) B.z) B.F) x4.1 B.F) (B.e (B.f .iop 4 x1.1) B.z) B.F))<|
 B.b (B.e (B.f .iop 0 x1.1) (B.n 3)) fun x4=>
 B.c x4.1 (B.j qh ql (x.1,B.f .iop 1 x1.1,x.2.1,()) fun x5=>
 B.k x5.1 qh ql (x.1,B.f .iop 2 x1.1,x.2.1,()) fun x6=>
 B.k (B.a x5.1 x6.1 B.F) bW bX (B.f .iop 3 x1.1,B.u,B.n 5,()) fun x7=>
 B.v (B.a (B.a (B.a x5.1 x6.1 B.F) x7.1 B.F) (B.e (B.f .iop 4 x1.1) B.z) B.F))<|
 B.b (B.e (B.f .iop 0 x1.1) (B.n 4)) fun x5=>
 A.bind [.l .iop,.i,.i,.i,.b,.x .iop] (B.c x5.1 (B.r (x.1,x.2.1,x.2.2.1,B.f .iop 0 x1.1,x5.1,x1.1,()))<|
 B.b (B.e (B.f .iop 0 x1.1) (B.n 7)) fun x6=>
 B.r (x.1,x.2.1,x.2.2.1,B.f .iop 0 x1.1,x6.1,x1.1,())) fun x6=>
 B.c x6.q.1 (B.j qh ql (x6.1,B.f .iop 1 x6.q.2.1,x6.2.1,()) fun x7=>
 B.k (B.a (B.a x7.1 (B.e (B.f .iop 2 x6.q.2.1) B.z) B.F) (B.e (B.f .iop 3 x6.q.2.1) B.z) B.F) bW bX (B.f .iop 4 x6.q.2.1,B.z,B.q x6.2.2.1 B.u,()) fun x8=>
 B.v (B.a (B.a (B.a x7.1 (B.e (B.f .iop 2 x6.q.2.1) B.z) B.F) (B.e (B.f .iop 3 x6.q.2.1) B.z) B.F) x8.1 B.F))<|
 B.b (B.e x6.2.2.2.1 (B.n 5)) fun x7=>
 B.c x7.1 (B.j qh ql (x6.1,B.f .iop 1 x6.q.2.1,x6.2.1,()) fun x8=>
 B.k x8.1 qh ql (x6.1,B.f .iop 2 x6.q.2.1,x6.2.1,()) fun x9=>
 B.k (B.a (B.a x8.1 x9.1 B.F) (B.e (B.f .iop 3 x6.q.2.1) B.z) B.F) bW bX (B.f .iop 4 x6.q.2.1,B.z,B.q x6.2.2.1 B.u,()) fun x10=>
 B.v (B.a (B.a (B.a x8.1 x9.1 B.F) (B.e (B.f .iop 3 x6.q.2.1) B.z) B.F) x10.1 B.F))<|
 B.b (B.e x6.2.2.2.1 (B.n 6)) fun x8=>
 B.c x8.1 (B.k (B.a (B.a (B.e (B.f .iop 1 x6.q.2.1) B.z) (B.e (B.f .iop 2 x6.q.2.1) B.z) B.F) (B.e (B.f .iop 3 x6.q.2.1) B.z) B.F) bW bX (B.f .iop 4 x6.q.2.1,B.z,B.q x6.2.2.1 B.u,()) fun x9=>
 B.v (B.a (B.a (B.a (B.e (B.f .iop 1 x6.q.2.1) B.z) (B.e (B.f .iop 2 x6.q.2.1) B.z) B.F) (B.e (B.f .iop 3 x6.q.2.1) B.z) B.F) x9.1 B.F))<|
 B.b (B.e x6.2.2.2.1 (B.n 8)) fun x9=>
 B.c x9.1 (B.j qh ql (x6.1,B.f .iop 1 x6.q.2.1,x6.2.1,()) fun x10=>
 B.k (B.a x10.1 (B.e (B.f .iop 2 x6.q.2.1) B.z) B.F) bW bX (B.f .iop 3 x6.q.2.1,B.z,B.n 3,()) fun x11=>
 B.v (B.a (B.a (B.a x10.1 (B.e (B.f .iop 2 x6.q.2.1) B.z) B.F) x11.1 B.F) (B.e (B.f .iop 4 x6.q.2.1) B.z) B.F))<|
 B.v B.F
def UO (tu:Pt A kM) (tC:Ft A kM) (qh:Pt A vS) (ql:Ft A vS) (x:Tup A.ah [.x .blk]):Ot A GV:=
 B.b B.F fun x0=>
 B.i (B.y .iop (B.D .blk 2 .iop x.1)) fun x1=>
 B.b (B.e (B.f .blk 3 x.1) B.u) fun x2=>
 B.c x2.1 (B.k (B.a (B.e (B.f .blk 4 x.1) B.z) (B.e (B.f .blk 5 x.1) B.z) B.F) tu tC (B.f .blk 6 x.1,()) fun x3=>
 B.v (B.a (B.a (B.e (B.f .blk 4 x.1) B.z) (B.e (B.f .blk 5 x.1) B.z) B.F) x3.1 B.F))<|
 B.b (B.e (B.f .blk 3 x.1) (B.n 2)) fun x3=>
 B.c x3.1 (B.j qh ql (B.D .blk 2 .iop x.1,B.f .blk 4 x.1,x1.1,()) fun x4=>
 B.v (B.a (B.a x4.1 (B.e (B.f .blk 5 x.1) B.z) B.F) (B.e (B.f .blk 6 x.1) B.z) B.F))<|
 B.b (B.e (B.f .blk 3 x.1) (B.n 3)) fun x4=>
 A.bind [.i,.b,.x .blk] (B.c x4.1 (B.r (x1.1,x4.1,x.1,()))<|
 B.b (B.e (B.f .blk 3 x.1) (B.n 4)) fun x5=>
 B.r (x1.1,x5.1,x.1,())) fun x5=>
 B.c x5.2.1 (B.j qh ql (B.D .blk 2 .iop x5.2.2.1,B.f .blk 4 x5.2.2.1,x5.1,()) fun x6=>
 B.k x6.1 qh ql (B.D .blk 2 .iop x5.2.2.1,B.f .blk 5 x5.2.2.1,x5.1,()) fun x7=>
 B.k (B.a x6.1 x7.1 B.F) tu tC (B.f .blk 6 x5.2.2.1,()) fun x8=>
 B.v (B.a (B.a x6.1 x7.1 B.F) x8.1 B.F))<|
 B.v B.F
def UQ (bW:Pt A bQ) (bX:Ft A bQ) (aki:Pt A GV) (akj:Ft A GV) (akk:Pt A GU) (akl:Ft A GU) (x:Tup A.ah [.x .blk]):Ot A fE:=
 B.b B.F fun x0=>
 B.j bW bX (B.f .blk 1 x.1,B.u,B.n 8,()) fun x1=>
 B.k (B.N (B.N x1.1)) bW bX (B.f .blk 0 x.1,B.z,B.q (B.n 64) (B.f .blk 1 x.1),()) fun x2=>
 B.c (B.a (B.a (B.N x1.1) B.T (B.N x2.1)) B.T (B.g (B.y .iop (B.D .blk 2 .iop x.1)) (B.n 48))) (B.v B.F)<|
 B.i B.z fun x3=>
 B.I [.i,.x .blk] (fun x4=>
 B.c (B.l x4.1 (B.y .iop (B.D .blk 2 .iop x4.2.1))) (B.j akk akl (B.D .blk 2 .iop x4.2.1,x4.1,B.f .blk 1 x4.2.1,()) fun x5=>
 B.c (B.N x5.1) (B.b B.F fun x6=>
 B.R<|B.r (x6.1,()))<|
 B.i (B.p x4.1 B.u) fun x6=>
 B.L (x6.1,x4.2.1,()))<|
 B.R<|B.j aki akj (x4.2.1,()) fun x5=>
 B.v x5.1) (x3.1,x.1,())
def UR (x:Tup A.ah [.x .blk,.x .blk]):Ot A GX:=
 B.b B.F fun x0=>
 B.c (B.a (B.a (B.a (B.a (B.a (B.a (B.d (B.f .blk 0 x.1) (B.f .blk 0 x.2.1)) B.T (B.d (B.f .blk 1 x.1) (B.f .blk 1 x.2.1))) B.T (B.d (B.f .blk 3 x.1) (B.f .blk 3 x.2.1))) B.T (B.d (B.f .blk 4 x.1) (B.f .blk 4 x.2.1))) B.T (B.d (B.f .blk 5 x.1) (B.f .blk 5 x.2.1))) B.T (B.d (B.f .blk 6 x.1) (B.f .blk 6 x.2.1))) B.T (B.d (B.y .iop (B.D .blk 2 .iop x.1)) (B.y .iop (B.D .blk 2 .iop x.2.1)))) (B.v B.F)<|
 B.i B.z fun x1=>
 B.I [.i,.x .blk,.x .blk] (fun x2=>
 B.c (B.l x2.1 (B.y .iop (B.D .blk 2 .iop x2.2.1))) (B.w .iop (B.D .blk 2 .iop x2.2.1) x2.1<|
 B.w .iop (B.D .blk 2 .iop x2.2.2.1) x2.1<|
 B.c (B.N (A.eqX .iop (B.o .iop (B.D .blk 2 .iop x2.2.1) x2.1) (B.o .iop (B.D .blk 2 .iop x2.2.2.1) x2.1))) (B.b B.F fun x3=>
 B.R<|B.r (x3.1,()))<|
 B.i (B.p x2.1 B.u) fun x3=>
 B.L (x3.1,x2.2.1,x2.2.2.1,()))<|
 B.R<|B.v B.T) (x1.1,x.1,x.2.1,())
def UU (bW:Pt A bQ) (bX:Ft A bQ) (x:Tup A.ah [.i]):Ot A kN:=
 B.j bW bX (x.1,B.z,B.n 199,()) fun x0=>
 B.c (B.N x0.1) (B.r (A.aN .mono,()))<|
 B.s (.l .i64) (A.lst .i64 [B.x .i64 (x.1,())]) fun x1=>
 B.s (.l .mono) (A.lst .mono [B.x .mono (B.u,x1.1,())]) fun x2=>
 B.r (x2.1,())
def UW (AB:Pt A kN) (AJ:Ft A kN) (x:Tup A.ah []):Ot A vT:=
 B.s (.l .poly) (A.lst .poly []) fun x0=>
 B.i B.z fun x1=>
 B.I [.i,.l .poly,.l .atom] (fun x2=>
 B.c (B.l x2.1 (B.n 4)) (B.s (.l .atom) (A.lst .atom [B.x .atom (B.u,x2.1,A.aN .mono,A.aN .mono,())]) fun x3=>
 B.C (B.m (A.addN (B.y .atom x2.2.2.1) (B.y .atom x3.1)) (B.n 1073741824))<|
 B.s (.l .atom) (A.app .atom x2.2.2.1 x3.1) fun x4=>
 B.j AB AJ (x2.1,()) fun x5=>
 B.s (.l .poly) (A.lst .poly [B.x .poly (x5.1,())]) fun x6=>
 B.C (B.m (A.addN (B.y .poly x2.2.1) (B.y .poly x6.1)) (B.n 1073741824))<|
 B.s (.l .poly) (A.app .poly x2.2.1 x6.1) fun x7=>
 B.i (B.p x2.1 B.u) fun x8=>
 B.L (x8.1,x7.1,x4.1,()))<|
 B.R<|B.r (x2.2.2.1,x2.2.1,())) (x1.1,x0.1,A.aN .atom,())
def UY (x:Tup A.ah [.l .i64,.l .i64]):Ot A nY:=
 B.i B.z fun x0=>
 B.c (B.d (B.y .i64 x.1) (B.y .i64 x.2.1)) (B.c (B.l (B.y .i64 x.1) (B.y .i64 x.2.1)) (B.i (B.n (-1)) fun x1=>
 B.r (x1.1,()))<|
 B.i B.u fun x1=>
 B.r (x1.1,()))<|
 B.i B.z fun x1=>
 B.I [.l .i64,.l .i64,.i] (fun x2=>
 B.c (B.l x2.2.2.1 (B.y .i64 x2.1)) (B.w .i64 x2.1 x2.2.2.1<|
 B.w .i64 x2.2.1 x2.2.2.1<|
 B.c (B.l (B.f .i64 0 (B.o .i64 x2.1 x2.2.2.1)) (B.f .i64 0 (B.o .i64 x2.2.1 x2.2.2.1))) (B.i (B.n (-1)) fun x3=>
 B.R<|B.r (x3.1,()))<|
 B.w .i64 x2.1 x2.2.2.1<|
 B.w .i64 x2.2.1 x2.2.2.1<|
 B.c (B.g (B.f .i64 0 (B.o .i64 x2.1 x2.2.2.1)) (B.f .i64 0 (B.o .i64 x2.2.1 x2.2.2.1))) (B.i B.u fun x3=>
 B.R<|B.r (x3.1,()))<|
 B.i (B.p x2.2.2.1 B.u) fun x3=>
 B.L (x2.1,x2.2.1,x3.1,()))<|
 B.R<|B.i B.z fun x3=>
 B.r (x3.1,())) (x.1,x.2.1,x1.1,())
def UZ (bW:Pt A bQ) (bX:Ft A bQ) (x:Tup A.ah [.x .mono]):Ot A GY:=
 B.b B.F fun x0=>
 B.j bW bX (B.f .mono 0 x.1,B.u,B.n 65535,()) fun x1=>
 B.c (B.a (B.N x1.1) B.T (B.g (B.y .i64 (B.D .mono 1 .i64 x.1)) (B.n 4))) (B.v B.F)<|
 B.i B.z fun x2=>
 B.I [.i,.x .mono] (fun x3=>
 B.c (B.l x3.1 (B.y .i64 (B.D .mono 1 .i64 x3.2.1))) (B.w .i64 (B.D .mono 1 .i64 x3.2.1) x3.1<|
 B.j bW bX (B.f .i64 0 (B.o .i64 (B.D .mono 1 .i64 x3.2.1) x3.1),B.z,B.n 199,()) fun x4=>
 B.C (B.O (B.N (A.jD (B.N (B.N x4.1)) (B.g x3.1 B.z))) (B.m B.z (B.q x3.1 B.u)))<|
 B.C (B.O (B.N (A.jD (B.N (B.N x4.1)) (B.g x3.1 B.z))) (B.l (B.q x3.1 B.u) (B.y .i64 (B.D .mono 1 .i64 x3.2.1))))<|
 B.C (B.O (B.N (A.jD (B.N (B.N x4.1)) (B.g x3.1 B.z))) (B.m B.z x3.1))<|
 B.C (B.O (B.N (A.jD (B.N (B.N x4.1)) (B.g x3.1 B.z))) (B.l x3.1 (B.y .i64 (B.D .mono 1 .i64 x3.2.1))))<|
 B.c (B.a (B.N x4.1) B.T (B.a (B.g x3.1 B.z) (B.g (B.f .i64 0 (B.o .i64 (B.D .mono 1 .i64 x3.2.1) (B.q x3.1 B.u))) (B.f .i64 0 (B.o .i64 (B.D .mono 1 .i64 x3.2.1) x3.1))) B.F)) (B.b B.F fun x5=>
 B.R<|B.r (x5.1,()))<|
 B.i (B.p x3.1 B.u) fun x5=>
 B.L (x5.1,x3.2.1,()))<|
 B.R<|B.v B.T) (x2.1,x.1,())
def U0 (akm:Pt A GY) (akn:Ft A GY) (Jl:Pt A nY) (Jm:Ft A nY) (x:Tup A.ah [.x .poly]):Ot A iq:=
 B.b B.F fun x0=>
 B.c (B.g (B.y .mono (B.D .poly 0 .mono x.1)) (B.n 12)) (B.v B.F)<|
 B.i B.z fun x1=>
 B.I [.i,.x .poly] (fun x2=>
 B.c (B.l x2.1 (B.y .mono (B.D .poly 0 .mono x2.2.1))) (B.w .mono (B.D .poly 0 .mono x2.2.1) x2.1<|
 B.j akm akn (B.o .mono (B.D .poly 0 .mono x2.2.1) x2.1,()) fun x3=>
 B.C (B.O (B.N (A.jD (B.N (B.N x3.1)) (B.g x2.1 B.z))) (B.m B.z (B.q x2.1 B.u)))<|
 B.C (B.O (B.N (A.jD (B.N (B.N x3.1)) (B.g x2.1 B.z))) (B.l (B.q x2.1 B.u) (B.y .mono (B.D .poly 0 .mono x2.2.1))))<|
 B.C (B.O (B.N (A.jD (B.N (B.N x3.1)) (B.g x2.1 B.z))) (B.m B.z x2.1))<|
 B.C (B.O (B.N (A.jD (B.N (B.N x3.1)) (B.g x2.1 B.z))) (B.l x2.1 (B.y .mono (B.D .poly 0 .mono x2.2.1))))<|
 B.k (A.jD (B.N (B.N x3.1)) (B.g x2.1 B.z)) Jl Jm (B.D .mono 1 .i64 (B.o .mono (B.D .poly 0 .mono x2.2.1) (B.q x2.1 B.u)),B.D .mono 1 .i64 (B.o .mono (B.D .poly 0 .mono x2.2.1) x2.1),()) fun x4=>
 B.c (B.a (B.N x3.1) B.T (B.a (B.g x2.1 B.z) (B.h x4.1 B.z) B.F)) (B.b B.F fun x5=>
 B.R<|B.r (x5.1,()))<|
 B.i (B.p x2.1 B.u) fun x5=>
 B.L (x5.1,x2.2.1,()))<|
 B.R<|B.v B.T) (x1.1,x.1,())
def U1 (x:Tup A.ah [.x .atom]):Ot A GZ:=
 B.b B.F fun x0=>
 B.v (B.a (B.e (B.y .mono (B.D .atom 2 .mono x.1)) B.z) (B.e (B.y .mono (B.D .atom 3 .mono x.1)) B.z) B.F)
def U2 (x:Tup A.ah [.x .poly,.i]):Ot A G5:=
 B.b B.F fun x0=>
 B.i B.z fun x1=>
 B.I [.i,.i,.x .poly] (fun x2=>
 B.c (B.l x2.2.1 (B.y .mono (B.D .poly 0 .mono x2.2.2.1))) (B.i B.z fun x3=>
 B.I [.i,.i,.i,.x .poly] (fun x4=>
 B.w .mono (B.D .poly 0 .mono x4.2.2.2.1) x4.2.1<|
 B.c (B.l x4.2.2.1 (B.y .i64 (B.D .mono 1 .i64 (B.o .mono (B.D .poly 0 .mono x4.2.2.2.1) x4.2.1)))) (B.w .mono (B.D .poly 0 .mono x4.2.2.2.1) x4.2.1<|
 B.w .i64 (B.D .mono 1 .i64 (B.o .mono (B.D .poly 0 .mono x4.2.2.2.1) x4.2.1)) x4.2.2.1<|
 B.c (B.h (B.f .i64 0 (B.o .i64 (B.D .mono 1 .i64 (B.o .mono (B.D .poly 0 .mono x4.2.2.2.1) x4.2.1)) x4.2.2.1)) x4.1) (B.b B.F fun x5=>
 B.R<|B.R<|B.r (x5.1,()))<|
 B.i (B.p x4.2.2.1 B.u) fun x5=>
 B.L (x4.1,x4.2.1,x5.1,x4.2.2.2.1,()))<|
 B.R<|B.i (B.p x4.2.1 B.u) fun x5=>
 B.L (x4.1,x5.1,x4.2.2.2.1,())) (x2.1,x2.2.1,x3.1,x2.2.2.1,()))<|
 B.R<|B.v B.T) (x.2.1,x1.1,x.1,())
def U3 (bW:Pt A bQ) (bX:Ft A bQ) (jM:Pt A iq) (jN:Ft A iq) (acD:Pt A G5) (acE:Ft A G5) (acF:Pt A GZ) (acG:Ft A GZ) (x:Tup A.ah [.x .atom,.i]):Ot A vU:=
 B.b B.F fun x0=>
 B.b (B.e (B.f .atom 0 x.1) B.u) fun x1=>
 B.c x1.1 (B.j bW bX (B.f .atom 1 x.1,B.z,B.n 3,()) fun x2=>
 B.k x2.1 acF acG (x.1,()) fun x3=>
 B.v (B.a x2.1 x3.1 B.F))<|
 B.b (B.e (B.f .atom 0 x.1) (B.n 2)) fun x2=>
 A.bind [.i,.i,.b,.x .atom] (B.c x2.1 (B.r (x.2.1,B.f .atom 0 x.1,x2.1,x.1,()))<|
 B.b (B.e (B.f .atom 0 x.1) (B.n 3)) fun x3=>
 B.r (x.2.1,B.f .atom 0 x.1,x3.1,x.1,())) fun x3=>
 B.c x3.2.2.1 (B.j bW bX (B.f .atom 1 x3.2.2.2.1,B.z,B.n 199,()) fun x4=>
 B.k x4.1 acF acG (x3.2.2.2.1,()) fun x5=>
 B.v (B.a x4.1 x5.1 B.F))<|
 B.b (B.e x3.2.1 (B.n 4)) fun x4=>
 B.c x4.1 (B.j bW bX (B.f .atom 1 x3.2.2.2.1,B.u,B.n 5,()) fun x5=>
 B.k x5.1 jM jN (B.x .poly (B.D .atom 2 .mono x3.2.2.2.1,()),()) fun x6=>
 B.k (B.a x5.1 x6.1 B.F) jM jN (B.x .poly (B.D .atom 3 .mono x3.2.2.2.1,()),()) fun x7=>
 B.k (B.a (B.a x5.1 x6.1 B.F) x7.1 B.F) acD acE (B.x .poly (B.D .atom 2 .mono x3.2.2.2.1,()),x3.1,()) fun x8=>
 B.k (B.a (B.a (B.a x5.1 x6.1 B.F) x7.1 B.F) x8.1 B.F) acD acE (B.x .poly (B.D .atom 3 .mono x3.2.2.2.1,()),x3.1,()) fun x9=>
 B.v (B.a (B.a (B.a (B.a x5.1 x6.1 B.F) x7.1 B.F) x8.1 B.F) x9.1 B.F))<|
 B.v B.F
def U4 (Jl:Pt A nY) (Jm:Ft A nY) (x:Tup A.ah [.x .poly,.x .poly]):Ot A gB:=
 B.i B.z fun x0=>
 B.c (B.d (B.y .mono (B.D .poly 0 .mono x.1)) (B.y .mono (B.D .poly 0 .mono x.2.1))) (B.c (B.l (B.y .mono (B.D .poly 0 .mono x.1)) (B.y .mono (B.D .poly 0 .mono x.2.1))) (B.i (B.n (-1)) fun x1=>
 B.r (x1.1,()))<|
 B.i B.u fun x1=>
 B.r (x1.1,()))<|
 B.i B.z fun x1=>
 B.I [.i,.x .poly,.x .poly] (fun x2=>
 B.c (B.l x2.1 (B.y .mono (B.D .poly 0 .mono x2.2.1))) (B.w .mono (B.D .poly 0 .mono x2.2.1) x2.1<|
 B.w .mono (B.D .poly 0 .mono x2.2.2.1) x2.1<|
 B.j Jl Jm (B.D .mono 1 .i64 (B.o .mono (B.D .poly 0 .mono x2.2.1) x2.1),B.D .mono 1 .i64 (B.o .mono (B.D .poly 0 .mono x2.2.2.1) x2.1),()) fun x3=>
 B.i x3.1 fun x4=>
 B.c (B.d x4.1 B.z) (B.i x4.1 fun x5=>
 B.R<|B.r (x5.1,()))<|
 B.w .mono (B.D .poly 0 .mono x2.2.1) x2.1<|
 B.w .mono (B.D .poly 0 .mono x2.2.2.1) x2.1<|
 B.c (B.d (B.f .mono 0 (B.o .mono (B.D .poly 0 .mono x2.2.1) x2.1)) (B.f .mono 0 (B.o .mono (B.D .poly 0 .mono x2.2.2.1) x2.1))) (B.w .mono (B.D .poly 0 .mono x2.2.1) x2.1<|
 B.w .mono (B.D .poly 0 .mono x2.2.2.1) x2.1<|
 B.c (B.l (B.f .mono 0 (B.o .mono (B.D .poly 0 .mono x2.2.1) x2.1)) (B.f .mono 0 (B.o .mono (B.D .poly 0 .mono x2.2.2.1) x2.1))) (B.i (B.n (-1)) fun x5=>
 B.R<|B.r (x5.1,()))<|
 B.i B.u fun x5=>
 B.R<|B.r (x5.1,()))<|
 B.i (B.p x2.1 B.u) fun x5=>
 B.L (x5.1,x2.2.1,x2.2.2.1,()))<|
 B.R<|B.i B.z fun x3=>
 B.r (x3.1,())) (x1.1,x.1,x.2.1,())
def U5 (je:Pt A gB) (jf:Ft A gB) (x:Tup A.ah [.x .atom,.x .atom]):Ot A vV:=
 B.b B.F fun x0=>
 B.k (B.a (B.e (B.f .atom 0 x.1) (B.f .atom 0 x.2.1)) (B.e (B.f .atom 1 x.1) (B.f .atom 1 x.2.1)) B.F) je jf (B.x .poly (B.D .atom 2 .mono x.1,()),B.x .poly (B.D .atom 2 .mono x.2.1,()),()) fun x1=>
 B.k (B.a (B.a (B.e (B.f .atom 0 x.1) (B.f .atom 0 x.2.1)) (B.e (B.f .atom 1 x.1) (B.f .atom 1 x.2.1)) B.F) (B.e x1.1 B.z) B.F) je jf (B.x .poly (B.D .atom 3 .mono x.1,()),B.x .poly (B.D .atom 3 .mono x.2.1,()),()) fun x2=>
 B.v (B.a (B.a (B.a (B.e (B.f .atom 0 x.1) (B.f .atom 0 x.2.1)) (B.e (B.f .atom 1 x.1) (B.f .atom 1 x.2.1)) B.F) (B.e x1.1 B.z) B.F) (B.e x2.1 B.z) B.F)
def U6 (U7:Pt A vU) (U8:Ft A vU) (U9:Pt A vV) (Va:Ft A vV) (x:Tup A.ah [.x .tab]):Ot A G6:=
 B.b B.F fun x0=>
 B.c (B.g (B.y .atom (B.D .tab 0 .atom x.1)) (B.n 200)) (B.v B.F)<|
 B.i B.z fun x1=>
 B.I [.i,.x .tab] (fun x2=>
 B.c (B.l x2.1 (B.y .atom (B.D .tab 0 .atom x2.2.1))) (B.w .atom (B.D .tab 0 .atom x2.2.1) x2.1<|
 B.j U7 U8 (B.o .atom (B.D .tab 0 .atom x2.2.1) x2.1,x2.1,()) fun x3=>
 B.c (B.N x3.1) (B.b B.F fun x4=>
 B.R<|B.r (x4.1,()))<|
 B.i B.z fun x4=>
 B.I [.i,.i,.x .tab] (fun x5=>
 B.c (B.l x5.2.1 x5.1) (B.w .atom (B.D .tab 0 .atom x5.2.2.1) x5.2.1<|
 B.w .atom (B.D .tab 0 .atom x5.2.2.1) x5.1<|
 B.j U9 Va (B.o .atom (B.D .tab 0 .atom x5.2.2.1) x5.2.1,B.o .atom (B.D .tab 0 .atom x5.2.2.1) x5.1,()) fun x6=>
 B.c x6.1 (B.b B.F fun x7=>
 B.R<|B.R<|B.r (x7.1,()))<|
 B.i (B.p x5.2.1 B.u) fun x7=>
 B.L (x5.1,x7.1,x5.2.2.1,()))<|
 B.R<|B.i (B.p x5.1 B.u) fun x6=>
 B.L (x6.1,x5.2.2.1,())) (x2.1,x4.1,x2.2.1,()))<|
 B.R<|B.v B.T) (x1.1,x.1,())
def Vb (x:Tup A.ah [.l .mono]):Ot A dQ:=
 B.i B.z fun x0=>
 B.I [.l .mono,.i,.l .mono] (fun x1=>
 B.c (B.l x1.2.1 (B.y .mono x1.1)) (B.w .mono x1.1 x1.2.1<|
 B.w .mono x1.1 x1.2.1<|
 B.C (B.O (B.l B.z (B.y .i64 (B.D .mono 1 .i64 (B.o .mono x1.1 x1.2.1)))) (B.e (B.y .i64 (A.lst .i64 [])) B.z))<|
 B.C (B.m (A.addN (B.y .i64 (A.lst .i64 [])) (B.y .i64 (B.D .mono 1 .i64 (B.o .mono x1.1 x1.2.1)))) (B.n 1073741824))<|
 B.s (.l .i64) (A.app .i64 (A.lst .i64 []) (B.D .mono 1 .i64 (B.o .mono x1.1 x1.2.1))) fun x2=>
 B.s (.l .mono) (A.lst .mono [B.x .mono (B.f .mono 0 (B.o .mono x1.1 x1.2.1),x2.1,())]) fun x3=>
 B.C (B.m (A.addN (B.y .mono x1.2.2.1) (B.y .mono x3.1)) (B.n 1073741824))<|
 B.s (.l .mono) (A.app .mono x1.2.2.1 x3.1) fun x4=>
 B.i (B.p x1.2.1 B.u) fun x5=>
 B.L (x1.1,x5.1,x4.1,()))<|
 B.R<|B.r (x1.2.2.1,())) (x.1,x0.1,A.aN .mono,())
def Vd (gF:Pt A dQ) (gG:Ft A dQ) (x:Tup A.ah [.x .atom]):Ot A vW:=
 B.j gF gG (B.D .atom 2 .mono x.1,()) fun x0=>
 B.j gF gG (B.D .atom 3 .mono x.1,()) fun x1=>
 B.r (B.f .atom 0 x.1,B.f .atom 1 x.1,x0.1,x1.1,())
def Ve (Vf:Pt A vW) (Vg:Ft A vW) (x:Tup A.ah [.x .tab]):Ot A G7:=
 B.i B.z fun x0=>
 B.I [.i,.x .tab,.l .atom] (fun x1=>
 B.c (B.l x1.1 (B.y .atom (B.D .tab 0 .atom x1.2.1))) (B.w .atom (B.D .tab 0 .atom x1.2.1) x1.1<|
 B.j Vf Vg (B.o .atom (B.D .tab 0 .atom x1.2.1) x1.1,()) fun x2=>
 B.s (.l .atom) (A.lst .atom [B.x .atom (x2.1,x2.2.1,x2.2.2.1,x2.2.2.2.1,())]) fun x3=>
 B.C (B.m (A.addN (B.y .atom x1.2.2.1) (B.y .atom x3.1)) (B.n 1073741824))<|
 B.s (.l .atom) (A.app .atom x1.2.2.1 x3.1) fun x4=>
 B.i (B.p x1.1 B.u) fun x5=>
 B.L (x5.1,x1.2.1,x4.1,()))<|
 B.R<|B.r (x1.2.2.1,())) (x0.1,x.1,A.aN .atom,())
def Vh (U7:Pt A vU) (U8:Ft A vU) (U9:Pt A vV) (Va:Ft A vV) (Vf:Pt A vW) (Vg:Ft A vW) (x:Tup A.ah [.x .atom,.l .atom]):Ot A nZ:=
 B.i B.z fun x0=>
 B.j U7 U8 (x.1,B.y .atom x.2.1,()) fun x1=>
 B.c (B.N x1.1) (B.i (B.n (-1)) fun x2=>
 B.r (x2.1,x.2.1,()))<|
 B.i B.z fun x2=>
 B.I [.i,.l .atom,.x .atom] (fun x3=>
 B.c (B.l x3.1 (B.y .atom x3.2.1)) (B.w .atom x3.2.1 x3.1<|
 B.w .atom x3.2.1 x3.1<|
 B.j U9 Va (B.o .atom x3.2.1 x3.1,x3.2.2.1,()) fun x4=>
 B.c x4.1 (B.i x3.1 fun x5=>
 B.R<|B.r (x5.1,x3.2.1,()))<|
 B.i (B.p x3.1 B.u) fun x5=>
 B.L (x5.1,x3.2.1,x3.2.2.1,()))<|
 B.R<|B.c (B.e (B.y .atom x3.2.1) (B.n 200)) (B.i (B.n (-1)) fun x4=>
 B.r (x4.1,x3.2.1,()))<|
 B.j Vf Vg (x3.2.2.1,()) fun x4=>
 B.s (.l .atom) (A.lst .atom [B.x .atom (x4.1,x4.2.1,x4.2.2.1,x4.2.2.2.1,())]) fun x5=>
 B.C (B.m (A.addN (B.y .atom x3.2.1) (B.y .atom x5.1)) (B.n 1073741824))<|
 B.s (.l .atom) (A.app .atom x3.2.1 x5.1) fun x6=>
 B.i (B.q (B.y .atom x6.1) B.u) fun x7=>
 B.r (x7.1,x6.1,())) (x2.1,x.2.1,x.1,())
def Vi (x:Tup A.ah [.i,.l .poly]):Ot A G8:=
 B.c (B.a (B.l x.1 B.z) B.T (B.h x.1 (B.y .poly x.2.1))) (B.r (B.x .poly (A.aN .mono,()),x.2.1,()))<|
 B.w .poly x.2.1 x.1<|
 B.w .poly x.2.1 x.1<|
 B.s (.x .poly) (B.o .poly x.2.1 x.1) fun x0=>
 B.r (x0.1,x.2.1,())
def Vj (bW:Pt A bQ) (bX:Ft A bQ) (x:Tup A.ah [.i]):Ot A vX:=
 B.j bW bX (x.1,B.u,B.n 65535,()) fun x0=>
 B.c (B.N x0.1) (B.r (A.aN .mono,()))<|
 B.s (.l .mono) (A.lst .mono [B.x .mono (x.1,A.aN .i64,())]) fun x1=>
 B.r (x1.1,())
def Vk (x:Tup A.ah [.i]):Ot A kP:=
 B.i B.z fun x0=>
 B.C (B.d (B.n 65536) B.z)<|
 B.i (A.arith .rem .i64 x.1 (B.n 65536)) fun x1=>
 A.bind [.i] (B.c (B.l x1.1 B.z) (B.i (B.p x1.1 (B.n 65536)) fun x2=>
 B.r (x2.1,()))<|
 B.r (x1.1,())) fun x2=>
 B.i x2.1 fun x3=>
 B.r (x3.1,())
def Vm (Jl:Pt A nY) (Jm:Ft A nY) (tF:Pt A kP) (tH:Ft A kP) (x:Tup A.ah [.l .mono,.x .mono]):Ot A vY:=
 B.s (.l .mono) (A.lst .mono []) fun x0=>
 B.b B.F fun x1=>
 B.i B.z fun x2=>
 B.I [.l .mono,.b,.i,.x .mono,.l .mono] (fun x3=>
 B.c (B.l x3.2.2.1 (B.y .mono x3.1)) (B.w .mono x3.1 x3.2.2.1<|
 B.j Jl Jm (B.D .mono 1 .i64 x3.2.2.2.1,B.D .mono 1 .i64 (B.o .mono x3.1 x3.2.2.1),()) fun x4=>
 B.i x4.1 fun x5=>
 A.bind [.l .mono,.b,.i,.i,.x .mono,.l .mono] (B.c (B.a (B.N x3.2.1) (B.l x5.1 B.z) B.F) (B.s (.l .mono) (A.lst .mono [x3.2.2.2.1]) fun x6=>
 B.C (B.m (A.addN (B.y .mono x3.q.1) (B.y .mono x6.1)) (B.n 1073741824))<|
 B.s (.l .mono) (A.app .mono x3.q.1 x6.1) fun x7=>
 B.b B.T fun x8=>
 B.r (x3.1,x8.1,x3.2.2.1,x5.1,x3.2.2.2.1,x7.1,()))<|
 B.r (x3.1,x3.2.1,x3.2.2.1,x5.1,x3.2.2.2.1,x3.q.1,())) fun x6=>
 A.bind [.l .mono,.b,.i,.x .mono,.l .mono] (B.c (B.e x6.2.2.2.1 B.z) (B.b B.T fun x7=>
 B.w .mono x6.1 x6.2.2.1<|
 B.j tF tH (B.p (B.f .mono 0 (B.o .mono x6.1 x6.2.2.1)) (B.f .mono 0 x6.q.1),()) fun x8=>
 B.i x8.1 fun x9=>
 A.bind [.l .mono,.b,.i,.x .mono,.l .mono] (B.c (B.g x9.1 B.z) (B.w .mono x6.1 x6.2.2.1<|
 B.s (.l .mono) (A.lst .mono [B.x .mono (x9.1,B.D .mono 1 .i64 (B.o .mono x6.1 x6.2.2.1),())]) fun x10=>
 B.C (B.m (A.addN (B.y .mono x6.q.2.1) (B.y .mono x10.1)) (B.n 1073741824))<|
 B.s (.l .mono) (A.app .mono x6.q.2.1 x10.1) fun x11=>
 B.r (x6.1,x7.1,x6.2.2.1,x6.q.1,x11.1,()))<|
 B.r (x6.1,x7.1,x6.2.2.1,x6.q.1,x6.q.2.1,())) fun x10=>
 B.r (x10.1,x10.2.1,x10.2.2.1,x10.2.2.2.1,x10.q.1,()))<|
 B.w .mono x6.1 x6.2.2.1<|
 B.s (.l .mono) (A.lst .mono [B.o .mono x6.1 x6.2.2.1]) fun x7=>
 B.C (B.m (A.addN (B.y .mono x6.q.2.1) (B.y .mono x7.1)) (B.n 1073741824))<|
 B.s (.l .mono) (A.app .mono x6.q.2.1 x7.1) fun x8=>
 B.r (x6.1,x6.2.1,x6.2.2.1,x6.q.1,x8.1,())) fun x7=>
 B.i (B.p x7.2.2.1 B.u) fun x8=>
 B.L (x7.1,x7.2.1,x8.1,x7.2.2.2.1,x7.q.1,()))<|
 B.R<|A.bind [.l .mono] (B.c (B.N x3.2.1) (B.s (.l .mono) (A.lst .mono [x3.2.2.2.1]) fun x4=>
 B.C (B.m (A.addN (B.y .mono x3.q.1) (B.y .mono x4.1)) (B.n 1073741824))<|
 B.s (.l .mono) (A.app .mono x3.q.1 x4.1) fun x5=>
 B.r (x5.1,()))<|
 B.r (x3.q.1,())) fun x4=>
 B.r (x4.1,())) (x.1,x1.1,x2.1,x.2.1,x0.1,())
def Vn (gF:Pt A dQ) (gG:Ft A dQ) (x:Tup A.ah [.l .mono]):Ot A vZ:=
 B.b B.F fun x0=>
 B.c (B.g (B.y .mono x.1) (B.n 12)) (B.b B.F fun x1=>
 B.r (x1.1,A.aN .mono,()))<|
 B.i B.z fun x1=>
 B.I [.l .mono,.i] (fun x2=>
 B.c (B.l x2.2.1 (B.y .mono x2.1)) (B.w .mono x2.1 x2.2.1<|
 B.c (B.g (B.y .i64 (B.D .mono 1 .i64 (B.o .mono x2.1 x2.2.1))) (B.n 4)) (B.b B.F fun x3=>
 B.R<|B.r (x3.1,A.aN .mono,()))<|
 B.i (B.p x2.2.1 B.u) fun x3=>
 B.L (x2.1,x3.1,()))<|
 B.R<|B.j gF gG (x2.1,()) fun x3=>
 B.b B.T fun x4=>
 B.r (x4.1,x3.1,())) (x.1,x1.1,())
def Vo (jM:Pt A iq) (jN:Ft A iq) (Vp:Pt A vY) (Vq:Ft A vY) (Vr:Pt A vZ) (Vs:Ft A vZ) (x:Tup A.ah [.x .poly,.x .poly]):Ot A G9:=
 B.b B.F fun x0=>
 B.j jM jN (x.1,()) fun x1=>
 B.k (B.N (B.N x1.1)) jM jN (x.2.1,()) fun x2=>
 B.c (B.a (B.N x1.1) B.T (B.N x2.1)) (B.b B.F fun x3=>
 B.r (x3.1,A.aN .mono,()))<|
 B.s (.l .mono) (B.D .poly 0 .mono x.1) fun x3=>
 B.i B.z fun x4=>
 B.I [.l .mono,.i,.x .poly] (fun x5=>
 B.c (B.l x5.2.1 (B.y .mono (B.D .poly 0 .mono x5.2.2.1))) (B.w .mono (B.D .poly 0 .mono x5.2.2.1) x5.2.1<|
 B.j Vp Vq (x5.1,B.o .mono (B.D .poly 0 .mono x5.2.2.1) x5.2.1,()) fun x6=>
 B.i (B.p x5.2.1 B.u) fun x7=>
 B.L (x6.1,x7.1,x5.2.2.1,()))<|
 B.R<|B.j Vr Vs (x5.1,()) fun x6=>
 B.b x6.1 fun x7=>
 B.r (x7.1,x6.2.1,())) (x3.1,x4.1,x.2.1,())
def Vt (jM:Pt A iq) (jN:Ft A iq) (tF:Pt A kP) (tH:Ft A kP) (gF:Pt A dQ) (gG:Ft A dQ) (tu:Pt A kM) (tC:Ft A kM) (x:Tup A.ah [.x .poly,.i]):Ot A Hg:=
 B.j jM jN (x.1,()) fun x0=>
 B.k (B.N (B.N x0.1)) tu tC (x.2.1,()) fun x1=>
 B.c (B.a (B.N x0.1) B.T (B.N x1.1)) (B.r (A.aN .mono,()))<|
 B.s (.l .mono) (A.lst .mono []) fun x2=>
 B.i B.z fun x3=>
 B.I [.i,.i,.x .poly,.l .mono] (fun x4=>
 B.c (B.l x4.2.1 (B.y .mono (B.D .poly 0 .mono x4.2.2.1))) (B.w .mono (B.D .poly 0 .mono x4.2.2.1) x4.2.1<|
 B.j tF tH (B.t (B.f .mono 0 (B.o .mono (B.D .poly 0 .mono x4.2.2.1) x4.2.1)) x4.1,()) fun x5=>
 B.i x5.1 fun x6=>
 A.bind [.i,.i,.x .poly,.l .mono] (B.c (B.g x6.1 B.z) (B.w .mono (B.D .poly 0 .mono x4.2.2.1) x4.2.1<|
 B.s (.l .mono) (A.lst .mono [B.x .mono (x6.1,B.D .mono 1 .i64 (B.o .mono (B.D .poly 0 .mono x4.2.2.1) x4.2.1),())]) fun x7=>
 B.C (B.m (A.addN (B.y .mono x4.2.2.2.1) (B.y .mono x7.1)) (B.n 1073741824))<|
 B.s (.l .mono) (A.app .mono x4.2.2.2.1 x7.1) fun x8=>
 B.r (x4.1,x4.2.1,x4.2.2.1,x8.1,()))<|
 B.r (x4.1,x4.2.1,x4.2.2.1,x4.2.2.2.1,())) fun x7=>
 B.i (B.p x7.2.1 B.u) fun x8=>
 B.L (x7.1,x8.1,x7.2.2.1,x7.2.2.2.1,()))<|
 B.R<|B.j gF gG (x4.2.2.2.1,()) fun x5=>
 B.r (x5.1,())) (x.2.1,x3.1,x.1,x2.1,())
def Vu (x:Tup A.ah [.l .i64,.l .i64]):Ot A Hl:=
 B.s (.l .i64) (A.lst .i64 []) fun x0=>
 B.i B.z fun x1=>
 B.i B.z fun x2=>
 B.I [.l .i64,.l .i64,.i,.i,.l .i64] (fun x3=>
 B.c (B.l x3.2.2.2.1 (B.y .i64 x3.2.1)) (B.I [.l .i64,.l .i64,.i,.i,.l .i64] (fun x4=>
 B.C (B.O (B.N (B.l x4.2.2.1 (B.y .i64 x4.1))) (B.m B.z x4.2.2.1))<|
 B.C (B.O (B.N (B.l x4.2.2.1 (B.y .i64 x4.1))) (B.l x4.2.2.1 (B.y .i64 x4.1)))<|
 B.C (B.O (B.N (B.l x4.2.2.1 (B.y .i64 x4.1))) (B.m B.z x4.2.2.2.1))<|
 B.C (B.O (B.N (B.l x4.2.2.1 (B.y .i64 x4.1))) (B.l x4.2.2.2.1 (B.y .i64 x4.2.1)))<|
 B.c (B.a (B.l x4.2.2.1 (B.y .i64 x4.1)) (B.m (B.f .i64 0 (B.o .i64 x4.1 x4.2.2.1)) (B.f .i64 0 (B.o .i64 x4.2.1 x4.2.2.2.1))) B.F) (B.w .i64 x4.1 x4.2.2.1<|
 B.s (.l .i64) (A.lst .i64 [B.x .i64 (B.f .i64 0 (B.o .i64 x4.1 x4.2.2.1),())]) fun x5=>
 B.C (B.m (A.addN (B.y .i64 x4.q.1) (B.y .i64 x5.1)) (B.n 1073741824))<|
 B.s (.l .i64) (A.app .i64 x4.q.1 x5.1) fun x6=>
 B.i (B.p x4.2.2.1 B.u) fun x7=>
 B.L (x4.1,x4.2.1,x7.1,x4.2.2.2.1,x6.1,()))<|
 B.R<|B.w .i64 x4.2.1 x4.2.2.2.1<|
 B.s (.l .i64) (A.lst .i64 [B.x .i64 (B.f .i64 0 (B.o .i64 x4.2.1 x4.2.2.2.1),())]) fun x5=>
 B.C (B.m (A.addN (B.y .i64 x4.q.1) (B.y .i64 x5.1)) (B.n 1073741824))<|
 B.s (.l .i64) (A.app .i64 x4.q.1 x5.1) fun x6=>
 B.i (B.p x4.2.2.2.1 B.u) fun x7=>
 B.L (x4.1,x4.2.1,x4.2.2.1,x7.1,x6.1,())) (x3.1,x3.2.1,x3.2.2.1,x3.2.2.2.1,x3.q.1,()))<|
 B.R<|B.C (B.m B.z x3.2.2.1)<|
 B.C (B.m x3.2.2.1 (B.y .i64 x3.1))<|
 B.C (B.m (B.y .i64 x3.1) (B.y .i64 x3.1))<|
 B.C (B.m (A.addN (B.y .i64 x3.q.1) (B.y .i64 (A.sub .i64 x3.1 x3.2.2.1 (B.y .i64 x3.1)))) (B.n 1073741824))<|
 B.s (.l .i64) (A.app .i64 x3.q.1 (A.sub .i64 x3.1 x3.2.2.1 (B.y .i64 x3.1))) fun x4=>
 B.r (x4.1,())) (x.1,x.2.1,x1.1,x2.1,x0.1,())
def Vv (jM:Pt A iq) (jN:Ft A iq) (tF:Pt A kP) (tH:Ft A kP) (Vp:Pt A vY) (Vq:Ft A vY) (ako:Pt A Hl) (akp:Ft A Hl) (Vr:Pt A vZ) (Vs:Ft A vZ) (x:Tup A.ah [.x .poly,.x .poly]):Ot A Ho:=
 B.b B.F fun x0=>
 B.j jM jN (x.1,()) fun x1=>
 B.k (B.N (B.N x1.1)) jM jN (x.2.1,()) fun x2=>
 B.c (B.a (B.N x1.1) B.T (B.N x2.1)) (B.b B.F fun x3=>
 B.r (x3.1,A.aN .mono,()))<|
 B.s (.l .mono) (A.lst .mono []) fun x3=>
 B.i B.z fun x4=>
 B.I [.i,.x .poly,.x .poly,.l .mono] (fun x5=>
 B.c (B.l x5.1 (B.y .mono (B.D .poly 0 .mono x5.2.1))) (B.i B.z fun x6=>
 B.I [.i,.i,.x .poly,.x .poly,.l .mono] (fun x7=>
 B.c (B.l x7.2.1 (B.y .mono (B.D .poly 0 .mono x7.2.2.2.1))) (B.w .mono (B.D .poly 0 .mono x7.2.2.1) x7.1<|
 B.w .mono (B.D .poly 0 .mono x7.2.2.2.1) x7.2.1<|
 B.j tF tH (B.t (B.f .mono 0 (B.o .mono (B.D .poly 0 .mono x7.2.2.1) x7.1)) (B.f .mono 0 (B.o .mono (B.D .poly 0 .mono x7.2.2.2.1) x7.2.1)),()) fun x8=>
 B.i x8.1 fun x9=>
 A.bind [.i,.i,.x .poly,.x .poly,.l .mono] (B.c (B.g x9.1 B.z) (B.w .mono (B.D .poly 0 .mono x7.2.2.1) x7.1<|
 B.w .mono (B.D .poly 0 .mono x7.2.2.2.1) x7.2.1<|
 B.j ako akp (B.D .mono 1 .i64 (B.o .mono (B.D .poly 0 .mono x7.2.2.1) x7.1),B.D .mono 1 .i64 (B.o .mono (B.D .poly 0 .mono x7.2.2.2.1) x7.2.1),()) fun x10=>
 B.j Vp Vq (x7.q.1,B.x .mono (x9.1,x10.1,()),()) fun x11=>
 B.r (x7.1,x7.2.1,x7.2.2.1,x7.2.2.2.1,x11.1,()))<|
 B.r (x7.1,x7.2.1,x7.2.2.1,x7.2.2.2.1,x7.q.1,())) fun x10=>
 B.i (B.p x10.2.1 B.u) fun x11=>
 B.L (x10.1,x11.1,x10.2.2.1,x10.2.2.2.1,x10.q.1,()))<|
 B.R<|B.i (B.p x7.1 B.u) fun x8=>
 B.L (x8.1,x7.2.2.1,x7.2.2.2.1,x7.q.1,())) (x5.1,x6.1,x5.2.1,x5.2.2.1,x5.2.2.2.1,()))<|
 B.R<|B.j Vr Vs (x5.2.2.2.1,()) fun x6=>
 B.b x6.1 fun x7=>
 B.r (x7.1,x6.2.1,())) (x4.1,x.1,x.2.1,x3.1,())
def Vw (akq:Pt A Ho) (akr:Ft A Ho) (acH:Pt A G9) (acI:Ft A G9) (aks:Pt A Hg) (akt:Ft A Hg) (x:Tup A.ah [.i,.x .poly,.x .poly]):Ot A Hq:=
 B.b B.F fun x0=>
 B.b (B.e x.1 B.u) fun x1=>
 B.c x1.1 (B.j acH acI (x.2.1,x.2.2.1,()) fun x2=>
 B.b x2.1 fun x3=>
 B.r (x3.1,x2.2.1,()))<|
 B.b (B.e x.1 (B.n 2)) fun x2=>
 B.c x2.1 (B.j aks akt (x.2.2.1,B.n 65535,()) fun x3=>
 B.j acH acI (x.2.1,B.x .poly (x3.1,()),()) fun x4=>
 B.b x4.1 fun x5=>
 B.r (x5.1,x4.2.1,()))<|
 B.b (B.e x.1 (B.n 3)) fun x3=>
 B.c x3.1 (B.j akq akr (x.2.1,x.2.2.1,()) fun x4=>
 B.b x4.1 fun x5=>
 B.r (x5.1,x4.2.1,()))<|
 B.b B.F fun x4=>
 B.r (x4.1,A.aN .mono,())
def Vx (jM:Pt A iq) (jN:Ft A iq) (x:Tup A.ah [.x .poly]):Ot A og:=
 B.i B.z fun x0=>
 B.b B.F fun x1=>
 B.j jM jN (x.1,()) fun x2=>
 B.c (B.N x2.1) (B.i B.z fun x3=>
 B.b B.F fun x4=>
 B.r (x3.1,x4.1,()))<|
 B.c (B.e (B.y .mono (B.D .poly 0 .mono x.1)) B.z) (B.i B.z fun x3=>
 B.b B.T fun x4=>
 B.r (x3.1,x4.1,()))<|
 B.C (B.O (B.N (B.N (B.g (B.y .mono (B.D .poly 0 .mono x.1)) B.u))) (B.m B.z B.z))<|
 B.C (B.O (B.N (B.N (B.g (B.y .mono (B.D .poly 0 .mono x.1)) B.u))) (B.l B.z (B.y .mono (B.D .poly 0 .mono x.1))))<|
 B.c (B.a (B.g (B.y .mono (B.D .poly 0 .mono x.1)) B.u) B.T (B.g (B.y .i64 (B.D .mono 1 .i64 (B.o .mono (B.D .poly 0 .mono x.1) B.z))) B.z)) (B.i B.z fun x3=>
 B.b B.F fun x4=>
 B.r (x3.1,x4.1,()))<|
 B.w .mono (B.D .poly 0 .mono x.1) B.z<|
 B.i (B.f .mono 0 (B.o .mono (B.D .poly 0 .mono x.1) B.z)) fun x3=>
 B.b B.T fun x4=>
 B.r (x3.1,x4.1,())
def Vy (tF:Pt A kP) (tH:Ft A kP) (tu:Pt A kM) (tC:Ft A kM) (x:Tup A.ah [.i,.i,.i]):Ot A wm:=
 B.i B.z fun x0=>
 B.j tu tC (x.2.1,()) fun x1=>
 B.k (B.N (B.N x1.1)) tu tC (x.2.2.1,()) fun x2=>
 B.c (B.a (B.N x1.1) B.T (B.N x2.1)) (B.i B.z fun x3=>
 B.r (x3.1,()))<|
 B.b (B.e x.1 B.u) fun x3=>
 B.c x3.1 (B.j tF tH (B.p x.2.1 x.2.2.1,()) fun x4=>
 B.i x4.1 fun x5=>
 B.r (x5.1,()))<|
 B.b (B.e x.1 (B.n 2)) fun x4=>
 B.c x4.1 (B.j tF tH (B.q x.2.1 x.2.2.1,()) fun x5=>
 B.i x5.1 fun x6=>
 B.r (x6.1,()))<|
 B.b (B.e x.1 (B.n 3)) fun x5=>
 B.c x5.1 (B.j tF tH (B.t x.2.1 x.2.2.1,()) fun x6=>
 B.i x6.1 fun x7=>
 B.r (x7.1,()))<|
 B.b (B.e x.1 (B.n 4)) fun x6=>
 B.c x6.1 (B.i (A.arith .and .i64 x.2.1 x.2.2.1) fun x7=>
 B.r (x7.1,()))<|
 B.b (B.e x.1 (B.n 5)) fun x7=>
 B.c x7.1 (B.i (A.arith .xor .i64 x.2.1 x.2.2.1) fun x8=>
 B.r (x8.1,()))<|
 B.i B.z fun x8=>
 B.r (x8.1,())
def Vz (gF:Pt A dQ) (gG:Ft A dQ) (x:Tup A.ah [.i,.i,.x .poly]):Ot A Hr:=
 B.b B.F fun x0=>
 B.c (B.a (B.e x.1 (B.n 4)) (B.e x.2.1 B.z) B.F) (B.b B.T fun x1=>
 B.r (x1.1,A.aN .mono,()))<|
 B.c (B.a (B.a (B.e x.1 (B.n 4)) (B.e x.2.1 (B.n 65535)) B.F) B.T (B.a (B.e x.1 (B.n 5)) (B.e x.2.1 B.z) B.F)) (B.j gF gG (B.D .poly 0 .mono x.2.2.1,()) fun x1=>
 B.b B.T fun x2=>
 B.r (x2.1,x1.1,()))<|
 B.b B.F fun x1=>
 B.r (x1.1,A.aN .mono,())
def VA (je:Pt A gB) (jf:Ft A gB) (gF:Pt A dQ) (gG:Ft A dQ) (VB:Pt A wm) (VD:Ft A wm) (VE:Pt A vX) (VF:Ft A vX) (AL:Pt A og) (AO:Ft A og) (acJ:Pt A Hr) (acK:Ft A Hr) (x:Tup A.ah [.i,.x .poly,.x .poly]):Ot A Ht:=
 B.b B.F fun x0=>
 B.j AL AO (x.2.1,()) fun x1=>
 B.i x1.1 fun x2=>
 B.b x1.2.1 fun x3=>
 B.j AL AO (x.2.2.1,()) fun x4=>
 B.i x4.1 fun x5=>
 B.b x4.2.1 fun x6=>
 B.c (B.a x3.1 x6.1 B.F) (B.j VB VD (x.1,x2.1,x5.1,()) fun x7=>
 B.j VE VF (x7.1,()) fun x8=>
 B.b B.T fun x9=>
 B.r (x9.1,x8.1,()))<|
 B.j je jf (x.2.1,x.2.2.1,()) fun x7=>
 B.c (B.e x7.1 B.z) (B.c (B.e x.1 (B.n 4)) (B.j gF gG (B.D .poly 0 .mono x.2.1,()) fun x8=>
 B.b B.T fun x9=>
 B.r (x9.1,x8.1,()))<|
 B.b B.T fun x8=>
 B.r (x8.1,A.aN .mono,()))<|
 B.c x3.1 (B.j acJ acK (x.1,x2.1,x.2.2.1,()) fun x8=>
 B.b x8.1 fun x9=>
 B.r (x9.1,x8.2.1,()))<|
 B.c x6.1 (B.j acJ acK (x.1,x5.1,x.2.1,()) fun x8=>
 B.b x8.1 fun x9=>
 B.r (x9.1,x8.2.1,()))<|
 B.b B.F fun x8=>
 B.r (x8.1,A.aN .mono,())
def VG (AB:Pt A kN) (AJ:Ft A kN) (je:Pt A gB) (jf:Ft A gB) (aku:Pt A Hq) (akv:Ft A Hq) (akw:Pt A Ht) (akx:Ft A Ht) (Jo:Pt A nZ) (Jp:Ft A nZ) (x:Tup A.ah [.i,.x .poly,.x .poly,.l .atom]):Ot A Hu:=
 B.j aku akv (x.1,x.2.1,x.2.2.1,()) fun x0=>
 B.b x0.1 fun x1=>
 A.bind [.i,.b,.l .atom,.x .poly,.x .poly,.l .mono] (B.c (B.a (B.e x.1 (B.n 4)) B.T (B.e x.1 (B.n 5))) (B.j akw akx (x.1,x.2.1,x.2.2.1,()) fun x2=>
 B.b x2.1 fun x3=>
 B.r (x.1,x3.1,x.2.2.2.1,x.2.1,x.2.2.1,x2.2.1,()))<|
 B.r (x.1,x1.1,x.2.2.2.1,x.2.1,x.2.2.1,x0.2.1,())) fun x2=>
 B.c x2.2.1 (B.r (x2.2.2.1,x2.q.2.1,()))<|
 B.k (B.d x2.1 (B.n 2)) je jf (x2.2.2.2.1,x2.q.1,()) fun x3=>
 A.bind [.l .atom,.i,.i,.l .mono,.l .mono] (B.c (B.a (B.d x2.1 (B.n 2)) (B.g x3.1 B.z) B.F) (B.r (x2.2.2.1,B.n 4,x2.1,B.D .poly 0 .mono x2.q.1,B.D .poly 0 .mono x2.2.2.2.1,()))<|
 B.r (x2.2.2.1,B.n 4,x2.1,B.D .poly 0 .mono x2.2.2.2.1,B.D .poly 0 .mono x2.q.1,())) fun x4=>
 B.j Jo Jp (B.x .atom (x4.2.1,x4.2.2.1,x4.2.2.2.1,x4.q.1,()),x4.1,()) fun x5=>
 B.i x5.1 fun x6=>
 B.c (B.l x6.1 B.z) (B.r (A.aN .atom,A.aN .mono,()))<|
 B.j AB AJ (x6.1,()) fun x7=>
 B.r (x5.2.1,x7.1,())
def VH (x:Tup A.ah [.l .ev,.i]):Ot A Hw:=
 B.i B.z fun x0=>
 B.i B.z fun x1=>
 B.i B.z fun x2=>
 B.I [.l .ev,.i,.i,.i] (fun x3=>
 B.c (B.l x3.2.2.2.1 (B.y .ev x3.1)) (B.w .ev x3.1 x3.2.2.2.1<|
 A.bind [.l .ev,.i,.i,.i] (B.c (B.e (B.f .ev 0 (B.o .ev x3.1 x3.2.2.2.1)) x3.2.1) (B.i (B.p x3.2.2.1 B.u) fun x4=>
 B.r (x3.1,x3.2.1,x4.1,x3.2.2.2.1,()))<|
 B.r (x3.1,x3.2.1,x3.2.2.1,x3.2.2.2.1,())) fun x4=>
 B.i (B.p x4.2.2.2.1 B.u) fun x5=>
 B.L (x4.1,x4.2.1,x4.2.2.1,x5.1,()))<|
 B.R<|B.i x3.2.2.1 fun x4=>
 B.r (x4.1,())) (x.1,x.2.1,x1.1,x2.1,())
def VI (AB:Pt A kN) (AJ:Ft A kN) (Jo:Pt A nZ) (Jp:Ft A nZ) (aky:Pt A Hw) (akz:Ft A Hw) (x:Tup A.ah [.l .ev,.i,.l .atom]):Ot A Hy:=
 B.j aky akz (x.1,x.2.1,()) fun x0=>
 A.bind [.l .atom,.i,.i] (B.c (B.e x.2.1 (B.n 6)) (B.i (B.n 3) fun x1=>
 B.r (x.2.2.1,x1.1,x0.1,()))<|
 B.r (x.2.2.1,B.n 2,x0.1,())) fun x1=>
 B.j Jo Jp (B.x .atom (x1.2.1,x1.2.2.1,A.aN .mono,A.aN .mono,()),x1.1,()) fun x2=>
 B.i x2.1 fun x3=>
 B.j AB AJ (x3.1,()) fun x4=>
 B.r (x2.2.1,x4.1,())
def VJ (gF:Pt A dQ) (gG:Ft A dQ) (x:Tup A.ah [.l .poly]):Ot A oh:=
 B.s (.l .poly) (A.lst .poly []) fun x0=>
 B.i B.z fun x1=>
 B.I [.l .poly,.i,.l .poly] (fun x2=>
 B.c (B.l x2.2.1 (B.y .poly x2.1)) (B.w .poly x2.1 x2.2.1<|
 B.j gF gG (B.D .poly 0 .mono (B.o .poly x2.1 x2.2.1),()) fun x3=>
 B.s (.l .poly) (A.lst .poly [B.x .poly (x3.1,())]) fun x4=>
 B.C (B.m (A.addN (B.y .poly x2.2.2.1) (B.y .poly x4.1)) (B.n 1073741824))<|
 B.s (.l .poly) (A.app .poly x2.2.2.1 x4.1) fun x5=>
 B.i (B.p x2.2.1 B.u) fun x6=>
 B.L (x2.1,x6.1,x5.1,()))<|
 B.R<|B.r (x2.2.2.1,())) (x.1,x1.1,x0.1,())
def VK (gF:Pt A dQ) (gG:Ft A dQ) (Dk:Pt A oh) (Dl:Ft A oh) (x:Tup A.ah [.x .iop,.x .poly,.x .poly,.l .poly]):Ot A Hz:=
 A.bind [.l .poly,.x .iop,.x .poly,.i,.i,.i,.i,.l .mono] (B.c (B.d (B.f .iop 0 x.1) (B.n 6)) (B.j gF gG (B.D .poly 0 .mono x.2.1,()) fun x0=>
 B.r (x.2.2.2.1,x.1,x.2.2.1,B.z,B.z,B.f .iop 0 x.1,B.f .iop 4 x.1,x0.1,()))<|
 B.r (x.2.2.2.1,x.1,x.2.2.1,B.z,B.z,B.f .iop 0 x.1,B.f .iop 4 x.1,A.aN .mono,())) fun x0=>
 A.bind [.l .poly,.x .iop,.i,.i,.i,.i,.l .mono,.l .mono] (B.c (B.e (B.f .iop 0 x0.2.1) (B.n 5)) (B.j gF gG (B.D .poly 0 .mono x0.2.2.1,()) fun x1=>
 B.r (x0.1,x0.2.1,x0.2.2.2.1,x0.q.1,x0.q.2.1,x0.q.2.2.1,x0.q.2.2.2.1,x1.1,()))<|
 B.r (x0.1,x0.2.1,x0.2.2.2.1,x0.q.1,x0.q.2.1,x0.q.2.2.1,x0.q.2.2.2.1,A.aN .mono,())) fun x1=>
 A.bind [.i,.i,.i,.i,.l .mono,.l .mono,.l .poly] (B.c (B.a (B.e (B.f .iop 0 x1.2.1) (B.n 4)) B.T (B.e (B.f .iop 0 x1.2.1) (B.n 5))) (B.j Dk Dl (x1.1,()) fun x2=>
 B.r (x1.2.2.1,x1.2.2.2.1,x1.q.1,x1.q.2.1,x1.q.2.2.1,x1.q.2.2.2.1,x2.1,()))<|
 B.r (x1.2.2.1,x1.2.2.2.1,x1.q.1,x1.q.2.1,x1.q.2.2.1,x1.q.2.2.2.1,A.aN .poly,())) fun x2=>
 B.r (x2.2.2.1,x2.2.2.2.1,x2.q.1,x2.q.2.1,x2.q.2.2.1,())
def VL (x:Tup A.ah [.x .blk]):Ot A HV:=
 B.i B.z fun x0=>
 B.c (B.e (B.f .blk 3 x.1) B.u) (B.i (B.n (-1)) fun x1=>
 B.r (x1.1,()))<|
 B.i (B.f .blk 4 x.1) fun x1=>
 B.r (x1.1,())
def VN (x:Tup A.ah [.x .blk]):Ot A HZ:=
 B.i B.z fun x0=>
 B.c (B.a (B.e (B.f .blk 3 x.1) B.u) B.T (B.e (B.f .blk 3 x.1) (B.n 2))) (B.i (B.n (-1)) fun x1=>
 B.r (x1.1,()))<|
 B.i (B.f .blk 5 x.1) fun x1=>
 B.r (x1.1,())
def VO (x:Tup A.ah [.x .sym,.i]):Ot A wo:=
 B.i B.u fun x0=>
 B.i x.2.1 fun x1=>
 B.r (B.D .sym 0 .ev x.1,B.D .sym 1 .poly x.1,x0.1,x1.1,())
def VP (AL:Pt A og) (AO:Ft A og) (je:Pt A gB) (jf:Ft A gB) (NR:Pt A wo) (NS:Ft A wo) (x:Tup A.ah [.x .sym,.i]):Ot A H6:=
 B.j AL AO (B.x .poly (B.D .sym 3 .mono x.1,()),()) fun x0=>
 B.i x0.1 fun x1=>
 B.b x0.2.1 fun x2=>
 B.j AL AO (B.x .poly (B.D .sym 4 .mono x.1,()),()) fun x3=>
 B.i x3.1 fun x4=>
 B.b x3.2.1 fun x5=>
 B.j je jf (B.x .poly (B.D .sym 3 .mono x.1,()),B.x .poly (B.D .sym 4 .mono x.1,()),()) fun x6=>
 B.b (B.e x6.1 B.z) fun x7=>
 B.b (B.a x7.1 (B.e (B.f .sym 2 x.1) (B.n 3)) B.F) fun x8=>
 A.bind [.i,.b,.b,.b,.b,.x .sym,.i,.i] (B.c x8.1 (B.r (x.2.1,x2.1,x5.1,x7.1,x8.1,x.1,B.z,B.z,()))<|
 B.b (B.a (B.a (B.a x2.1 x5.1 B.F) (B.e (B.f .sym 2 x.1) (B.n 4)) B.F) (B.l x1.1 x4.1) B.F) fun x9=>
 B.r (x.2.1,x2.1,x5.1,x7.1,x9.1,x.1,B.z,B.z,())) fun x9=>
 B.c x9.q.1 (B.j NR NS (x9.q.2.1,B.f .sym 5 x9.q.2.1,()) fun x10=>
 B.r (B.x .sym (x10.1,x10.2.1,x10.2.2.1,A.aN .mono,A.aN .mono,x10.2.2.2.1,()),()))<|
 B.b x9.2.2.2.1 fun x10=>
 A.bind [.i,.b,.x .sym,.i,.i] (B.c x10.1 (B.r (x9.1,x10.1,x9.q.2.1,x9.q.2.2.1,x9.q.2.2.2.1,()))<|
 B.b (B.a x9.2.1 x9.2.2.1 B.F) fun x11=>
 B.r (x9.1,x11.1,x9.q.2.1,x9.q.2.2.1,x9.q.2.2.2.1,())) fun x11=>
 B.c x11.2.1 (B.j NR NS (x11.2.2.1,x11.1,()) fun x12=>
 B.r (B.x .sym (x12.1,x12.2.1,x12.2.2.1,A.aN .mono,A.aN .mono,x12.2.2.2.1,()),()))<|
 B.k (B.e (B.f .sym 2 x11.2.2.1) (B.n 3)) je jf (B.x .poly (B.D .sym 3 .mono x11.2.2.1,()),B.x .poly (B.D .sym 4 .mono x11.2.2.1,()),()) fun x12=>
 A.bind [.x .sym,.i,.i] (B.c (B.a (B.e (B.f .sym 2 x11.2.2.1) (B.n 3)) (B.g x12.1 B.z) B.F) (B.r (B.x .sym (B.D .sym 0 .ev x11.2.2.1,B.D .sym 1 .poly x11.2.2.1,B.f .sym 2 x11.2.2.1,B.D .sym 4 .mono x11.2.2.1,B.D .sym 3 .mono x11.2.2.1,B.f .sym 5 x11.2.2.1,()),x11.2.2.2.1,x11.q.1,()))<|
 B.r (x11.2.2.1,x11.2.2.2.1,x11.q.1,())) fun x13=>
 B.s (.x .sym) x13.1 fun x14=>
 B.r (x14.1,())
def VQ (AL:Pt A og) (AO:Ft A og) (jM:Pt A iq) (jN:Ft A iq) (gF:Pt A dQ) (gG:Ft A dQ) (NR:Pt A wo) (NS:Ft A wo) (akA:Pt A H6) (akB:Ft A H6) (Dk:Pt A oh) (Dl:Ft A oh) (x:Tup A.ah [.x .sym,.i]):Ot A H7:=
 B.j jM jN (B.x .poly (B.D .sym 3 .mono x.1,()),()) fun x0=>
 B.k (B.N (B.N x0.1)) jM jN (B.x .poly (B.D .sym 4 .mono x.1,()),()) fun x1=>
 B.c (B.a (B.N x0.1) B.T (B.N x1.1)) (B.r (B.x .sym (A.aN .ev,A.aN .poly,B.z,A.aN .mono,A.aN .mono,B.z,()),()))<|
 B.s (.x .sym) x.1 fun x2=>
 B.s (.l .ev) (A.lst .ev []) fun x3=>
 B.i B.z fun x4=>
 B.I [.i,.i,.x .sym,.i,.i,.l .poly,.i,.l .mono,.l .mono,.i,.l .ev] (fun x5=>
 B.c (B.l x5.2.1 (B.y .ev (B.D .sym 0 .ev x5.2.2.1))) (B.w .ev (B.D .sym 0 .ev x5.2.2.1) x5.2.1<|
 B.s (.x .ev) (B.o .ev (B.D .sym 0 .ev x5.2.2.1) x5.2.1) fun x6=>
 B.j gF gG (B.D .ev 2 .mono x6.1,()) fun x7=>
 B.j gF gG (B.D .ev 3 .mono x6.1,()) fun x8=>
 B.j Dk Dl (B.D .ev 4 .poly x6.1,()) fun x9=>
 B.s (.l .ev) (A.lst .ev [B.x .ev (B.f .ev 0 x6.1,B.f .ev 1 x6.1,x7.1,x8.1,x9.1,())]) fun x10=>
 B.C (B.m (A.addN (B.y .ev x5.o.2.2.1) (B.y .ev x10.1)) (B.n 1073741824))<|
 B.s (.l .ev) (A.app .ev x5.o.2.2.1 x10.1) fun x11=>
 B.i (B.p x5.2.1 B.u) fun x12=>
 B.L (x5.1,x12.1,x5.2.2.1,x5.2.2.2.1,x5.q.1,x5.q.2.1,x5.q.2.2.1,x5.q.2.2.2.1,x5.o.1,x5.o.2.1,x11.1,()))<|
 B.R<|B.j Dk Dl (B.D .sym 1 .poly x5.2.2.1,()) fun x6=>
 B.j gF gG (B.D .sym 3 .mono x5.2.2.1,()) fun x7=>
 B.j gF gG (B.D .sym 4 .mono x5.2.2.1,()) fun x8=>
 B.b (B.e (B.f .sym 2 x5.2.2.1) (B.n 2)) fun x9=>
 A.kZ [.i,.i,.i,.i,.l .ev,.l .poly,.l .mono,.l .mono] (B.c x9.1 (B.j AL AO (B.x .poly (B.D .sym 3 .mono x5.2.2.1,()),()) fun x10=>
 B.i x10.1 fun x11=>
 B.b x10.2.1 fun x12=>
 B.c x12.1 (B.j NR NS (B.x .sym (x5.o.2.2.1,x6.1,x5.q.2.2.1,x7.1,x8.1,x5.o.2.1,()),x11.1,()) fun x13=>
 B.R<|B.r (B.x .sym (x13.1,x13.2.1,x13.2.2.1,A.aN .mono,A.aN .mono,x13.2.2.2.1,()),()))<|
 B.L (x5.2.2.2.1,x5.q.1,x5.q.2.2.1,x5.o.2.1,x5.o.2.2.1,x6.1,x7.1,x8.1,()))<|
 B.b (B.e (B.f .sym 2 x5.2.2.1) (B.n 3)) fun x10=>
 A.bind [.i,.b,.i,.i,.i,.i,.l .ev,.l .poly,.l .mono,.l .mono] (B.c x10.1 (B.r (x5.1,x10.1,x5.2.2.2.1,x5.q.1,x5.q.2.2.1,x5.o.2.1,x5.o.2.2.1,x6.1,x7.1,x8.1,()))<|
 B.b (B.e (B.f .sym 2 x5.2.2.1) (B.n 4)) fun x11=>
 B.r (x5.1,x11.1,x5.2.2.2.1,x5.q.1,x5.q.2.2.1,x5.o.2.1,x5.o.2.2.1,x6.1,x7.1,x8.1,())) fun x11=>
 B.c x11.2.1 (B.j akA akB (B.x .sym (x11.q.2.2.1,x11.q.2.2.2.1,x11.q.1,x11.o.1,x11.o.2.1,x11.q.2.1,()),x11.1,()) fun x12=>
 B.s (.x .sym) x12.1 fun x13=>
 B.R<|B.r (x13.1,()))<|
 B.L (x11.2.2.1,x11.2.2.2.1,x11.q.1,x11.q.2.1,x11.q.2.2.1,x11.q.2.2.2.1,x11.o.1,x11.o.2.1,())) fun x10=>
 B.r (B.x .sym (x10.q.1,x10.q.2.1,x10.2.2.1,x10.q.2.2.1,x10.q.2.2.2.1,x10.2.2.2.1,()),())) (x.2.1,x4.1,x.1,B.z,B.z,B.D .sym 1 .poly x2.1,B.f .sym 2 x2.1,B.D .sym 3 .mono x2.1,B.D .sym 4 .mono x2.1,B.f .sym 5 x2.1,x3.1,())
def VR (jB:Pt A fE) (jC:Ft A fE) (AB:Pt A kN) (AJ:Ft A kN) (VE:Pt A vX) (VF:Ft A vX) (akC:Pt A H7) (akD:Ft A H7) (VT:Pt A vT) (VU:Ft A vT) (akE:Pt A G6) (akF:Ft A G6) (gF:Pt A dQ) (gG:Ft A dQ) (akG:Pt A G7) (akH:Ft A G7) (akI:Pt A Hu) (akJ:Ft A Hu) (Jo:Pt A nZ) (Jp:Ft A nZ) (akK:Pt A Hy) (akL:Ft A Hy) (akM:Pt A Hz) (akN:Ft A Hz) (NT:Pt A G8) (NU:Ft A G8) (Dk:Pt A oh) (Dl:Ft A oh) (akO:Pt A HV) (akP:Ft A HV) (akQ:Pt A HZ) (akR:Ft A HZ) (x:Tup A.ah [.x .tab,.x .blk]):Ot A H8:=
 B.j akE akF (x.1,()) fun x0=>
 B.k (B.N (B.N x0.1)) jB jC (x.2.1,()) fun x1=>
 B.c (B.a (B.a (B.N x0.1) B.T (B.N x1.1)) B.T (B.g (B.y .atom (B.D .tab 0 .atom x.1)) (B.n 100))) (B.r (B.x .tab (A.aN .atom,()),B.x .sym (A.aN .ev,A.aN .poly,B.z,A.aN .mono,A.aN .mono,B.z,()),()))<|
 B.j akG akH (x.1,()) fun x2=>
 B.j VT VU () fun x3=>
 B.i B.z fun x4=>
 B.I [.i,.x .blk,.i,.i,.i,.i,.l .poly,.l .atom] (fun x5=>
 B.c (B.l x5.1 (B.n 4)) (B.j Jo Jp (B.x .atom (B.u,x5.1,A.aN .mono,A.aN .mono,()),x5.q.2.2.2.1,()) fun x6=>
 B.i x6.1 fun x7=>
 B.j AB AJ (x7.1,()) fun x8=>
 B.w .poly x5.q.2.2.1 x5.1<|
 B.w .poly x5.q.2.2.1 x5.1<|
 B.i (B.p x5.1 B.u) fun x9=>
 B.L (x9.1,x5.2.1,x5.2.2.1,x5.2.2.2.1,x5.q.1,x5.q.2.1,A.set .poly x5.q.2.2.1 x5.1 (B.x .poly (x8.1,())),x6.2.1,()))<|
 B.R<|B.s (.l .poly) (A.lst .poly []) fun x6=>
 B.i B.z fun x7=>
 B.I [.i,.x .blk,.i,.i,.i,.i,.l .poly,.l .poly,.l .atom,.l .ev] (fun x8=>
 B.c (B.l x8.1 (B.y .iop (B.D .blk 2 .iop x8.2.1))) (B.w .iop (B.D .blk 2 .iop x8.2.1) x8.1<|
 B.s (.x .iop) (B.o .iop (B.D .blk 2 .iop x8.2.1) x8.1) fun x9=>
 B.j NT NU (B.f .iop 1 x9.1,x8.q.2.2.2.1,()) fun x10=>
 B.s (.x .poly) x10.1 fun x11=>
 B.j NT NU (B.f .iop 2 x9.1,x10.2.1,()) fun x12=>
 B.s (.x .poly) x12.1 fun x13=>
 B.b (B.e (B.f .iop 0 x9.1) B.u) fun x14=>
 A.bind [.i,.x .blk,.i,.i,.i,.i,.l .poly,.l .poly,.x .poly,.l .atom,.l .ev] (B.c x14.1 (B.j VE VF (B.f .iop 3 x9.1,()) fun x15=>
 B.r (x8.1,x8.2.1,x8.2.2.1,x8.2.2.2.1,x8.q.1,x8.q.2.1,x8.q.2.2.1,x12.2.1,B.x .poly (x15.1,()),x8.o.1,x8.o.2.1,()))<|
 B.b (B.e (B.f .iop 0 x9.1) (B.n 2)) fun x15=>
 A.bind [.i,.x .blk,.i,.i,.i,.i,.l .poly,.l .poly,.x .poly,.l .atom,.l .ev] (B.c x15.1 (B.w .poly x8.q.2.2.1 (B.f .iop 3 x9.1)<|
 B.w .poly x8.q.2.2.1 (B.f .iop 3 x9.1)<|
 B.s (.x .poly) (B.o .poly x8.q.2.2.1 (B.f .iop 3 x9.1)) fun x16=>
 B.r (x8.1,x8.2.1,x8.2.2.1,x8.2.2.2.1,x8.q.1,x8.q.2.1,x8.q.2.2.1,x12.2.1,x16.1,x8.o.1,x8.o.2.1,()))<|
 B.b (B.e (B.f .iop 0 x9.1) (B.n 8)) fun x16=>
 A.bind [.i,.x .blk,.i,.i,.i,.i,.l .poly,.l .poly,.l .atom,.l .ev,.l .mono] (B.c x16.1 (B.w .poly x8.q.2.2.1 (B.f .iop 3 x9.1)<|
 B.w .poly x8.q.2.2.1 (B.f .iop 3 x9.1)<|
 B.s (.x .poly) x11.1 fun x17=>
 B.r (x8.1,x8.2.1,x8.2.2.1,x8.2.2.2.1,x8.q.1,x8.q.2.1,A.set .poly x8.q.2.2.1 (B.f .iop 3 x9.1) x17.1,x12.2.1,x8.o.1,x8.o.2.1,A.aN .mono,()))<|
 B.b (B.e (B.f .iop 0 x9.1) (B.n 3)) fun x17=>
 A.bind [.i,.x .blk,.i,.i,.i,.i,.l .poly,.l .poly,.l .atom,.l .ev,.l .mono] (B.c x17.1 (B.j akI akJ (B.f .iop 3 x9.1,x11.1,x13.1,x8.o.1,()) fun x18=>
 B.r (x8.1,x8.2.1,x8.2.2.1,x8.2.2.2.1,x8.q.1,x8.q.2.1,x8.q.2.2.1,x12.2.1,x18.1,x8.o.2.1,x18.2.1,()))<|
 A.bind [.i,.x .blk,.i,.i,.i,.i,.l .poly,.l .poly,.x .iop,.x .poly,.x .poly,.l .atom,.l .ev,.l .mono] (B.c (B.a (B.e (B.f .iop 0 x9.1) (B.n 4)) B.T (B.e (B.f .iop 0 x9.1) (B.n 6))) (B.j akK akL (x8.o.2.1,B.f .iop 0 x9.1,x8.o.1,()) fun x18=>
 B.r (x8.1,x8.2.1,x8.2.2.1,x8.2.2.2.1,x8.q.1,x8.q.2.1,x8.q.2.2.1,x12.2.1,x9.1,x11.1,x13.1,x18.1,x8.o.2.1,x18.2.1,()))<|
 B.r (x8.1,x8.2.1,x8.2.2.1,x8.2.2.2.1,x8.q.1,x8.q.2.1,x8.q.2.2.1,x12.2.1,x9.1,x11.1,x13.1,x8.o.1,x8.o.2.1,A.aN .mono,())) fun x18=>
 B.j akM akN (x18.o.1,x18.o.2.1,x18.o.2.2.1,x18.q.2.2.1,()) fun x19=>
 B.s (.l .ev) (A.lst .ev [B.x .ev (x19.1,x19.2.1,x19.2.2.1,x19.2.2.2.1,x19.q.1,())]) fun x20=>
 B.C (B.m (A.addN (B.y .ev x18.o.q.1) (B.y .ev x20.1)) (B.n 1073741824))<|
 B.s (.l .ev) (A.app .ev x18.o.q.1 x20.1) fun x21=>
 B.r (x18.1,x18.2.1,x18.2.2.1,x18.2.2.2.1,x18.q.1,x18.q.2.1,x18.q.2.2.1,x18.q.2.2.2.1,x18.o.2.2.2.1,x21.1,x18.o.q.2.1,())) fun x18=>
 B.r (x18.1,x18.2.1,x18.2.2.1,x18.2.2.2.1,x18.q.1,x18.q.2.1,x18.q.2.2.1,x18.q.2.2.2.1,x18.o.1,x18.o.2.1,x18.o.2.2.1,())) fun x17=>
 B.r (x17.1,x17.2.1,x17.2.2.1,x17.2.2.2.1,x17.q.1,x17.q.2.1,x17.q.2.2.1,x17.q.2.2.2.1,B.x .poly (x17.o.2.2.1,()),x17.o.1,x17.o.2.1,())) fun x16=>
 B.r (x16.1,x16.2.1,x16.2.2.1,x16.2.2.2.1,x16.q.1,x16.q.2.1,x16.q.2.2.1,x16.q.2.2.2.1,x16.o.1,x16.o.2.1,x16.o.2.2.1,())) fun x15=>
 B.s (.l .poly) (A.lst .poly [x15.o.1]) fun x16=>
 B.C (B.m (A.addN (B.y .poly x15.q.2.2.2.1) (B.y .poly x16.1)) (B.n 1073741824))<|
 B.s (.l .poly) (A.app .poly x15.q.2.2.2.1 x16.1) fun x17=>
 B.i (B.p x15.1 B.u) fun x18=>
 B.L (x18.1,x15.2.1,x15.2.2.1,x15.2.2.2.1,x15.q.1,x15.q.2.1,x15.q.2.2.1,x17.1,x15.o.2.1,x15.o.2.2.1,()))<|
 B.R<|B.j Dk Dl (x8.q.2.2.1,()) fun x9=>
 B.j akO akP (x8.2.1,()) fun x10=>
 B.j NT NU (x10.1,x8.q.2.2.2.1,()) fun x11=>
 B.j gF gG (B.D .poly 0 .mono x11.1,()) fun x12=>
 B.j akQ akR (x8.2.1,()) fun x13=>
 B.j NT NU (x13.1,x11.2.1,()) fun x14=>
 B.j gF gG (B.D .poly 0 .mono x14.1,()) fun x15=>
 B.j akC akD (B.x .sym (x8.o.2.1,x9.1,x8.q.1,x12.1,x15.1,x8.q.2.1,()),B.p (B.f .blk 0 x8.2.1) (B.f .blk 1 x8.2.1),()) fun x16=>
 B.s (.x .sym) x16.1 fun x17=>
 B.r (B.x .tab (x8.o.1,()),x17.1,())) (x7.1,x5.2.1,x5.2.2.1,x5.2.2.2.1,x5.q.1,x5.q.2.1,x5.q.2.2.1,x6.1,x5.q.2.2.2.1,A.aN .ev,())) (x4.1,x.2.1,B.z,B.z,B.f .blk 3 x.2.1,B.f .blk 6 x.2.1,x3.2.1,x2.1,())
def VW (je:Pt A gB) (jf:Ft A gB) (x:Tup A.ah [.l .poly,.l .poly]):Ot A wu:=
 B.b B.F fun x0=>
 B.c (B.d (B.y .poly x.1) (B.y .poly x.2.1)) (B.v B.F)<|
 B.i B.z fun x1=>
 B.I [.l .poly,.l .poly,.i] (fun x2=>
 B.c (B.l x2.2.2.1 (B.y .poly x2.1)) (B.w .poly x2.1 x2.2.2.1<|
 B.w .poly x2.2.1 x2.2.2.1<|
 B.j je jf (B.o .poly x2.1 x2.2.2.1,B.o .poly x2.2.1 x2.2.2.1,()) fun x3=>
 B.c (B.d x3.1 B.z) (B.b B.F fun x4=>
 B.R<|B.r (x4.1,()))<|
 B.i (B.p x2.2.2.1 B.u) fun x4=>
 B.L (x2.1,x2.2.1,x4.1,()))<|
 B.R<|B.v B.T) (x.1,x.2.1,x1.1,())
def VX (je:Pt A gB) (jf:Ft A gB) (VY:Pt A wu) (VZ:Ft A wu) (x:Tup A.ah [.x .ev,.x .ev]):Ot A H9:=
 B.b B.F fun x0=>
 B.k (B.a (B.e (B.f .ev 0 x.1) (B.f .ev 0 x.2.1)) (B.e (B.f .ev 1 x.1) (B.f .ev 1 x.2.1)) B.F) je jf (B.x .poly (B.D .ev 2 .mono x.1,()),B.x .poly (B.D .ev 2 .mono x.2.1,()),()) fun x1=>
 B.k (B.a (B.a (B.e (B.f .ev 0 x.1) (B.f .ev 0 x.2.1)) (B.e (B.f .ev 1 x.1) (B.f .ev 1 x.2.1)) B.F) (B.e x1.1 B.z) B.F) je jf (B.x .poly (B.D .ev 3 .mono x.1,()),B.x .poly (B.D .ev 3 .mono x.2.1,()),()) fun x2=>
 B.k (B.a (B.a (B.a (B.e (B.f .ev 0 x.1) (B.f .ev 0 x.2.1)) (B.e (B.f .ev 1 x.1) (B.f .ev 1 x.2.1)) B.F) (B.e x1.1 B.z) B.F) (B.e x2.1 B.z) B.F) VY VZ (B.D .ev 4 .poly x.1,B.D .ev 4 .poly x.2.1,()) fun x3=>
 B.v (B.a (B.a (B.a (B.a (B.e (B.f .ev 0 x.1) (B.f .ev 0 x.2.1)) (B.e (B.f .ev 1 x.1) (B.f .ev 1 x.2.1)) B.F) (B.e x1.1 B.z) B.F) (B.e x2.1 B.z) B.F) x3.1 B.F)
def V3 (je:Pt A gB) (jf:Ft A gB) (akS:Pt A H9) (akT:Ft A H9) (VY:Pt A wu) (VZ:Ft A wu) (x:Tup A.ah [.x .sym,.x .sym]):Ot A Ia:=
 B.b B.F fun x0=>
 B.k (B.N (B.d (B.y .ev (B.D .sym 0 .ev x.1)) (B.y .ev (B.D .sym 0 .ev x.2.1)))) VY VZ (B.D .sym 1 .poly x.1,B.D .sym 1 .poly x.2.1,()) fun x1=>
 B.k (B.N (B.a (B.a (B.a (B.d (B.y .ev (B.D .sym 0 .ev x.1)) (B.y .ev (B.D .sym 0 .ev x.2.1))) B.T (B.N x1.1)) B.T (B.d (B.f .sym 2 x.1) (B.f .sym 2 x.2.1))) B.T (B.d (B.f .sym 5 x.1) (B.f .sym 5 x.2.1)))) je jf (B.x .poly (B.D .sym 3 .mono x.1,()),B.x .poly (B.D .sym 3 .mono x.2.1,()),()) fun x2=>
 B.k (B.N (B.a (B.a (B.a (B.a (B.d (B.y .ev (B.D .sym 0 .ev x.1)) (B.y .ev (B.D .sym 0 .ev x.2.1))) B.T (B.N x1.1)) B.T (B.d (B.f .sym 2 x.1) (B.f .sym 2 x.2.1))) B.T (B.d (B.f .sym 5 x.1) (B.f .sym 5 x.2.1))) B.T (B.d x2.1 B.z))) je jf (B.x .poly (B.D .sym 4 .mono x.1,()),B.x .poly (B.D .sym 4 .mono x.2.1,()),()) fun x3=>
 B.c (B.a (B.a (B.a (B.a (B.a (B.d (B.y .ev (B.D .sym 0 .ev x.1)) (B.y .ev (B.D .sym 0 .ev x.2.1))) B.T (B.N x1.1)) B.T (B.d (B.f .sym 2 x.1) (B.f .sym 2 x.2.1))) B.T (B.d (B.f .sym 5 x.1) (B.f .sym 5 x.2.1))) B.T (B.d x2.1 B.z)) B.T (B.d x3.1 B.z)) (B.v B.F)<|
 B.i B.z fun x4=>
 B.I [.i,.x .sym,.x .sym] (fun x5=>
 B.c (B.l x5.1 (B.y .ev (B.D .sym 0 .ev x5.2.1))) (B.w .ev (B.D .sym 0 .ev x5.2.1) x5.1<|
 B.w .ev (B.D .sym 0 .ev x5.2.2.1) x5.1<|
 B.j akS akT (B.o .ev (B.D .sym 0 .ev x5.2.1) x5.1,B.o .ev (B.D .sym 0 .ev x5.2.2.1) x5.1,()) fun x6=>
 B.c (B.N x6.1) (B.b B.F fun x7=>
 B.R<|B.r (x7.1,()))<|
 B.i (B.p x5.1 B.u) fun x7=>
 B.L (x7.1,x5.2.1,x5.2.2.1,()))<|
 B.R<|B.v B.T) (x4.1,x.1,x.2.1,())
def V4 (jB:Pt A fE) (jC:Ft A fE) (akU:Pt A GX) (akV:Ft A GX) (VT:Pt A vT) (VU:Ft A vT) (acL:Pt A H8) (acM:Ft A H8) (akW:Pt A Ia) (akX:Ft A Ia) (x:Tup A.ah [.x .blk,.x .blk]):Ot A Ib:=
 B.b B.F fun x0=>
 B.j jB jC (x.1,()) fun x1=>
 B.k (B.N (B.N x1.1)) jB jC (x.2.1,()) fun x2=>
 B.c (B.a (B.a (B.a (B.N x1.1) B.T (B.N x2.1)) B.T (B.d (B.f .blk 0 x.1) (B.f .blk 0 x.2.1))) B.T (B.d (B.f .blk 1 x.1) (B.f .blk 1 x.2.1))) (B.v B.F)<|
 B.j akU akV (x.1,x.2.1,()) fun x3=>
 B.c x3.1 (B.v B.T)<|
 B.j VT VU () fun x4=>
 B.j acL acM (B.x .tab (x4.1,()),x.1,()) fun x5=>
 B.s (.x .tab) x5.1 fun x6=>
 B.s (.x .sym) x5.2.1 fun x7=>
 B.j acL acM (x6.1,x.2.1,()) fun x8=>
 B.s (.x .tab) x8.1 fun x9=>
 B.s (.x .sym) x8.2.1 fun x10=>
 B.j akW akX (x7.1,x10.1,()) fun x11=>
 B.v x11.1
def acN (x:Tup A.ah [.i,.i,.i]):Ot A cB:=
 B.b B.F fun x0=>
 B.v (B.a (B.m x.2.1 x.1) (B.m x.1 x.2.2.1) B.F)
def acO (gQ:Pt A cB) (gT:Ft A cB) (x:Tup A.ah [.x .iop]):Ot A Ee:=
 B.b B.F fun x0=>
 B.b B.F fun x1=>
 B.b B.F fun x2=>
 B.b B.F fun x3=>
 B.b (B.a (B.a (B.d (B.f .iop 0 x.1) B.u) (B.d (B.f .iop 0 x.1) (B.n 2)) B.F) (B.d (B.f .iop 0 x.1) (B.n 6)) B.F) fun x4=>
 B.b (B.a (B.e (B.f .iop 0 x.1) (B.n 3)) B.T (B.e (B.f .iop 0 x.1) (B.n 5))) fun x5=>
 B.b (B.a (B.a (B.a (B.e (B.f .iop 0 x.1) B.u) B.T (B.e (B.f .iop 0 x.1) (B.n 2))) B.T (B.e (B.f .iop 0 x.1) (B.n 3))) B.T (B.e (B.f .iop 0 x.1) (B.n 8))) fun x6=>
 B.j gQ gT (B.f .iop 0 x.1,B.n 4,B.n 7,()) fun x7=>
 B.b x7.1 fun x8=>
 B.b x4.1 fun x9=>
 B.b x5.1 fun x10=>
 B.b x6.1 fun x11=>
 B.b x8.1 fun x12=>
 B.r (x9.1,x10.1,x11.1,x12.1,())
def acP (gQ:Pt A cB) (gT:Ft A cB) (x:Tup A.ah [.i]):Ot A lZ:=
 B.b B.F fun x0=>
 B.j gQ gT (x.1,B.z,B.n 65535,()) fun x1=>
 B.v x1.1
def acQ (gQ:Pt A cB) (gT:Ft A cB) (x:Tup A.ah [.i]):Ot A Ef:=
 B.b B.F fun x0=>
 B.j gQ gT (x.1,B.z,B.n 3,()) fun x1=>
 B.v x1.1
def acR (gQ:Pt A cB) (gT:Ft A cB) (x:Tup A.ah [.i]):Ot A Eh:=
 B.b B.F fun x0=>
 B.j gQ gT (x.1,B.u,B.n 5,()) fun x1=>
 B.v x1.1
def acS (gQ:Pt A cB) (gT:Ft A cB) (x:Tup A.ah [.x .iop]):Ot A QM:=
 B.b B.F fun x0=>
 B.j gQ gT (B.f .iop 0 x.1,B.u,B.n 4,()) fun x1=>
 B.v (B.a x1.1 B.T (B.e (B.f .iop 0 x.1) (B.n 6)))
def acT (atI:Pt A QM) (atJ:Ft A QM) (gQ:Pt A cB) (gT:Ft A cB) (x:Tup A.ah [.x .blk,.i,.i]):Ot A Ei:=
 B.b B.F fun x0=>
 B.j gQ gT (x.2.1,B.z,B.q x.2.2.1 B.u,()) fun x1=>
 B.C (B.O (B.N x1.1) (B.m B.z x.2.1))<|
 B.C (B.O (B.N x1.1) (B.l x.2.1 (B.y .iop (B.D .blk 2 .iop x.1))))<|
 B.k x1.1 atI atJ (B.o .iop (B.D .blk 2 .iop x.1) x.2.1,()) fun x2=>
 B.v (B.a x1.1 x2.1 B.F)
def acU (RJ:Pt A Ei) (RL:Ft A Ei) (acV:Pt A Ee) (acW:Ft A Ee) (wO:Pt A lZ) (wP:Ft A lZ) (gQ:Pt A cB) (gT:Ft A cB) (acX:Pt A Eh) (acY:Ft A Eh) (ZL:Pt A Ef) (ZM:Ft A Ef) (x:Tup A.ah [.x .blk,.i]):Ot A QN:=
 B.b B.F fun x0=>
 B.w .iop (B.D .blk 2 .iop x.1) x.2.1<|
 B.s (.x .iop) (B.o .iop (B.D .blk 2 .iop x.1) x.2.1) fun x1=>
 B.j gQ gT (B.f .iop 0 x1.1,B.u,B.n 8,()) fun x2=>
 B.c (B.N x2.1) (B.v B.F)<|
 B.j acV acW (x1.1,()) fun x3=>
 B.b x3.1 fun x4=>
 B.b x3.2.1 fun x5=>
 B.b x3.2.2.1 fun x6=>
 B.b x3.2.2.2.1 fun x7=>
 B.j wO wP (B.f .iop 3 x1.1,()) fun x8=>
 B.j ZL ZM (B.f .iop 3 x1.1,()) fun x9=>
 B.j acX acY (B.f .iop 3 x1.1,()) fun x10=>
 B.j ZL ZM (B.f .iop 3 x1.1,()) fun x11=>
 B.b (B.a (B.e (B.f .iop 0 x1.1) B.u) x8.1 (B.a (B.e (B.f .iop 0 x1.1) (B.n 2)) x9.1 (B.a (B.e (B.f .iop 0 x1.1) (B.n 3)) x10.1 (B.a (B.e (B.f .iop 0 x1.1) (B.n 8)) x11.1 B.F)))) fun x12=>
 B.k x4.1 RJ RL (x.1,B.f .iop 1 x1.1,x.2.1,()) fun x13=>
 B.k (A.jD (B.a (B.a x4.1 x13.1 B.F) B.T (B.a (B.N x4.1) (B.e (B.f .iop 1 x1.1) B.z) B.F)) x5.1) RJ RL (x.1,B.f .iop 2 x1.1,x.2.1,()) fun x14=>
 B.k (A.jD (B.a (B.a (B.a (B.a x4.1 x13.1 B.F) B.T (B.a (B.N x4.1) (B.e (B.f .iop 1 x1.1) B.z) B.F)) (B.a (B.a x5.1 x14.1 B.F) B.T (B.a (B.N x5.1) (B.e (B.f .iop 2 x1.1) B.z) B.F)) B.F) (B.a (B.a x6.1 x12.1 B.F) B.T (B.a (B.N x6.1) (B.e (B.f .iop 3 x1.1) B.z) B.F)) B.F) x7.1) gQ gT (B.f .iop 4 x1.1,B.z,B.q (B.f .blk 1 x.1) B.u,()) fun x15=>
 B.v (B.a (B.a (B.a (B.a (B.a x4.1 x13.1 B.F) B.T (B.a (B.N x4.1) (B.e (B.f .iop 1 x1.1) B.z) B.F)) (B.a (B.a x5.1 x14.1 B.F) B.T (B.a (B.N x5.1) (B.e (B.f .iop 2 x1.1) B.z) B.F)) B.F) (B.a (B.a x6.1 x12.1 B.F) B.T (B.a (B.N x6.1) (B.e (B.f .iop 3 x1.1) B.z) B.F)) B.F) (B.a (B.a x7.1 x15.1 B.F) B.T (B.a (B.N x7.1) (B.e (B.f .iop 4 x1.1) B.z) B.F)) B.F)
def acZ (x:Tup A.ah [.x .blk]):Ot A Ej:=
 B.b B.F fun x0=>
 B.b B.F fun x1=>
 B.b B.F fun x2=>
 B.b (B.d (B.f .blk 3 x.1) B.u) fun x3=>
 B.b (B.h (B.f .blk 3 x.1) (B.n 3)) fun x4=>
 B.b (B.d (B.f .blk 3 x.1) (B.n 2)) fun x5=>
 B.r (x3.1,x4.1,x5.1,())
def ac0 (ac1:Pt A Ej) (ac2:Ft A Ej) (RJ:Pt A Ei) (RL:Ft A Ei) (wO:Pt A lZ) (wP:Ft A lZ) (gQ:Pt A cB) (gT:Ft A cB) (x:Tup A.ah [.x .blk]):Ot A QO:=
 B.b B.F fun x0=>
 B.j ac1 ac2 (x.1,()) fun x1=>
 B.b x1.1 fun x2=>
 B.b x1.2.1 fun x3=>
 B.b x1.2.2.1 fun x4=>
 B.j gQ gT (B.f .blk 3 x.1,B.u,B.n 4,()) fun x5=>
 B.k (A.jD x5.1 x2.1) RJ RL (x.1,B.f .blk 4 x.1,B.y .iop (B.D .blk 2 .iop x.1),()) fun x6=>
 B.k (A.jD (B.a x5.1 (B.a (B.a x2.1 x6.1 B.F) B.T (B.a (B.N x2.1) (B.e (B.f .blk 4 x.1) B.z) B.F)) B.F) x3.1) RJ RL (x.1,B.f .blk 5 x.1,B.y .iop (B.D .blk 2 .iop x.1),()) fun x7=>
 B.k (A.jD (B.a (B.a x5.1 (B.a (B.a x2.1 x6.1 B.F) B.T (B.a (B.N x2.1) (B.e (B.f .blk 4 x.1) B.z) B.F)) B.F) (B.a (B.a x3.1 x7.1 B.F) B.T (B.a (B.N x3.1) (B.e (B.f .blk 5 x.1) B.z) B.F)) B.F) x4.1) wO wP (B.f .blk 6 x.1,()) fun x8=>
 B.v (B.a (B.a (B.a x5.1 (B.a (B.a x2.1 x6.1 B.F) B.T (B.a (B.N x2.1) (B.e (B.f .blk 4 x.1) B.z) B.F)) B.F) (B.a (B.a x3.1 x7.1 B.F) B.T (B.a (B.N x3.1) (B.e (B.f .blk 5 x.1) B.z) B.F)) B.F) (B.a (B.a x4.1 x8.1 B.F) B.T (B.a (B.N x4.1) (B.e (B.f .blk 6 x.1) B.z) B.F)) B.F)
def ac3 (atK:Pt A QO) (atL:Ft A QO) (atM:Pt A QN) (atN:Ft A QN) (gQ:Pt A cB) (gT:Ft A cB) (x:Tup A.ah [.x .blk]):Ot A El:=
 B.b B.F fun x0=>
 B.j gQ gT (B.f .blk 1 x.1,B.u,B.n 8,()) fun x1=>
 B.k (B.N (B.N x1.1)) gQ gT (B.f .blk 0 x.1,B.z,B.q (B.n 64) (B.f .blk 1 x.1),()) fun x2=>
 B.c (B.a (B.a (B.N x1.1) B.T (B.N x2.1)) B.T (B.g (B.y .iop (B.D .blk 2 .iop x.1)) (B.n 48))) (B.v B.F)<|
 B.I [.i,.i,.x .blk] (fun x3=>
 B.c (B.l x3.2.1 x3.1) (B.i x3.2.1 fun x4=>
 B.j atM atN (x3.2.2.1,x4.1,()) fun x5=>
 B.c (B.N x5.1) (B.b B.F fun x6=>
 B.R<|B.r (x6.1,()))<|
 B.L (x3.1,B.p x3.2.1 B.u,x3.2.2.1,()))<|
 B.R<|B.j atK atL (x3.2.2.1,()) fun x4=>
 B.v x4.1) (B.y .iop (B.D .blk 2 .iop x.1),B.z,x.1,())
def ac4 (x:Tup A.ah [.l .iop,.l .iop]):Ot A QS:=
 B.b B.F fun x0=>
 B.c (B.d (B.y .iop x.1) (B.y .iop x.2.1)) (B.v B.F)<|
 B.I [.l .iop,.l .iop,.i,.i] (fun x1=>
 B.c (B.l x1.2.2.2.1 x1.2.2.1) (B.i x1.2.2.2.1 fun x2=>
 B.w .iop x1.1 x2.1<|
 B.w .iop x1.2.1 x2.1<|
 B.c (B.N (A.eqX .iop (B.o .iop x1.1 x2.1) (B.o .iop x1.2.1 x2.1))) (B.b B.F fun x3=>
 B.R<|B.r (x3.1,()))<|
 B.L (x1.1,x1.2.1,x1.2.2.1,B.p x1.2.2.2.1 B.u,()))<|
 B.R<|B.v B.T) (x.1,x.2.1,B.y .iop x.1,B.z,())
def ac5 (atO:Pt A QS) (atP:Ft A QS) (x:Tup A.ah [.x .blk,.x .blk]):Ot A Em:=
 B.b B.F fun x0=>
 B.k (B.a (B.a (B.a (B.a (B.a (B.e (B.f .blk 0 x.1) (B.f .blk 0 x.2.1)) (B.e (B.f .blk 1 x.1) (B.f .blk 1 x.2.1)) B.F) (B.e (B.f .blk 3 x.1) (B.f .blk 3 x.2.1)) B.F) (B.e (B.f .blk 4 x.1) (B.f .blk 4 x.2.1)) B.F) (B.e (B.f .blk 5 x.1) (B.f .blk 5 x.2.1)) B.F) (B.e (B.f .blk 6 x.1) (B.f .blk 6 x.2.1)) B.F) atO atP (B.D .blk 2 .iop x.1,B.D .blk 2 .iop x.2.1,()) fun x1=>
 B.v (B.a (B.a (B.a (B.a (B.a (B.a (B.e (B.f .blk 0 x.1) (B.f .blk 0 x.2.1)) (B.e (B.f .blk 1 x.1) (B.f .blk 1 x.2.1)) B.F) (B.e (B.f .blk 3 x.1) (B.f .blk 3 x.2.1)) B.F) (B.e (B.f .blk 4 x.1) (B.f .blk 4 x.2.1)) B.F) (B.e (B.f .blk 5 x.1) (B.f .blk 5 x.2.1)) B.F) (B.e (B.f .blk 6 x.1) (B.f .blk 6 x.2.1)) B.F) x1.1 B.F)
def ac6 (x:Tup A.ah [.i,.i]):Ot A QT:=
 B.b B.F fun x0=>
 B.b (B.h x.1 x.2.1) fun x1=>
 B.r (x1.1,x.2.1,())
def V5 (atQ:Pt A QT) (atS:Ft A QT) (x:Tup A.ah [.l .i64,.i]):Ot A Ic:=
 B.i B.z fun x0=>
 B.I [.l .i64,.i,.i,.i] (fun x1=>
 B.c (B.l x1.2.2.1 x1.2.1) (B.i x1.2.2.1 fun x2=>
 B.w .i64 x1.1 x2.1<|
 B.j atQ atS (B.f .i64 0 (B.o .i64 x1.1 x2.1),x1.2.2.2.1,()) fun x3=>
 B.c x3.1 (B.i x2.1 fun x4=>
 B.R<|B.r (x4.1,x3.2.1,()))<|
 B.L (x1.1,x1.2.1,B.p x1.2.2.1 B.u,x3.2.1,()))<|
 B.R<|B.i (B.n (-1)) fun x2=>
 B.r (x2.1,x1.2.2.2.1,())) (x.1,B.y .i64 x.1,B.z,x.2.1,())
def ac7 (akY:Pt A Ic) (akZ:Ft A Ic) (x:Tup A.ah [.l .i64,.i]):Ot A QU:=
 B.b B.F fun x0=>
 B.j akY akZ (x.1,x.2.1,()) fun x1=>
 B.b (B.h x1.1 B.z) fun x2=>
 B.r (x2.1,x1.2.1,())
def ac8 (atT:Pt A QU) (atU:Ft A QU) (x:Tup A.ah [.x .poly,.i]):Ot A En:=
 B.b B.F fun x0=>
 B.I [.l .mono,.i,.i,.i] (fun x1=>
 B.c (B.l x1.2.2.1 x1.2.1) (B.w .mono x1.1 x1.2.2.1<|
 B.s (.x .mono) (B.o .mono x1.1 x1.2.2.1) fun x2=>
 B.j atT atU (B.D .mono 1 .i64 x2.1,x1.2.2.2.1,()) fun x3=>
 B.c x3.1 (B.b B.F fun x4=>
 B.R<|B.r (x4.1,()))<|
 B.L (x1.1,x1.2.1,B.p x1.2.2.1 B.u,x3.2.1,()))<|
 B.R<|B.v B.T) (B.D .poly 0 .mono x.1,B.y .mono (B.D .poly 0 .mono x.1),B.z,x.2.1,())
def ak0 (x:Tup A.ah [.i]):Ot A QV:=
 B.b B.F fun x0=>
 B.v (B.d x.1 x.1)
def ak1 (ac9:Pt A QV) (ada:Ft A QV) (x:Tup A.ah [.i,.i]):Ot A Ie:=
 B.i B.z fun x0=>
 B.j ac9 ada (x.1,()) fun x1=>
 B.b x1.1 fun x2=>
 B.j ac9 ada (x.2.1,()) fun x3=>
 B.b x3.1 fun x4=>
 B.c x2.1 (B.c x4.1 (B.i B.z fun x5=>
 B.r (x5.1,()))<|
 B.i (B.n (-1)) fun x5=>
 B.r (x5.1,()))<|
 B.c x4.1 (B.i B.u fun x5=>
 B.r (x5.1,()))<|
 B.c (B.l x.1 x.2.1) (B.i (B.n (-1)) fun x5=>
 B.r (x5.1,()))<|
 B.c (B.g x.1 x.2.1) (B.i B.u fun x5=>
 B.r (x5.1,()))<|
 B.i B.z fun x5=>
 B.r (x5.1,())
def ak2 (x:Tup A.ah [.l .i64]):Ot A QW:=
 B.i B.z fun x0=>
 B.i B.z fun x1=>
 B.I [.i,.l .i64,.i,.i] (fun x2=>
 B.c (B.l x2.2.2.2.1 x2.2.2.1) (B.w .i64 x2.2.1 x2.2.2.2.1<|
 B.i (B.f .i64 0 (B.o .i64 x2.2.1 x2.2.2.2.1)) fun x3=>
 B.c (B.d x3.1 x2.1) (B.i x3.1 fun x4=>
 B.R<|B.r (x4.1,()))<|
 B.L (x2.1,x2.2.1,x2.2.2.1,B.p x2.2.2.2.1 B.u,()))<|
 B.R<|B.i x2.1 fun x3=>
 B.r (x3.1,())) (x1.1,x.1,B.y .i64 x.1,B.z,())
def adb (abj:Pt A Ie) (abk:Ft A Ie) (x:Tup A.ah [.l .i64,.l .i64]):Ot A QX:=
 B.i B.z fun x0=>
 B.I [.l .i64,.l .i64,.l .i64,.i,.i] (fun x1=>
 B.c (B.l x1.q.1 x1.2.2.2.1) (B.w .i64 x1.2.2.1 x1.q.1<|
 B.i x1.q.1 fun x2=>
 B.i (B.f .i64 0 (B.o .i64 x1.2.2.1 x1.q.1)) fun x3=>
 B.c (B.h x2.1 (B.y .i64 x1.2.1)) (B.i B.u fun x4=>
 B.R<|B.r (x4.1,()))<|
 B.w .i64 x1.2.1 x2.1<|
 B.i (B.f .i64 0 (B.o .i64 x1.2.1 x2.1)) fun x4=>
 B.j abj abk (x3.1,x4.1,()) fun x5=>
 B.i x5.1 fun x6=>
 B.c (B.d x6.1 B.z) (B.i x6.1 fun x7=>
 B.R<|B.r (x7.1,()))<|
 B.L (x1.1,x1.2.1,x1.2.2.1,x1.2.2.2.1,B.p x1.q.1 B.u,()))<|
 B.R<|B.c (B.l (B.y .i64 x1.1) (B.y .i64 x1.2.1)) (B.i (B.n (-1)) fun x2=>
 B.r (x2.1,()))<|
 B.i B.z fun x2=>
 B.r (x2.1,())) (x.1,x.2.1,x.1,B.y .i64 x.1,B.z,())
def ade (ak3:Pt A QW) (ak4:Ft A QW) (abj:Pt A Ie) (abk:Ft A Ie) (atV:Pt A QX) (atW:Ft A QX) (x:Tup A.ah [.l .i64,.l .i64]):Ot A o8:=
 B.i B.z fun x0=>
 B.j abj abk (B.y .i64 x.1,B.y .i64 x.2.1,()) fun x1=>
 B.j atV atW (x.1,x.2.1,()) fun x2=>
 B.s (.l .i64) (A.lst .i64 [B.x .i64 (x1.1,()),B.x .i64 (x2.1,())]) fun x3=>
 B.j ak3 ak4 (x3.1,()) fun x4=>
 B.i x4.1 fun x5=>
 B.r (x5.1,())
def ak5 (ac9:Pt A QV) (ada:Ft A QV) (x:Tup A.ah [.i,.i]):Ot A Ig:=
 B.b B.F fun x0=>
 B.j ac9 ada (x.1,()) fun x1=>
 B.k x1.1 ac9 ada (x.2.1,()) fun x2=>
 B.v (B.a (B.a x1.1 (B.N x2.1) B.F) B.T (B.l x.1 x.2.1))
def V6 (adf:Pt A Ig) (adg:Ft A Ig) (x:Tup A.ah [.l .i64]):Ot A Ih:=
 B.b B.F fun x0=>
 B.i (B.q (B.y .i64 x.1) B.u) fun x1=>
 B.I [.l .i64,.i] (fun x2=>
 B.c (B.g x2.2.1 B.z) (B.w .i64 x2.1 x2.2.1<|
 B.w .i64 x2.1 (B.q x2.2.1 B.u)<|
 B.j adf adg (B.f .i64 0 (B.o .i64 x2.1 x2.2.1),B.f .i64 0 (B.o .i64 x2.1 (B.q x2.2.1 B.u)),()) fun x3=>
 B.c x3.1 (B.b B.F fun x4=>
 B.R<|B.r (x4.1,()))<|
 B.i (B.q x2.2.1 B.u) fun x4=>
 B.L (x2.1,x4.1,()))<|
 B.R<|B.v B.T) (x.1,x1.1,())
def adh (x:Tup A.ah [.x .mono]):Ot A QY:=
 B.b B.F fun x0=>
 B.C (B.O (B.N (B.g (B.y .i64 (B.D .mono 1 .i64 x.1)) B.z)) (B.m B.z B.z))<|
 B.C (B.O (B.N (B.g (B.y .i64 (B.D .mono 1 .i64 x.1)) B.z)) (B.l B.z (B.y .i64 (B.D .mono 1 .i64 x.1))))<|
 B.v (B.a (B.g (B.y .i64 (B.D .mono 1 .i64 x.1)) B.z) (B.l (B.f .i64 0 (B.o .i64 (B.D .mono 1 .i64 x.1) B.z)) B.z) B.F)
def V7 (atX:Pt A QY) (atY:Ft A QY) (x:Tup A.ah [.l .mono]):Ot A Ii:=
 B.i B.z fun x0=>
 B.I [.l .mono,.i,.i] (fun x1=>
 B.c (B.l x1.2.2.1 x1.2.1) (B.i x1.2.2.1 fun x2=>
 B.w .mono x1.1 x2.1<|
 B.j atX atY (B.o .mono x1.1 x2.1,()) fun x3=>
 B.c x3.1 (B.i x2.1 fun x4=>
 B.R<|B.r (x4.1,()))<|
 B.L (x1.1,x1.2.1,B.p x1.2.2.1 B.u,()))<|
 B.R<|B.i (B.n (-1)) fun x2=>
 B.r (x2.1,())) (x.1,B.y .mono x.1,B.z,())
def adi (ak6:Pt A Ii) (ak7:Ft A Ii) (x:Tup A.ah [.l .mono]):Ot A QZ:=
 B.b B.F fun x0=>
 B.j ak6 ak7 (x.1,()) fun x1=>
 B.v (B.h x1.1 B.z)
def adk (gQ:Pt A cB) (gT:Ft A cB) (ZN:Pt A En) (ZO:Ft A En) (ak8:Pt A Ih) (ak9:Ft A Ih) (Jq:Pt A o8) (Jr:Ft A o8) (atZ:Pt A QZ) (at0:Ft A QZ) (x:Tup A.ah [.x .poly]):Ot A iZ:=
 B.b B.F fun x0=>
 B.I [.l .mono,.i,.i,.x .poly] (fun x1=>
 B.c (B.l x1.2.2.1 x1.2.1) (B.w .mono x1.1 x1.2.2.1<|
 B.i x1.2.2.1 fun x2=>
 B.s (.x .mono) (B.o .mono x1.1 x1.2.2.1) fun x3=>
 B.j gQ gT (B.f .mono 0 x3.1,B.u,B.n 65535,()) fun x4=>
 B.k (B.N (B.a (B.N x4.1) B.T (B.g (B.y .i64 (B.D .mono 1 .i64 x3.1)) (B.n 4)))) ak8 ak9 (B.D .mono 1 .i64 x3.1,()) fun x5=>
 B.C (B.O (B.N (A.jD (B.N (B.a (B.a (B.N x4.1) B.T (B.g (B.y .i64 (B.D .mono 1 .i64 x3.1)) (B.n 4))) B.T (B.N x5.1))) (B.g x2.1 B.z))) (B.m B.z (B.q x2.1 B.u)))<|
 B.C (B.O (B.N (A.jD (B.N (B.a (B.a (B.N x4.1) B.T (B.g (B.y .i64 (B.D .mono 1 .i64 x3.1)) (B.n 4))) B.T (B.N x5.1))) (B.g x2.1 B.z))) (B.l (B.q x2.1 B.u) (B.y .mono (B.D .poly 0 .mono x1.2.2.2.1))))<|
 B.k (A.jD (B.N (B.a (B.a (B.N x4.1) B.T (B.g (B.y .i64 (B.D .mono 1 .i64 x3.1)) (B.n 4))) B.T (B.N x5.1))) (B.g x2.1 B.z)) Jq Jr (B.D .mono 1 .i64 (B.o .mono (B.D .poly 0 .mono x1.2.2.2.1) (B.q x2.1 B.u)),B.D .mono 1 .i64 x3.1,()) fun x6=>
 B.c (B.a (B.a (B.a (B.N x4.1) B.T (B.g (B.y .i64 (B.D .mono 1 .i64 x3.1)) (B.n 4))) B.T (B.N x5.1)) B.T (B.a (B.g x2.1 B.z) (B.h x6.1 B.z) B.F)) (B.b B.F fun x7=>
 B.R<|B.r (x7.1,()))<|
 B.L (x1.1,x1.2.1,B.p x1.2.2.1 B.u,x1.2.2.2.1,()))<|
 B.R<|B.k (B.m (B.y .mono (B.D .poly 0 .mono x1.2.2.2.1)) (B.n 12)) ZN ZO (x1.2.2.2.1,B.n 200,()) fun x2=>
 B.k (B.a (B.m (B.y .mono (B.D .poly 0 .mono x1.2.2.2.1)) (B.n 12)) x2.1 B.F) atZ at0 (B.D .poly 0 .mono x1.2.2.2.1,()) fun x3=>
 B.v (B.a (B.a (B.m (B.y .mono (B.D .poly 0 .mono x1.2.2.2.1)) (B.n 12)) x2.1 B.F) (B.N x3.1) B.F)) (B.D .poly 0 .mono x.1,B.y .mono (B.D .poly 0 .mono x.1),B.z,x.1,())
def adl (gQ:Pt A cB) (gT:Ft A cB) (acX:Pt A Eh) (acY:Ft A Eh) (ZN:Pt A En) (ZO:Ft A En) (l5:Pt A iZ) (l6:Ft A iZ) (ZL:Pt A Ef) (ZM:Ft A Ef) (x:Tup A.ah [.x .atom,.i]):Ot A Eo:=
 B.b B.F fun x0=>
 B.c (B.e (B.f .atom 0 x.1) (B.n 4)) (B.j acX acY (B.f .atom 1 x.1,()) fun x1=>
 B.k x1.1 l5 l6 (B.x .poly (B.D .atom 2 .mono x.1,()),()) fun x2=>
 B.k (B.a x1.1 x2.1 B.F) l5 l6 (B.x .poly (B.D .atom 3 .mono x.1,()),()) fun x3=>
 B.k (B.a (B.a x1.1 x2.1 B.F) x3.1 B.F) ZN ZO (B.x .poly (B.D .atom 2 .mono x.1,()),x.2.1,()) fun x4=>
 B.k (B.a (B.a (B.a x1.1 x2.1 B.F) x3.1 B.F) x4.1 B.F) ZN ZO (B.x .poly (B.D .atom 3 .mono x.1,()),x.2.1,()) fun x5=>
 B.v (B.a (B.a (B.a (B.a x1.1 x2.1 B.F) x3.1 B.F) x4.1 B.F) x5.1 B.F))<|
 B.c (B.g (B.p (B.y .mono (B.D .atom 2 .mono x.1)) (B.y .mono (B.D .atom 3 .mono x.1))) B.z) (B.v B.F)<|
 B.k (B.e (B.f .atom 0 x.1) B.u) ZL ZM (B.f .atom 1 x.1,()) fun x1=>
 B.k (A.jD (B.N (B.a (B.e (B.f .atom 0 x.1) B.u) x1.1 B.F)) (B.a (B.e (B.f .atom 0 x.1) (B.n 2)) B.T (B.e (B.f .atom 0 x.1) (B.n 3)))) gQ gT (B.f .atom 1 x.1,B.z,B.n 199,()) fun x2=>
 B.v (B.a (B.a (B.e (B.f .atom 0 x.1) B.u) x1.1 B.F) B.T (B.a (B.a (B.e (B.f .atom 0 x.1) (B.n 2)) B.T (B.e (B.f .atom 0 x.1) (B.n 3))) x2.1 B.F))
def adn (ak3:Pt A QW) (ak4:Ft A QW) (abj:Pt A Ie) (abk:Ft A Ie) (Jq:Pt A o8) (Jr:Ft A o8) (x:Tup A.ah [.x .poly,.x .poly]):Ot A wz:=
 B.i B.z fun x0=>
 B.j abj abk (B.y .mono (B.D .poly 0 .mono x.1),B.y .mono (B.D .poly 0 .mono x.2.1),()) fun x1=>
 B.i x1.1 fun x2=>
 B.c (B.d x2.1 B.z) (B.i x2.1 fun x3=>
 B.r (x3.1,()))<|
 B.I [.l .mono,.i,.i,.x .poly] (fun x3=>
 B.c (B.l x3.2.2.1 x3.2.1) (B.w .mono x3.1 x3.2.2.1<|
 B.i x3.2.2.1 fun x4=>
 B.s (.x .mono) (B.o .mono x3.1 x3.2.2.1) fun x5=>
 B.w .mono (B.D .poly 0 .mono x3.2.2.2.1) x4.1<|
 B.w .mono (B.D .poly 0 .mono x3.2.2.2.1) x4.1<|
 B.j Jq Jr (B.D .mono 1 .i64 x5.1,B.D .mono 1 .i64 (B.o .mono (B.D .poly 0 .mono x3.2.2.2.1) x4.1),()) fun x6=>
 B.j abj abk (B.f .mono 0 x5.1,B.f .mono 0 (B.o .mono (B.D .poly 0 .mono x3.2.2.2.1) x4.1),()) fun x7=>
 B.j ak3 ak4 (A.lst .i64 [B.x .i64 (x6.1,()),B.x .i64 (x7.1,())],()) fun x8=>
 B.i x8.1 fun x9=>
 B.c (B.d x9.1 B.z) (B.i x9.1 fun x10=>
 B.R<|B.r (x10.1,()))<|
 B.L (x3.1,x3.2.1,B.p x3.2.2.1 B.u,x3.2.2.2.1,()))<|
 B.R<|B.i B.z fun x4=>
 B.r (x4.1,())) (B.D .poly 0 .mono x.1,B.y .mono (B.D .poly 0 .mono x.1),B.z,x.2.1,())
def ado (RN:Pt A wz) (RO:Ft A wz) (x:Tup A.ah [.x .poly,.x .poly]):Ot A kg:=
 B.b B.F fun x0=>
 B.j RN RO (x.1,x.2.1,()) fun x1=>
 B.v (B.e x1.1 B.z)
def adp (mW:Pt A kg) (mX:Ft A kg) (x:Tup A.ah [.x .atom,.x .atom]):Ot A Q0:=
 B.b B.F fun x0=>
 B.k (B.a (B.e (B.f .atom 0 x.1) (B.f .atom 0 x.2.1)) (B.e (B.f .atom 1 x.1) (B.f .atom 1 x.2.1)) B.F) mW mX (B.x .poly (B.D .atom 2 .mono x.1,()),B.x .poly (B.D .atom 2 .mono x.2.1,()),()) fun x1=>
 B.k (B.a (B.a (B.e (B.f .atom 0 x.1) (B.f .atom 0 x.2.1)) (B.e (B.f .atom 1 x.1) (B.f .atom 1 x.2.1)) B.F) x1.1 B.F) mW mX (B.x .poly (B.D .atom 3 .mono x.1,()),B.x .poly (B.D .atom 3 .mono x.2.1,()),()) fun x2=>
 B.v (B.a (B.a (B.a (B.e (B.f .atom 0 x.1) (B.f .atom 0 x.2.1)) (B.e (B.f .atom 1 x.1) (B.f .atom 1 x.2.1)) B.F) x1.1 B.F) x2.1 B.F)
def adq (at5:Pt A Q0) (at6:Ft A Q0) (x:Tup A.ah [.x .atom,.x .atom]):Ot A Q5:=
 B.b B.F fun x0=>
 B.j at5 at6 (x.2.1,x.1,()) fun x1=>
 B.b x1.1 fun x2=>
 B.r (x2.1,x.2.1,())
def V8 (at7:Pt A Q5) (aua:Ft A Q5) (x:Tup A.ah [.l .atom,.x .atom]):Ot A Ij:=
 B.i B.z fun x0=>
 B.I [.l .atom,.i,.i,.x .atom] (fun x1=>
 B.c (B.l x1.2.2.1 x1.2.1) (B.i x1.2.2.1 fun x2=>
 B.w .atom x1.1 x2.1<|
 B.j at7 aua (B.o .atom x1.1 x2.1,x1.2.2.2.1,()) fun x3=>
 B.c x3.1 (B.i x2.1 fun x4=>
 B.R<|B.r (x4.1,x3.2.1,()))<|
 B.L (x1.1,x1.2.1,B.p x1.2.2.1 B.u,x3.2.1,()))<|
 B.R<|B.i (B.n (-1)) fun x2=>
 B.r (x2.1,x1.2.2.2.1,())) (x.1,B.y .atom x.1,B.z,x.2.1,())
def adr (ala:Pt A Ij) (alb:Ft A Ij) (x:Tup A.ah [.x .tab,.x .atom]):Ot A Ep:=
 B.i B.z fun x0=>
 B.j ala alb (B.D .tab 0 .atom x.1,x.2.1,()) fun x1=>
 B.i x1.1 fun x2=>
 B.r (x2.1,())
def ads (x:Tup A.ah [.l .atom]):Ot A Q6:=
 B.C (B.m B.z B.z)<|
 B.C (B.m B.z (B.y .atom x.1))<|
 B.C (B.m (B.y .atom x.1) (B.y .atom x.1))<|
 B.C (B.e (B.y .atom x.1) (B.y .atom x.1))<|
 B.r (A.sub .atom x.1 B.z (B.y .atom x.1),())
def adt (adu:Pt A Eo) (adw:Ft A Eo) (adx:Pt A Ep) (ady:Ft A Ep) (aub:Pt A Q6) (auc:Ft A Q6) (x:Tup A.ah [.x .tab,.x .atom]):Ot A Er:=
 B.i B.z fun x0=>
 B.j adx ady (x.1,x.2.1,()) fun x1=>
 B.i x1.1 fun x2=>
 B.c (B.h x2.1 B.z) (B.s (.x .tab) x.1 fun x3=>
 B.i x2.1 fun x4=>
 B.r (x3.1,x4.1,()))<|
 B.j adu adw (x.2.1,B.y .atom (B.D .tab 0 .atom x.1),()) fun x3=>
 B.c (B.a (B.N x3.1) B.T (B.e (B.y .atom (B.D .tab 0 .atom x.1)) (B.n 200))) (B.s (.x .tab) x.1 fun x4=>
 B.i (B.n (-1)) fun x5=>
 B.r (x4.1,x5.1,()))<|
 B.j aub auc (B.D .tab 0 .atom x.1,()) fun x4=>
 B.C (B.O (B.l B.z (B.y .atom (A.lst .atom [x.2.1]))) (B.e (B.y .atom x4.1) B.z))<|
 B.C (B.m (A.addN (B.y .atom x4.1) (B.y .atom (A.lst .atom [x.2.1]))) (B.n 1073741824))<|
 B.s (.l .atom) (A.app .atom x4.1 (A.lst .atom [x.2.1])) fun x5=>
 B.i (B.y .atom (B.D .tab 0 .atom x.1)) fun x6=>
 B.r (B.x .tab (x5.1,()),x6.1,())
def adz (gQ:Pt A cB) (gT:Ft A cB) (x:Tup A.ah [.i]):Ot A Es:=
 B.j gQ gT (x.1,B.z,B.n 199,()) fun x0=>
 B.c (B.N x0.1) (B.r (A.aN .mono,()))<|
 B.s (.l .i64) (A.lst .i64 [B.x .i64 (x.1,())]) fun x1=>
 B.s (.l .mono) (A.lst .mono [B.x .mono (B.u,x1.1,())]) fun x2=>
 B.r (x2.1,())
def adA (adB:Pt A Es) (adC:Ft A Es) (adD:Pt A Er) (adE:Ft A Er) (x:Tup A.ah [.i,.i,.l .atom,.b]):Ot A Eu:=
 B.j adD adE (B.x .tab (x.2.2.1,()),B.x .atom (x.1,x.2.1,A.aN .mono,A.aN .mono,()),()) fun x0=>
 B.s (.x .tab) x0.1 fun x1=>
 B.i x0.2.1 fun x2=>
 B.c (B.l x2.1 B.z) (B.b B.T fun x3=>
 B.r (B.x .poly (A.aN .mono,()),x.2.2.1,x3.1,()))<|
 B.s (.x .tab) x1.1 fun x3=>
 B.j adB adC (x2.1,()) fun x4=>
 B.r (B.x .poly (x4.1,()),B.D .tab 0 .atom x3.1,x.2.2.2.1,())
def adF (ZP:Pt A Eu) (ZQ:Ft A Eu) (x:Tup A.ah [.l .atom,.b]):Ot A Ew:=
 B.I [.i,.l .atom,.b,.l .poly] (fun x0=>
 B.c (B.l x0.1 (B.n 4)) (B.i x0.1 fun x1=>
 B.j ZP ZQ (B.u,x1.1,x0.2.1,x0.2.2.1,()) fun x2=>
 B.s (.l .poly) (A.lst .poly [x2.1]) fun x3=>
 B.C (B.m (A.addN (B.y .poly x0.2.2.2.1) (B.y .poly x3.1)) (B.n 1073741824))<|
 B.s (.l .poly) (A.app .poly x0.2.2.2.1 x3.1) fun x4=>
 B.L (B.p x0.1 B.u,x2.2.1,x2.2.2.1,x4.1,()))<|
 B.R<|B.r (x0.2.1,x0.2.2.1,x0.2.2.2.1,())) (B.z,x.1,x.2.1,A.aN .poly,())
def adG (x:Tup A.ah [.l .i64]):Ot A Ey:=
 B.C (B.m (B.y .i64 x.1) (B.n 1073741824))<|
 B.s (.l .i64) x.1 fun x0=>
 B.r (x0.1,())
def adH (adI:Pt A Ey) (adJ:Ft A Ey) (x:Tup A.ah [.x .poly]):Ot A wB:=
 B.I [.l .mono,.i,.i,.l .mono] (fun x0=>
 B.c (B.l x0.2.2.1 x0.2.1) (B.w .mono x0.1 x0.2.2.1<|
 B.s (.x .mono) (B.o .mono x0.1 x0.2.2.1) fun x1=>
 B.j adI adJ (B.D .mono 1 .i64 x1.1,()) fun x2=>
 B.s (.l .mono) (A.lst .mono [B.x .mono (B.f .mono 0 x1.1,x2.1,())]) fun x3=>
 B.C (B.m (A.addN (B.y .mono x0.2.2.2.1) (B.y .mono x3.1)) (B.n 1073741824))<|
 B.s (.l .mono) (A.app .mono x0.2.2.2.1 x3.1) fun x4=>
 B.L (x0.1,x0.2.1,B.p x0.2.2.1 B.u,x4.1,()))<|
 B.R<|B.r (x0.2.2.2.1,())) (B.D .poly 0 .mono x.1,B.y .mono (B.D .poly 0 .mono x.1),B.z,A.aN .mono,())
def adK (BQ:Pt A wB) (BR:Ft A wB) (x:Tup A.ah [.x .tab]):Ot A Ez:=
 B.I [.l .atom,.i,.i,.l .atom] (fun x0=>
 B.c (B.l x0.2.2.1 x0.2.1) (B.w .atom x0.1 x0.2.2.1<|
 B.s (.x .atom) (B.o .atom x0.1 x0.2.2.1) fun x1=>
 B.j BQ BR (B.x .poly (B.D .atom 2 .mono x1.1,()),()) fun x2=>
 B.j BQ BR (B.x .poly (B.D .atom 3 .mono x1.1,()),()) fun x3=>
 B.s (.l .atom) (A.lst .atom [B.x .atom (B.f .atom 0 x1.1,B.f .atom 1 x1.1,x2.1,x3.1,())]) fun x4=>
 B.C (B.m (A.addN (B.y .atom x0.2.2.2.1) (B.y .atom x4.1)) (B.n 1073741824))<|
 B.s (.l .atom) (A.app .atom x0.2.2.2.1 x4.1) fun x5=>
 B.L (x0.1,x0.2.1,B.p x0.2.2.1 B.u,x5.1,()))<|
 B.R<|B.r (x0.2.2.2.1,())) (B.D .tab 0 .atom x.1,B.y .atom (B.D .tab 0 .atom x.1),B.z,A.aN .atom,())
def adL (adM:Pt A Ez) (adN:Ft A Ez) (adO:Pt A Ew) (adP:Ft A Ew) (x:Tup A.ah []):Ot A Q7:=
 B.j adO adP (A.aN .atom,B.F,()) fun x0=>
 B.j adM adN (B.x .tab (x0.1,()),()) fun x1=>
 B.r (B.x .tab (x1.1,()),x0.2.2.1,())
def adQ (adu:Pt A Eo) (adw:Ft A Eo) (adx:Pt A Ep) (ady:Ft A Ep) (x:Tup A.ah [.x .tab]):Ot A Q8:=
 B.b B.F fun x0=>
 B.I [.l .atom,.i,.i,.x .tab] (fun x1=>
 B.c (B.l x1.2.2.1 x1.2.1) (B.w .atom x1.1 x1.2.2.1<|
 B.i x1.2.2.1 fun x2=>
 B.s (.x .atom) (B.o .atom x1.1 x1.2.2.1) fun x3=>
 B.j adu adw (x3.1,x2.1,()) fun x4=>
 B.k (B.N (B.N x4.1)) adx ady (x1.2.2.2.1,x3.1,()) fun x5=>
 B.c (B.a (B.N x4.1) B.T (B.d x5.1 x2.1)) (B.b B.F fun x6=>
 B.R<|B.r (x6.1,()))<|
 B.L (x1.1,x1.2.1,B.p x1.2.2.1 B.u,x1.2.2.2.1,()))<|
 B.R<|B.v (B.m (B.y .atom (B.D .tab 0 .atom x1.2.2.2.1)) (B.n 200))) (B.D .tab 0 .atom x.1,B.y .atom (B.D .tab 0 .atom x.1),B.z,x.1,())
def adR (gQ:Pt A cB) (gT:Ft A cB) (x:Tup A.ah [.x .iop]):Ot A Q9:=
 B.b B.F fun x0=>
 B.j gQ gT (B.f .iop 0 x.1,B.n 4,B.n 7,()) fun x1=>
 B.v x1.1
def adS (x:Tup A.ah [.l .poly]):Ot A Ra:=
 B.C (B.d (B.y .poly x.1) B.z)<|
 B.c B.F (B.r (x.1,A.aN .poly,()))<|
 B.s (.l .poly) (A.lst .poly []) fun x0=>
 B.C (B.m (A.addN (B.y .poly x0.1) (B.y .poly x.1)) (B.n 1073741824))<|
 B.s (.l .poly) (A.app .poly x0.1 x.1) fun x1=>
 B.r (x.1,x1.1,())
def adT (gQ:Pt A cB) (gT:Ft A cB) (x:Tup A.ah [.i]):Ot A wC:=
 B.j gQ gT (x.1,B.u,B.n 65535,()) fun x0=>
 B.c (B.N x0.1) (B.r (A.aN .mono,()))<|
 B.s (.l .mono) (A.lst .mono [B.x .mono (x.1,A.aN .i64,())]) fun x1=>
 B.r (x1.1,())
def adU (l5:Pt A iZ) (l6:Ft A iZ) (x:Tup A.ah [.x .poly]):Ot A EA:=
 B.i B.z fun x0=>
 B.b B.F fun x1=>
 B.j l5 l6 (x.1,()) fun x2=>
 B.b (B.N x2.1) fun x3=>
 B.c x3.1 (B.i B.z fun x4=>
 B.b B.F fun x5=>
 B.r (x4.1,x5.1,()))<|
 B.b (B.e (B.y .mono (B.D .poly 0 .mono x.1)) B.z) fun x4=>
 B.c x4.1 (B.i B.z fun x5=>
 B.b B.T fun x6=>
 B.r (x5.1,x6.1,()))<|
 B.C (B.O (B.N (B.e (B.y .mono (B.D .poly 0 .mono x.1)) B.u)) (B.m B.z B.z))<|
 B.C (B.O (B.N (B.e (B.y .mono (B.D .poly 0 .mono x.1)) B.u)) (B.l B.z (B.y .mono (B.D .poly 0 .mono x.1))))<|
 B.b (B.a (B.e (B.y .mono (B.D .poly 0 .mono x.1)) B.u) (B.e (B.y .i64 (B.D .mono 1 .i64 (B.o .mono (B.D .poly 0 .mono x.1) B.z))) B.z) B.F) fun x5=>
 B.c x5.1 (B.w .mono (B.D .poly 0 .mono x.1) B.z<|
 B.i (B.f .mono 0 (B.o .mono (B.D .poly 0 .mono x.1) B.z)) fun x6=>
 B.b B.T fun x7=>
 B.r (x6.1,x7.1,()))<|
 B.i B.z fun x6=>
 B.b B.F fun x7=>
 B.r (x6.1,x7.1,())
def adV (x:Tup A.ah [.i]):Ot A wD:=
 B.i B.z fun x0=>
 B.i (A.arith .and .i64 x.1 (B.n 65535)) fun x1=>
 B.r (x1.1,())
def adW (Jq:Pt A o8) (Jr:Ft A o8) (x:Tup A.ah [.x .mono,.x .mono]):Ot A EB:=
 B.i B.z fun x0=>
 B.j Jq Jr (B.D .mono 1 .i64 x.1,B.D .mono 1 .i64 x.2.1,()) fun x1=>
 B.i x1.1 fun x2=>
 B.r (x2.1,())
def V9 (RP:Pt A EB) (RQ:Ft A EB) (x:Tup A.ah [.i,.i,.l .mono]):Ot A Ik:=
 B.i (B.p x.1 B.u) fun x0=>
 B.I [.i,.i,.i,.l .mono] (fun x1=>
 B.c (B.l x1.2.2.1 x1.2.1) (B.i x1.2.2.1 fun x2=>
 B.I [.i,.i,.i,.i,.l .mono] (fun x3=>
 B.C (B.O (B.N (B.g x3.2.2.2.1 x3.1)) (B.m B.z x3.2.2.2.1))<|
 B.C (B.O (B.N (B.g x3.2.2.2.1 x3.1)) (B.l x3.2.2.2.1 (B.y .mono x3.q.1)))<|
 B.C (B.O (B.N (B.g x3.2.2.2.1 x3.1)) (B.m B.z x3.2.2.2.1))<|
 B.C (B.O (B.N (B.g x3.2.2.2.1 x3.1)) (B.l x3.2.2.2.1 (B.y .mono x3.q.1)))<|
 B.C (B.O (B.N (B.g x3.2.2.2.1 x3.1)) (B.m B.z (B.q x3.2.2.2.1 B.u)))<|
 B.C (B.O (B.N (B.g x3.2.2.2.1 x3.1)) (B.l (B.q x3.2.2.2.1 B.u) (B.y .mono x3.q.1)))<|
 B.C (B.O (B.N (B.g x3.2.2.2.1 x3.1)) (B.m B.z (B.q x3.2.2.2.1 B.u)))<|
 B.C (B.O (B.N (B.g x3.2.2.2.1 x3.1)) (B.l (B.q x3.2.2.2.1 B.u) (B.y .mono x3.q.1)))<|
 B.k (B.g x3.2.2.2.1 x3.1) RP RQ (B.o .mono x3.q.1 x3.2.2.2.1,B.o .mono x3.q.1 (B.q x3.2.2.2.1 B.u),()) fun x4=>
 B.c (B.a (B.g x3.2.2.2.1 x3.1) (B.l x4.1 B.z) B.F) (B.w .mono x3.q.1 (B.q x3.2.2.2.1 B.u)<|
 B.w .mono x3.q.1 (B.q x3.2.2.2.1 B.u)<|
 B.w .mono x3.q.1 x3.2.2.2.1<|
 B.w .mono x3.q.1 x3.2.2.2.1<|
 B.w .mono x3.q.1 x3.2.2.2.1<|
 B.w .mono x3.q.1 x3.2.2.2.1<|
 B.s (.x .mono) (B.o .mono x3.q.1 (B.q x3.2.2.2.1 B.u)) fun x5=>
 B.w .mono (A.set .mono x3.q.1 x3.2.2.2.1 x5.1) (B.q x3.2.2.2.1 B.u)<|
 B.w .mono (A.set .mono x3.q.1 x3.2.2.2.1 x5.1) (B.q x3.2.2.2.1 B.u)<|
 B.s (.x .mono) (B.o .mono x3.q.1 x3.2.2.2.1) fun x6=>
 B.i (B.q x3.2.2.2.1 B.u) fun x7=>
 B.L (x3.1,x3.2.1,x3.2.2.1,x7.1,A.set .mono (A.set .mono x3.q.1 x3.2.2.2.1 x5.1) (B.q x3.2.2.2.1 B.u) x6.1,()))<|
 B.R<|B.i (B.p x3.2.2.1 B.u) fun x5=>
 B.L (x3.1,x3.2.1,x5.1,x3.q.1,())) (x1.1,x1.2.1,x1.2.2.1,x2.1,x1.2.2.2.1,()))<|
 B.R<|B.r (x1.2.2.2.1,())) (x.1,x.2.1,x0.1,x.2.2.1,())
def Wd (x:Tup A.ah [.i,.i,.i,.l .mono]):Ot A Il:=
 B.i B.z fun x0=>
 B.I [.i,.i,.i,.i,.l .mono] (fun x1=>
 B.c (B.l x1.2.2.2.1 x1.2.2.1) (B.w .mono x1.q.1 (B.p x1.2.1 x1.2.2.2.1)<|
 B.w .mono x1.q.1 (B.p x1.2.1 x1.2.2.2.1)<|
 B.w .mono x1.q.1 (B.p x1.1 x1.2.2.2.1)<|
 B.w .mono x1.q.1 (B.p x1.1 x1.2.2.2.1)<|
 B.w .mono x1.q.1 (B.p x1.1 x1.2.2.2.1)<|
 B.w .mono x1.q.1 (B.p x1.1 x1.2.2.2.1)<|
 B.s (.x .mono) (B.o .mono x1.q.1 (B.p x1.2.1 x1.2.2.2.1)) fun x2=>
 B.w .mono (A.set .mono x1.q.1 (B.p x1.1 x1.2.2.2.1) x2.1) (B.p x1.2.1 x1.2.2.2.1)<|
 B.w .mono (A.set .mono x1.q.1 (B.p x1.1 x1.2.2.2.1) x2.1) (B.p x1.2.1 x1.2.2.2.1)<|
 B.s (.x .mono) (B.o .mono x1.q.1 (B.p x1.1 x1.2.2.2.1)) fun x3=>
 B.i (B.p x1.2.2.2.1 B.u) fun x4=>
 B.L (x1.1,x1.2.1,x1.2.2.1,x4.1,A.set .mono (A.set .mono x1.q.1 (B.p x1.1 x1.2.2.2.1) x2.1) (B.p x1.2.1 x1.2.2.2.1) x3.1,()))<|
 B.R<|B.r (x1.q.1,())) (x.1,x.2.1,x.2.2.1,x0.1,x.2.2.2.1,())
def Wh (Wi:Pt A Il) (Wj:Ft A Il) (x:Tup A.ah [.i,.i,.i,.l .mono]):Ot A Im:=
 B.i (B.q x.2.1 x.1) fun x0=>
 B.i (B.q x.2.2.1 x.2.1) fun x1=>
 B.I [.i,.i,.i,.l .mono] (fun x2=>
 B.c (B.d x2.2.1 x2.2.2.1) (A.bind [.i,.i,.i,.l .mono] (B.c (B.g x2.2.1 x2.2.2.1) (B.j Wi Wj (B.q x2.1 x2.2.1,x2.1,x2.2.2.1,x2.2.2.2.1,()) fun x3=>
 B.i (B.q x2.2.1 x2.2.2.1) fun x4=>
 B.r (x2.1,x4.1,x2.2.2.1,x3.1,()))<|
 B.j Wi Wj (B.q x2.1 x2.2.1,B.q (B.p x2.1 x2.2.2.1) x2.2.1,x2.2.1,x2.2.2.2.1,()) fun x3=>
 B.i (B.q x2.2.2.1 x2.2.1) fun x4=>
 B.r (x2.1,x2.2.1,x4.1,x3.1,())) fun x3=>
 B.L (x3.1,x3.2.1,x3.2.2.1,x3.2.2.2.1,()))<|
 B.R<|B.j Wi Wj (B.q x2.1 x2.2.1,x2.1,x2.2.1,x2.2.2.2.1,()) fun x3=>
 B.r (x3.1,())) (x.2.1,x0.1,x1.1,x.2.2.2.1,())
def Js (RP:Pt A EB) (RQ:Ft A EB) (alc:Pt A Im) (ald:Ft A Im) (Jt:Pt A om) (Ju:Ft A om) (x:Tup A.ah [.i,.i,.i,.l .mono]):Ot A om:=
 B.c (B.e (B.q x.2.1 x.1) B.u) (B.i x.2.1 fun x0=>
 B.i x.2.2.1 fun x1=>
 B.I [.i,.i,.i,.l .mono] (fun x2=>
 B.c (B.l x2.2.1 x2.2.2.1) (B.C (B.m B.z B.u)<|
 B.i (A.conv .i64 (A.arith .shr .u64 (A.conv .u64 (B.p x2.2.1 x2.2.2.1)) B.u)) fun x3=>
 B.w .mono x2.2.2.2.1 x3.1<|
 B.w .mono x2.2.2.2.1 x3.1<|
 B.w .mono x2.2.2.2.1 x2.1<|
 B.w .mono x2.2.2.2.1 x2.1<|
 B.j RP RQ (B.o .mono x2.2.2.2.1 x3.1,B.o .mono x2.2.2.2.1 x2.1,()) fun x4=>
 A.bind [.i,.i,.i,.l .mono] (B.c (B.l x4.1 B.z) (B.i (B.p x3.1 B.u) fun x5=>
 B.r (x2.1,x5.1,x2.2.2.1,x2.2.2.2.1,()))<|
 B.i x3.1 fun x5=>
 B.r (x2.1,x2.2.1,x5.1,x2.2.2.2.1,())) fun x5=>
 B.L (x5.1,x5.2.1,x5.2.2.1,x5.2.2.2.1,()))<|
 B.R<|B.i x2.1 fun x3=>
 B.I [.i,.i,.l .mono] (fun x4=>
 B.c (B.l x4.2.1 (B.q x4.1 B.u)) (B.w .mono x4.2.2.1 (B.p x4.2.1 B.u)<|
 B.w .mono x4.2.2.1 (B.p x4.2.1 B.u)<|
 B.w .mono x4.2.2.1 x4.2.1<|
 B.w .mono x4.2.2.1 x4.2.1<|
 B.w .mono x4.2.2.1 x4.2.1<|
 B.w .mono x4.2.2.1 x4.2.1<|
 B.s (.x .mono) (B.o .mono x4.2.2.1 (B.p x4.2.1 B.u)) fun x5=>
 B.w .mono (A.set .mono x4.2.2.1 x4.2.1 x5.1) (B.p x4.2.1 B.u)<|
 B.w .mono (A.set .mono x4.2.2.1 x4.2.1 x5.1) (B.p x4.2.1 B.u)<|
 B.s (.x .mono) (B.o .mono x4.2.2.1 x4.2.1) fun x6=>
 B.i (B.p x4.2.1 B.u) fun x7=>
 B.L (x4.1,x7.1,A.set .mono (A.set .mono x4.2.2.1 x4.2.1 x5.1) (B.p x4.2.1 B.u) x6.1,()))<|
 B.R<|B.r (x4.2.2.1,())) (x2.2.1,x3.1,x2.2.2.2.1,())) (x.1,x0.1,x1.1,x.2.2.2.1,()))<|
 B.c (B.e (B.q x.2.2.1 x.2.1) B.u) (B.i x.1 fun x0=>
 B.i x.2.1 fun x1=>
 B.I [.i,.i,.i,.l .mono] (fun x2=>
 B.c (B.l x2.2.1 x2.2.2.1) (B.C (B.m B.z B.u)<|
 B.i (A.conv .i64 (A.arith .shr .u64 (A.conv .u64 (B.p x2.2.1 x2.2.2.1)) B.u)) fun x3=>
 B.w .mono x2.2.2.2.1 x2.1<|
 B.w .mono x2.2.2.2.1 x2.1<|
 B.w .mono x2.2.2.2.1 x3.1<|
 B.w .mono x2.2.2.2.1 x3.1<|
 B.j RP RQ (B.o .mono x2.2.2.2.1 x2.1,B.o .mono x2.2.2.2.1 x3.1,()) fun x4=>
 A.bind [.i,.i,.i,.l .mono] (B.c (B.N (B.l x4.1 B.z)) (B.i (B.p x3.1 B.u) fun x5=>
 B.r (x2.1,x5.1,x2.2.2.1,x2.2.2.2.1,()))<|
 B.i x3.1 fun x5=>
 B.r (x2.1,x2.2.1,x5.1,x2.2.2.2.1,())) fun x5=>
 B.L (x5.1,x5.2.1,x5.2.2.1,x5.2.2.2.1,()))<|
 B.R<|B.i x2.1 fun x3=>
 B.I [.i,.i,.l .mono] (fun x4=>
 B.c (B.g x4.2.1 x4.1) (B.w .mono x4.2.2.1 (B.q x4.2.1 B.u)<|
 B.w .mono x4.2.2.1 (B.q x4.2.1 B.u)<|
 B.w .mono x4.2.2.1 x4.2.1<|
 B.w .mono x4.2.2.1 x4.2.1<|
 B.w .mono x4.2.2.1 x4.2.1<|
 B.w .mono x4.2.2.1 x4.2.1<|
 B.s (.x .mono) (B.o .mono x4.2.2.1 (B.q x4.2.1 B.u)) fun x5=>
 B.w .mono (A.set .mono x4.2.2.1 x4.2.1 x5.1) (B.q x4.2.1 B.u)<|
 B.w .mono (A.set .mono x4.2.2.1 x4.2.1 x5.1) (B.q x4.2.1 B.u)<|
 B.s (.x .mono) (B.o .mono x4.2.2.1 x4.2.1) fun x6=>
 B.i (B.q x4.2.1 B.u) fun x7=>
 B.L (x4.1,x7.1,A.set .mono (A.set .mono x4.2.2.1 x4.2.1 x5.1) (B.q x4.2.1 B.u) x6.1,()))<|
 B.R<|B.r (x4.2.2.1,())) (x2.2.1,x3.1,x2.2.2.2.1,())) (x.2.1,x0.1,x1.1,x.2.2.2.1,()))<|
 B.C (B.m B.z B.u)<|
 B.i (A.conv .i64 (A.arith .shr .u64 (A.conv .u64 (B.p x.1 x.2.2.1)) B.u)) fun x0=>
 B.i (B.p x0.1 x.2.1) fun x1=>
 B.i B.z fun x2=>
 B.i B.z fun x3=>
 A.bind [.i,.i,.i,.i,.i,.i,.i,.l .mono] (B.c (B.g x.2.1 x0.1) (B.i (B.q x1.1 x.2.2.1) fun x4=>
 B.i x0.1 fun x5=>
 B.r (x.1,x.2.1,x.2.2.1,x0.1,x1.1,x4.1,x5.1,x.2.2.2.1,()))<|
 B.i x.1 fun x4=>
 B.i x.2.1 fun x5=>
 B.r (x.1,x.2.1,x.2.2.1,x0.1,x1.1,x4.1,x5.1,x.2.2.2.1,())) fun x4=>
 B.i (B.q x4.q.1 B.u) fun x5=>
 B.I [.i,.i,.i,.i,.i,.i,.i,.i,.l .mono] (fun x6=>
 B.c (B.l x6.q.2.1 x6.q.2.2.1) (B.C (B.m B.z B.u)<|
 B.i (A.conv .i64 (A.arith .shr .u64 (A.conv .u64 (B.p x6.q.2.1 x6.q.2.2.1)) B.u)) fun x7=>
 B.w .mono x6.o.1 (B.q x6.q.2.2.2.1 x7.1)<|
 B.w .mono x6.o.1 (B.q x6.q.2.2.2.1 x7.1)<|
 B.w .mono x6.o.1 x7.1<|
 B.w .mono x6.o.1 x7.1<|
 B.j RP RQ (B.o .mono x6.o.1 (B.q x6.q.2.2.2.1 x7.1),B.o .mono x6.o.1 x7.1,()) fun x8=>
 A.bind [.i,.i,.i,.i,.i,.i,.i,.i,.l .mono] (B.c (B.N (B.l x8.1 B.z)) (B.i (B.p x7.1 B.u) fun x9=>
 B.r (x6.1,x6.2.1,x6.2.2.1,x6.2.2.2.1,x6.q.1,x9.1,x6.q.2.2.1,x6.q.2.2.2.1,x6.o.1,()))<|
 B.i x7.1 fun x9=>
 B.r (x6.1,x6.2.1,x6.2.2.1,x6.2.2.2.1,x6.q.1,x6.q.2.1,x9.1,x6.q.2.2.2.1,x6.o.1,())) fun x9=>
 B.L (x9.1,x9.2.1,x9.2.2.1,x9.2.2.2.1,x9.q.1,x9.q.2.1,x9.q.2.2.1,x9.q.2.2.2.1,x9.o.1,()))<|
 B.R<|B.i (B.q x6.q.1 x6.q.2.1) fun x7=>
 A.bind [.i,.i,.i,.i,.i,.l .mono] (B.c (B.a (B.l x6.q.2.1 x6.2.1) (B.l x6.2.1 x7.1) B.F) (B.j alc ald (x6.q.2.1,x6.2.1,x7.1,x6.o.1,()) fun x8=>
 B.r (x6.1,x6.2.2.1,x6.2.2.2.1,x6.q.2.1,x7.1,x8.1,()))<|
 B.r (x6.1,x6.2.2.1,x6.2.2.2.1,x6.q.2.1,x7.1,x6.o.1,())) fun x8=>
 A.bind [.i,.i,.i,.l .mono] (B.c (B.a (B.l x8.1 x8.2.2.2.1) (B.l x8.2.2.2.1 x8.2.2.1) B.F) (B.j Jt Ju (x8.1,x8.2.2.2.1,x8.2.2.1,x8.q.2.1,()) fun x9=>
 B.r (x8.2.1,x8.2.2.1,x8.q.1,x9.1,()))<|
 B.r (x8.2.1,x8.2.2.1,x8.q.1,x8.q.2.1,())) fun x9=>
 A.bind [.l .mono] (B.c (B.a (B.l x9.2.1 x9.2.2.1) (B.l x9.2.2.1 x9.1) B.F) (B.j Jt Ju (x9.2.1,x9.2.2.1,x9.1,x9.2.2.2.1,()) fun x10=>
 B.r (x10.1,()))<|
 B.r (x9.2.2.2.1,())) fun x10=>
 B.r (x10.1,())) (x4.1,x4.2.1,x4.2.2.1,x4.2.2.2.1,x4.q.1,x4.q.2.1,x4.q.2.2.1,x5.1,x4.q.2.2.2.1,())
def Wm (adX:Pt A Ik) (adY:Ft A Ik) (Jt:Pt A om) (Ju:Ft A om) (x:Tup A.ah [.i,.l .mono]):Ot A Io:=
 B.i (B.n 20) fun x0=>
 B.i B.z fun x1=>
 B.i x0.1 fun x2=>
 B.I [.i,.i,.i,.i,.l .mono] (fun x3=>
 B.c (B.m x3.2.2.2.1 x3.1) (B.j adX adY (x3.2.2.1,x3.2.2.2.1,x3.q.1,()) fun x4=>
 B.i x3.2.2.2.1 fun x5=>
 B.i (B.p x3.2.2.2.1 x3.2.1) fun x6=>
 B.L (x3.1,x3.2.1,x5.1,x6.1,x4.1,()))<|
 B.R<|B.j adX adY (x3.2.2.1,x3.1,x3.q.1,()) fun x4=>
 B.I [.i,.i,.l .mono] (fun x5=>
 B.c (B.l x5.2.1 x5.1) (B.i B.z fun x6=>
 B.i (B.t (B.n 2) x5.2.1) fun x7=>
 B.I [.i,.i,.i,.i,.l .mono] (fun x8=>
 B.c (B.m x8.2.2.2.1 x8.1) (B.j Jt Ju (x8.2.2.1,B.p x8.2.2.1 x8.2.1,x8.2.2.2.1,x8.q.1,()) fun x9=>
 B.i x8.2.2.2.1 fun x10=>
 B.i (B.p x8.2.2.2.1 (B.t (B.n 2) x8.2.1)) fun x11=>
 B.L (x8.1,x8.2.1,x10.1,x11.1,x9.1,()))<|
 B.R<|B.i (B.p x8.2.2.1 x8.2.1) fun x9=>
 A.bind [.i,.i,.l .mono] (B.c (B.l x9.1 x8.1) (B.j Jt Ju (x8.2.2.1,x9.1,x8.1,x8.q.1,()) fun x10=>
 B.r (x8.1,x8.2.1,x10.1,()))<|
 B.r (x8.1,x8.2.1,x8.q.1,())) fun x10=>
 B.i (B.t x10.2.1 (B.n 2)) fun x11=>
 B.L (x10.1,x11.1,x10.2.2.1,())) (x5.1,x5.2.1,x6.1,x7.1,x5.2.2.1,()))<|
 B.R<|B.r (x5.2.2.1,())) (x3.1,x3.2.1,x4.1,())) (x.1,x0.1,x1.1,x2.1,x.2.1,())
def Wn (ale:Pt A Io) (alf:Ft A Io) (x:Tup A.ah [.l .mono]):Ot A Ip:=
 B.j ale alf (B.y .mono x.1,x.1,()) fun x0=>
 B.r (x0.1,())
def adZ (Jq:Pt A o8) (Jr:Ft A o8) (l5:Pt A iZ) (l6:Ft A iZ) (Jv:Pt A wD) (Jw:Ft A wD) (adI:Pt A Ey) (adJ:Ft A Ey) (alg:Pt A Ip) (alh:Ft A Ip) (x:Tup A.ah [.l .mono]):Ot A EC:=
 B.b B.F fun x0=>
 B.j alg alh (x.1,()) fun x1=>
 B.i B.z fun x2=>
 B.I [.i,.l .mono,.l .mono] (fun x3=>
 B.c (B.l x3.1 (B.y .mono x3.2.1)) (B.w .mono x3.2.1 x3.1<|
 B.w .mono x3.2.1 x3.1<|
 B.i B.z fun x4=>
 B.s (.x .mono) (B.o .mono x3.2.1 x3.1) fun x5=>
 B.I [.i,.i,.l .mono,.x .mono,.l .mono] (fun x6=>
 B.C (B.O (B.N (B.l x6.1 (B.y .mono x6.2.2.1))) (B.m B.z x6.1))<|
 B.C (B.O (B.N (B.l x6.1 (B.y .mono x6.2.2.1))) (B.l x6.1 (B.y .mono x6.2.2.1)))<|
 B.C (B.O (B.N (B.l x6.1 (B.y .mono x6.2.2.1))) (B.m B.z x6.1))<|
 B.C (B.O (B.N (B.l x6.1 (B.y .mono x6.2.2.1))) (B.l x6.1 (B.y .mono x6.2.2.1)))<|
 B.k (B.l x6.1 (B.y .mono x6.2.2.1)) Jq Jr (B.D .mono 1 .i64 x6.2.2.2.1,B.D .mono 1 .i64 (B.o .mono x6.2.2.1 x6.1),()) fun x7=>
 B.c (B.a (B.l x6.1 (B.y .mono x6.2.2.1)) (B.e x7.1 B.z) B.F) (B.w .mono x6.2.2.1 x6.1<|
 B.w .mono x6.2.2.1 x6.1<|
 B.j Jv Jw (B.p x6.2.1 (B.f .mono 0 (B.o .mono x6.2.2.1 x6.1)),()) fun x8=>
 B.i x8.1 fun x9=>
 B.i (B.p x6.1 B.u) fun x10=>
 B.L (x10.1,x9.1,x6.2.2.1,x6.2.2.2.1,x6.q.1,()))<|
 B.R<|A.bind [.i,.l .mono,.l .mono] (B.c (B.g x6.2.1 B.z) (B.j adI adJ (B.D .mono 1 .i64 x6.2.2.2.1,()) fun x8=>
 B.s (.l .mono) (A.lst .mono [B.x .mono (x6.2.1,x8.1,())]) fun x9=>
 B.C (B.m (A.addN (B.y .mono x6.q.1) (B.y .mono x9.1)) (B.n 1073741824))<|
 B.s (.l .mono) (A.app .mono x6.q.1 x9.1) fun x10=>
 B.r (x6.1,x6.2.2.1,x10.1,()))<|
 B.r (x6.1,x6.2.2.1,x6.q.1,())) fun x8=>
 B.L (x8.1,x8.2.1,x8.2.2.1,())) (x3.1,x4.1,x3.2.1,x5.1,x3.2.2.1,()))<|
 B.R<|B.j l5 l6 (B.x .poly (x3.2.2.1,()),()) fun x4=>
 B.c (B.N x4.1) (B.b B.F fun x5=>
 B.r (x5.1,x3.2.1,A.aN .mono,()))<|
 B.b B.T fun x5=>
 B.r (x5.1,x3.2.1,x3.2.2.1,())) (x2.1,x1.1,A.aN .mono,())
def ad1 (x:Tup A.ah [.i]):Ot A Rb:=
 B.c (B.l x.1 B.z) (A.fail)<|
 B.i (B.q x.1 (B.q B.z B.z)) fun x0=>
 A.bind [.l .mono] (B.c (B.g x0.1 B.z) (B.C (B.e B.z B.z)<|
 B.C (B.e B.z B.z)<|
 B.C (B.m B.z x0.1)<|
 B.C (B.m x0.1 (B.n 1073741824))<|
 B.C (B.m (B.y .mono (A.rep .mono x0.1 (B.x .mono (B.z,A.aN .i64,())))) (B.n 1073741824))<|
 B.s (.l .mono) (A.rep .mono x0.1 (B.x .mono (B.z,A.aN .i64,()))) fun x1=>
 B.C (B.m B.z B.z)<|
 B.C (B.m B.z B.z)<|
 B.C (B.m B.z (B.y .mono x1.1))<|
 B.C (B.e B.z B.z)<|
 B.C (B.m B.z (A.Au B.z B.z))<|
 B.C (B.m (A.Au B.z B.z) (B.y .mono x1.1))<|
 B.r (A.sub .mono x1.1 B.z (A.Au B.z B.z),()))<|
 B.r (A.aN .mono,())) fun x1=>
 B.r (x1.1,())
def ad2 (aud:Pt A Rb) (aue:Ft A Rb) (x:Tup A.ah [.l .poly]):Ot A Rc:=
 B.i B.z fun x0=>
 B.I [.l .poly,.i,.l .poly,.i,.i] (fun x1=>
 B.c (B.l x1.q.1 x1.2.2.2.1) (B.w .poly x1.2.2.1 x1.q.1<|
 B.s (.l .mono) (B.D .poly 0 .mono (B.o .poly x1.2.2.1 x1.q.1)) fun x2=>
 B.i (B.p x1.2.1 (B.y .mono x2.1)) fun x3=>
 B.c (B.l x3.1 B.z) (A.fail)<|
 B.L (x1.1,x3.1,x1.2.2.1,x1.2.2.2.1,B.p x1.q.1 B.u,()))<|
 B.R<|B.j aud aue (x1.2.1,()) fun x2=>
 B.I [.l .poly,.i,.i,.l .mono] (fun x3=>
 B.c (B.l x3.2.2.1 x3.2.1) (B.w .poly x3.1 x3.2.2.1<|
 B.s (.l .mono) (B.D .poly 0 .mono (B.o .poly x3.1 x3.2.2.1)) fun x4=>
 B.C (B.m (A.addN (B.y .mono x3.2.2.2.1) (B.y .mono x4.1)) (B.n 1073741824))<|
 B.s (.l .mono) (A.app .mono x3.2.2.2.1 x4.1) fun x5=>
 B.L (x3.1,x3.2.1,B.p x3.2.2.1 B.u,x5.1,()))<|
 B.R<|B.r (x3.2.2.2.1,())) (x1.1,B.y .poly x1.1,B.z,x2.1,())) (x.1,x0.1,x.1,B.y .poly x.1,B.z,())
def ad3 (l5:Pt A iZ) (l6:Ft A iZ) (ad4:Pt A EC) (ad5:Ft A EC) (auf:Pt A Rc) (aug:Ft A Rc) (x:Tup A.ah [.x .poly,.x .poly]):Ot A Rf:=
 B.b B.F fun x0=>
 B.j l5 l6 (x.1,()) fun x1=>
 B.k (B.N (B.N x1.1)) l5 l6 (x.2.1,()) fun x2=>
 B.c (B.a (B.N x1.1) B.T (B.N x2.1)) (B.b B.F fun x3=>
 B.r (x3.1,A.aN .mono,()))<|
 B.s (.l .poly) (A.lst .poly [B.x .poly (B.D .poly 0 .mono x.1,()),B.x .poly (B.D .poly 0 .mono x.2.1,())]) fun x3=>
 B.j auf aug (x3.1,()) fun x4=>
 B.j ad4 ad5 (x4.1,()) fun x5=>
 B.b x5.1 fun x6=>
 B.r (x6.1,x5.2.2.1,())
def Wo (x:Tup A.ah [.i]):Ot A Iq:=
 B.c (B.l x.1 B.z) (A.fail)<|
 B.i (B.q x.1 (B.q B.z B.z)) fun x0=>
 A.bind [.l .i64] (B.c (B.g x0.1 B.z) (B.C (B.e B.z B.z)<|
 B.C (B.e B.z B.z)<|
 B.C (B.m B.z x0.1)<|
 B.C (B.m x0.1 (B.n 1073741824))<|
 B.C (B.m (B.y .i64 (A.rep .i64 x0.1 (B.x .i64 (B.z,())))) (B.n 1073741824))<|
 B.s (.l .i64) (A.rep .i64 x0.1 (B.x .i64 (B.z,()))) fun x1=>
 B.C (B.m B.z B.z)<|
 B.C (B.m B.z B.z)<|
 B.C (B.m B.z (B.y .i64 x1.1))<|
 B.C (B.e B.z B.z)<|
 B.C (B.m B.z (A.Au B.z B.z))<|
 B.C (B.m (A.Au B.z B.z) (B.y .i64 x1.1))<|
 B.r (A.sub .i64 x1.1 B.z (A.Au B.z B.z),()))<|
 B.r (A.aN .i64,())) fun x1=>
 B.r (x1.1,())
def ad6 (ali:Pt A Iq) (alj:Ft A Iq) (x:Tup A.ah [.l .ints]):Ot A Rh:=
 B.i B.z fun x0=>
 B.I [.l .ints,.i,.l .ints,.i,.i] (fun x1=>
 B.c (B.l x1.q.1 x1.2.2.2.1) (B.w .ints x1.2.2.1 x1.q.1<|
 B.s (.l .i64) (B.D .ints 0 .i64 (B.o .ints x1.2.2.1 x1.q.1)) fun x2=>
 B.i (B.p x1.2.1 (B.y .i64 x2.1)) fun x3=>
 B.c (B.l x3.1 B.z) (A.fail)<|
 B.L (x1.1,x3.1,x1.2.2.1,x1.2.2.2.1,B.p x1.q.1 B.u,()))<|
 B.R<|B.j ali alj (x1.2.1,()) fun x2=>
 B.I [.l .ints,.i,.i,.l .i64] (fun x3=>
 B.c (B.l x3.2.2.1 x3.2.1) (B.w .ints x3.1 x3.2.2.1<|
 B.s (.l .i64) (B.D .ints 0 .i64 (B.o .ints x3.1 x3.2.2.1)) fun x4=>
 B.C (B.m (A.addN (B.y .i64 x3.2.2.2.1) (B.y .i64 x4.1)) (B.n 1073741824))<|
 B.s (.l .i64) (A.app .i64 x3.2.2.2.1 x4.1) fun x5=>
 B.L (x3.1,x3.2.1,B.p x3.2.2.1 B.u,x5.1,()))<|
 B.R<|B.r (x3.2.2.2.1,())) (x1.1,B.y .ints x1.1,B.z,x2.1,())) (x.1,x0.1,x.1,B.y .ints x.1,B.z,())
def Wp (adf:Pt A Ig) (adg:Ft A Ig) (x:Tup A.ah [.i,.i,.l .i64]):Ot A Ir:=
 B.i (B.p x.1 B.u) fun x0=>
 B.I [.i,.i,.i,.l .i64] (fun x1=>
 B.c (B.l x1.2.2.1 x1.2.1) (B.i x1.2.2.1 fun x2=>
 B.I [.i,.i,.i,.i,.l .i64] (fun x3=>
 B.C (B.O (B.N (B.g x3.2.2.2.1 x3.1)) (B.m B.z x3.2.2.2.1))<|
 B.C (B.O (B.N (B.g x3.2.2.2.1 x3.1)) (B.l x3.2.2.2.1 (B.y .i64 x3.q.1)))<|
 B.C (B.O (B.N (B.g x3.2.2.2.1 x3.1)) (B.m B.z x3.2.2.2.1))<|
 B.C (B.O (B.N (B.g x3.2.2.2.1 x3.1)) (B.l x3.2.2.2.1 (B.y .i64 x3.q.1)))<|
 B.C (B.O (B.N (B.g x3.2.2.2.1 x3.1)) (B.m B.z (B.q x3.2.2.2.1 B.u)))<|
 B.C (B.O (B.N (B.g x3.2.2.2.1 x3.1)) (B.l (B.q x3.2.2.2.1 B.u) (B.y .i64 x3.q.1)))<|
 B.C (B.O (B.N (B.g x3.2.2.2.1 x3.1)) (B.m B.z (B.q x3.2.2.2.1 B.u)))<|
 B.C (B.O (B.N (B.g x3.2.2.2.1 x3.1)) (B.l (B.q x3.2.2.2.1 B.u) (B.y .i64 x3.q.1)))<|
 B.k (B.g x3.2.2.2.1 x3.1) adf adg (B.f .i64 0 (B.o .i64 x3.q.1 x3.2.2.2.1),B.f .i64 0 (B.o .i64 x3.q.1 (B.q x3.2.2.2.1 B.u)),()) fun x4=>
 B.c (B.a (B.g x3.2.2.2.1 x3.1) x4.1 B.F) (B.w .i64 x3.q.1 (B.q x3.2.2.2.1 B.u)<|
 B.w .i64 x3.q.1 (B.q x3.2.2.2.1 B.u)<|
 B.w .i64 x3.q.1 x3.2.2.2.1<|
 B.w .i64 x3.q.1 x3.2.2.2.1<|
 B.w .i64 x3.q.1 x3.2.2.2.1<|
 B.w .i64 x3.q.1 x3.2.2.2.1<|
 B.i (B.f .i64 0 (B.o .i64 x3.q.1 (B.q x3.2.2.2.1 B.u))) fun x5=>
 B.w .i64 (A.set .i64 x3.q.1 x3.2.2.2.1 (B.x .i64 (x5.1,()))) (B.q x3.2.2.2.1 B.u)<|
 B.w .i64 (A.set .i64 x3.q.1 x3.2.2.2.1 (B.x .i64 (x5.1,()))) (B.q x3.2.2.2.1 B.u)<|
 B.i (B.f .i64 0 (B.o .i64 x3.q.1 x3.2.2.2.1)) fun x6=>
 B.i (B.q x3.2.2.2.1 B.u) fun x7=>
 B.L (x3.1,x3.2.1,x3.2.2.1,x7.1,A.set .i64 (A.set .i64 x3.q.1 x3.2.2.2.1 (B.x .i64 (x5.1,()))) (B.q x3.2.2.2.1 B.u) (B.x .i64 (x6.1,())),()))<|
 B.R<|B.i (B.p x3.2.2.1 B.u) fun x5=>
 B.L (x3.1,x3.2.1,x5.1,x3.q.1,())) (x1.1,x1.2.1,x1.2.2.1,x2.1,x1.2.2.2.1,()))<|
 B.R<|B.r (x1.2.2.2.1,())) (x.1,x.2.1,x0.1,x.2.2.1,())
def Wq (adf:Pt A Ig) (adg:Ft A Ig) (alk:Pt A Ir) (alm:Ft A Ir) (aln:Pt A Iu) (alo:Ft A Iu) (alp:Pt A Iw) (alq:Ft A Iw) (alr:Pt A Iy) (als:Ft A Iy) (alu:Pt A Iz) (alv:Ft A Iz) (alx:Pt A IB) (aly:Ft A IB) (alz:Pt A IC) (alA:Ft A IC) (alB:Pt A IE) (alC:Ft A IE) (NV:Pt A qg) (NW:Ft A qg) (x:Tup A.ah [.i,.i,.i,.l .i64]):Ot A qg:=
 B.b B.T fun x0=>
 B.b B.T fun x1=>
 B.I [.i,.i,.i,.b,.b,.l .i64] (fun x2=>
 A.kZ [.i,.i,.i,.b,.b,.l .i64] (B.i (B.q x2.2.1 x2.1) fun x3=>
 B.c (B.m x3.1 (B.n 12)) (B.j alk alm (x2.1,x2.2.1,x2.q.2.1,()) fun x4=>
 B.R<|B.R<|B.r (x4.1,()))<|
 B.c (B.e x2.2.2.1 B.z) (B.j aln alo (x2.1,x2.2.1,x2.q.2.1,()) fun x4=>
 B.R<|B.R<|B.r (x4.1,()))<|
 A.bind [.i,.i,.i,.b,.b,.i,.l .i64] (B.c (B.N x2.2.2.2.1) (B.j alp alq (x2.1,x2.2.1,x2.q.2.1,()) fun x4=>
 B.i (B.q x2.2.2.1 B.u) fun x5=>
 B.r (x2.1,x2.2.1,x5.1,x2.2.2.2.1,x2.q.1,x3.1,x4.1,()))<|
 B.r (x2.1,x2.2.1,x2.2.2.1,x2.2.2.2.1,x2.q.1,x3.1,x2.q.2.1,())) fun x4=>
 B.j alr als (x4.1,x4.2.1,x4.q.2.2.1,()) fun x5=>
 B.i x5.1 fun x6=>
 B.i x5.2.1 fun x7=>
 A.bind [.i,.i,.i,.b,.b,.i,.i,.i,.l .i64] (B.c (B.e x7.1 (B.n 2)) (B.j alu alv (x4.1,x4.2.1,x5.2.2.1,()) fun x8=>
 B.i (B.q (B.q x4.2.1 B.u) (B.q x6.1 x4.1)) fun x9=>
 B.i B.u fun x10=>
 B.r (x4.1,x4.2.1,x4.2.2.1,x4.2.2.2.1,x4.q.1,x4.q.2.1,x9.1,x10.1,x8.1,()))<|
 B.r (x4.1,x4.2.1,x4.2.2.1,x4.2.2.2.1,x4.q.1,x4.q.2.1,x6.1,x7.1,x5.2.2.1,())) fun x8=>
 A.kZ [.i,.i,.i,.b,.b,.i,.i,.l .i64] (B.c (B.a (B.a x8.2.2.2.1 x8.q.1 B.F) (B.e x8.q.2.2.2.1 B.u) B.F) (B.j alx aly (x8.1,x8.2.1,x8.o.1,()) fun x9=>
 B.c x9.1 (B.R<|B.R<|B.R<|B.r (x9.2.1,()))<|
 B.L (x8.1,x8.2.1,x8.2.2.1,x8.2.2.2.1,x8.q.1,x8.q.2.1,x8.q.2.2.1,x9.2.1,()))<|
 B.L (x8.1,x8.2.1,x8.2.2.1,x8.2.2.2.1,x8.q.1,x8.q.2.1,x8.q.2.2.1,x8.o.1,())) fun x9=>
 B.C (B.O (B.N (B.g x9.1 B.z)) (B.m B.z (B.q x9.1 B.u)))<|
 B.C (B.O (B.N (B.g x9.1 B.z)) (B.l (B.q x9.1 B.u) (B.y .i64 x9.q.2.2.2.1)))<|
 B.C (B.O (B.N (B.g x9.1 B.z)) (B.m B.z (B.q x9.1 B.u)))<|
 B.C (B.O (B.N (B.g x9.1 B.z)) (B.l (B.q x9.1 B.u) (B.y .i64 x9.q.2.2.2.1)))<|
 B.C (B.O (B.N (B.g x9.1 B.z)) (B.m B.z x9.q.2.2.1))<|
 B.C (B.O (B.N (B.g x9.1 B.z)) (B.l x9.q.2.2.1 (B.y .i64 x9.q.2.2.2.1)))<|
 B.C (B.O (B.N (B.g x9.1 B.z)) (B.m B.z x9.q.2.2.1))<|
 B.C (B.O (B.N (B.g x9.1 B.z)) (B.l x9.q.2.2.1 (B.y .i64 x9.q.2.2.2.1)))<|
 B.k (B.g x9.1 B.z) adf adg (B.f .i64 0 (B.o .i64 x9.q.2.2.2.1 (B.q x9.1 B.u)),B.f .i64 0 (B.o .i64 x9.q.2.2.2.1 x9.q.2.2.1),()) fun x10=>
 B.c (B.a (B.g x9.1 B.z) (B.N x10.1) B.F) (B.j alz alA (x9.1,x9.2.1,x9.q.2.2.1,x9.q.2.2.2.1,()) fun x11=>
 B.i x11.1 fun x12=>
 B.i x12.1 fun x13=>
 B.L (x13.1,x9.2.1,x9.2.2.1,x9.2.2.2.1,x9.q.1,x11.2.1,()))<|
 B.j alB alC (x9.1,x9.2.1,x9.q.2.2.1,x9.q.2.2.2.1,()) fun x11=>
 B.i x11.1 fun x12=>
 B.b x11.2.1 fun x13=>
 B.b x13.1 fun x14=>
 B.i (B.q x12.1 x9.1) fun x15=>
 B.i (B.q x9.2.1 x12.1) fun x16=>
 B.C (B.d (B.n 8) B.z)<|
 B.i (A.arith .quo .i64 x9.q.2.1 (B.n 8)) fun x17=>
 A.bind [.i,.i,.i,.b,.b,.l .i64] (B.c (B.l x15.1 x16.1) (B.b (B.h x15.1 x17.1) fun x18=>
 B.j NV NW (x9.1,x12.1,x9.2.2.1,x11.2.2.1,()) fun x19=>
 B.i (B.p x12.1 B.u) fun x20=>
 B.r (x20.1,x9.2.1,x9.2.2.1,x18.1,x14.1,x19.1,()))<|
 B.b (B.h x16.1 x17.1) fun x18=>
 B.j NV NW (B.p x12.1 B.u,x9.2.1,x9.2.2.1,x11.2.2.1,()) fun x19=>
 B.i x12.1 fun x20=>
 B.r (x9.1,x20.1,x9.2.2.1,x18.1,x14.1,x19.1,())) fun x18=>
 B.L (x18.1,x18.2.1,x18.2.2.1,x18.2.2.2.1,x18.q.1,x18.q.2.1,())) fun x3=>
 B.L (x3.1,x3.2.1,x3.2.2.1,x3.2.2.2.1,x3.q.1,x3.q.2.1,())) (x.1,x.2.1,x.2.2.1,x0.1,x1.1,x.2.2.2.1,())
def Ws (NV:Pt A qg) (NW:Ft A qg) (auh:Pt A ZK) (aui:Ft A ZK) (x:Tup A.ah [.l .i64]):Ot A IG:=
 B.i (B.y .i64 x.1) fun x0=>
 B.j auh aui (A.conv .u64 x0.1,()) fun x1=>
 B.j NV NW (B.z,x0.1,x1.1,x.1,()) fun x2=>
 B.r (x2.1,())
def ad7 (l5:Pt A iZ) (l6:Ft A iZ) (Jv:Pt A wD) (Jw:Ft A wD) (ad4:Pt A EC) (ad5:Ft A EC) (auj:Pt A Rh) (auk:Ft A Rh) (alD:Pt A IG) (alE:Ft A IG) (x:Tup A.ah [.x .poly,.x .poly]):Ot A ED:=
 B.b B.F fun x0=>
 B.j l5 l6 (x.1,()) fun x1=>
 B.k (B.N (B.N x1.1)) l5 l6 (x.2.1,()) fun x2=>
 B.c (B.a (B.N x1.1) B.T (B.N x2.1)) (B.b B.F fun x3=>
 B.r (x3.1,A.aN .mono,()))<|
 B.I [.l .mono,.i,.i,.x .poly,.l .mono] (fun x3=>
 B.c (B.l x3.2.2.1 x3.2.1) (B.w .mono x3.1 x3.2.2.1<|
 B.s (.x .mono) (B.o .mono x3.1 x3.2.2.1) fun x4=>
 B.I [.l .mono,.i,.i,.l .mono,.i,.i,.x .poly,.l .mono,.x .mono] (fun x5=>
 B.c (B.l x5.q.2.1 x5.q.1) (B.w .mono x5.2.2.2.1 x5.q.2.1<|
 B.s (.x .mono) (B.o .mono x5.2.2.2.1 x5.q.2.1) fun x6=>
 B.s (.l .ints) (A.lst .ints [B.x .ints (B.D .mono 1 .i64 x5.o.1,()),B.x .ints (B.D .mono 1 .i64 x6.1,())]) fun x7=>
 B.j auj auk (x7.1,()) fun x8=>
 B.j alD alE (x8.1,()) fun x9=>
 B.j Jv Jw (B.t (B.f .mono 0 x5.o.1) (B.f .mono 0 x6.1),()) fun x10=>
 B.s (.l .mono) (A.lst .mono [B.x .mono (x10.1,x9.1,())]) fun x11=>
 B.C (B.m (A.addN (B.y .mono x5.q.2.2.2.1) (B.y .mono x11.1)) (B.n 1073741824))<|
 B.s (.l .mono) (A.app .mono x5.q.2.2.2.1 x11.1) fun x12=>
 B.L (x5.1,x5.2.1,x5.2.2.1,x5.2.2.2.1,x5.q.1,B.p x5.q.2.1 B.u,x5.q.2.2.1,x12.1,x5.o.1,()))<|
 B.R<|B.L (x5.1,x5.2.1,B.p x5.2.2.1 B.u,x5.q.2.2.1,x5.q.2.2.2.1,())) (x3.1,x3.2.1,x3.2.2.1,B.D .poly 0 .mono x3.2.2.2.1,B.y .mono (B.D .poly 0 .mono x3.2.2.2.1),B.z,x3.2.2.2.1,x3.q.1,x4.1,()))<|
 B.R<|B.j ad4 ad5 (x3.q.1,()) fun x4=>
 B.b x4.1 fun x5=>
 B.r (x5.1,x4.2.2.1,())) (B.D .poly 0 .mono x.1,B.y .mono (B.D .poly 0 .mono x.1),B.z,x.2.1,A.aN .mono,())
def ad8 (l5:Pt A iZ) (l6:Ft A iZ) (RS:Pt A wC) (RU:Ft A wC) (wO:Pt A lZ) (wP:Ft A lZ) (ad9:Pt A ED) (aea:Ft A ED) (x:Tup A.ah [.x .poly,.i]):Ot A Ri:=
 B.j l5 l6 (x.1,()) fun x0=>
 B.k (B.N (B.N x0.1)) wO wP (x.2.1,()) fun x1=>
 B.c (B.a (B.N x0.1) B.T (B.N x1.1)) (B.r (A.aN .mono,()))<|
 B.j RS RU (x.2.1,()) fun x2=>
 B.j ad9 aea (x.1,B.x .poly (x2.1,()),()) fun x3=>
 B.b x3.1 fun x4=>
 B.r (x3.2.1,())
def aeb (wO:Pt A lZ) (wP:Ft A lZ) (Jv:Pt A wD) (Jw:Ft A wD) (x:Tup A.ah [.i,.i,.i]):Ot A Rj:=
 B.i B.z fun x0=>
 B.j wO wP (x.2.1,()) fun x1=>
 B.k (B.N (B.N x1.1)) wO wP (x.2.2.1,()) fun x2=>
 B.c (B.a (B.N x1.1) B.T (B.N x2.1)) (B.i B.z fun x3=>
 B.r (x3.1,()))<|
 B.b (B.e x.1 B.u) fun x3=>
 B.c x3.1 (B.j Jv Jw (B.p x.2.1 x.2.2.1,()) fun x4=>
 B.i x4.1 fun x5=>
 B.r (x5.1,()))<|
 B.b (B.e x.1 (B.n 2)) fun x4=>
 B.c x4.1 (B.j Jv Jw (B.q x.2.1 x.2.2.1,()) fun x5=>
 B.i x5.1 fun x6=>
 B.r (x6.1,()))<|
 B.b (B.e x.1 (B.n 3)) fun x5=>
 B.c x5.1 (B.j Jv Jw (B.t x.2.1 x.2.2.1,()) fun x6=>
 B.i x6.1 fun x7=>
 B.r (x7.1,()))<|
 B.b (B.e x.1 (B.n 4)) fun x6=>
 B.c x6.1 (B.i (A.arith .and .i64 x.2.1 x.2.2.1) fun x7=>
 B.r (x7.1,()))<|
 B.b (B.e x.1 (B.n 5)) fun x7=>
 B.c x7.1 (B.i (A.arith .xor .i64 x.2.1 x.2.2.1) fun x8=>
 B.r (x8.1,()))<|
 B.i B.z fun x8=>
 B.r (x8.1,())
def aec (mW:Pt A kg) (mX:Ft A kg) (RS:Pt A wC) (RU:Ft A wC) (aul:Pt A Rj) (aum:Ft A Rj) (aiw:Pt A Rf) (aix:Ft A Rf) (ad9:Pt A ED) (aea:Ft A ED) (aun:Pt A Ri) (auo:Ft A Ri) (RV:Pt A EA) (RX:Ft A EA) (x:Tup A.ah [.i,.x .poly,.x .poly]):Ot A Rk:=
 B.b B.F fun x0=>
 B.b (B.e x.1 B.u) fun x1=>
 B.c x1.1 (B.j aiw aix (x.2.1,x.2.2.1,()) fun x2=>
 B.b x2.1 fun x3=>
 B.r (B.x .poly (x2.2.1,()),x3.1,()))<|
 B.b (B.e x.1 (B.n 2)) fun x2=>
 B.c x2.1 (B.j aun auo (x.2.2.1,B.n 65535,()) fun x3=>
 B.j aiw aix (x.2.1,B.x .poly (x3.1,()),()) fun x4=>
 B.b x4.1 fun x5=>
 B.r (B.x .poly (x4.2.1,()),x5.1,()))<|
 B.b (B.e x.1 (B.n 3)) fun x3=>
 B.c x3.1 (B.j ad9 aea (x.2.1,x.2.2.1,()) fun x4=>
 B.b x4.1 fun x5=>
 B.r (B.x .poly (x4.2.1,()),x5.1,()))<|
 B.j RV RX (x.2.1,()) fun x4=>
 B.i x4.1 fun x5=>
 B.b x4.2.1 fun x6=>
 B.j RV RX (x.2.2.1,()) fun x7=>
 B.i x7.1 fun x8=>
 B.b x7.2.1 fun x9=>
 B.b (B.a x6.1 x9.1 B.F) fun x10=>
 B.c x10.1 (B.j aul aum (x.1,x5.1,x8.1,()) fun x11=>
 B.j RS RU (x11.1,()) fun x12=>
 B.b B.T fun x13=>
 B.r (B.x .poly (x12.1,()),x13.1,()))<|
 B.j mW mX (x.2.1,x.2.2.1,()) fun x11=>
 B.b (B.a x11.1 (B.e x.1 (B.n 4)) B.F) fun x12=>
 B.c x12.1 (B.s (.x .poly) x.2.1 fun x13=>
 B.b B.T fun x14=>
 B.r (x13.1,x14.1,()))<|
 B.j mW mX (x.2.1,x.2.2.1,()) fun x13=>
 B.b x13.1 fun x14=>
 B.c x14.1 (B.b B.T fun x15=>
 B.r (B.x .poly (A.aN .mono,()),x15.1,()))<|
 A.bind [.i,.i,.b,.x .poly] (B.c x6.1 (B.s (.x .poly) x.2.2.1 fun x15=>
 B.i x5.1 fun x16=>
 B.b B.T fun x17=>
 B.r (x.1,x16.1,x17.1,x15.1,()))<|
 B.r (x.1,x8.1,x9.1,x.2.1,())) fun x15=>
 B.b (B.a (B.a x15.2.2.1 (B.e x15.1 (B.n 4)) B.F) (B.e x15.2.1 B.z) B.F) fun x16=>
 B.c x16.1 (B.b B.T fun x17=>
 B.r (B.x .poly (A.aN .mono,()),x17.1,()))<|
 B.b (B.a x15.2.2.1 (B.a (B.a (B.e x15.1 (B.n 4)) (B.e x15.2.1 (B.n 65535)) B.F) B.T (B.a (B.e x15.1 (B.n 5)) (B.e x15.2.1 B.z) B.F)) B.F) fun x17=>
 B.c x17.1 (B.s (.x .poly) x15.2.2.2.1 fun x18=>
 B.b B.T fun x19=>
 B.r (x18.1,x19.1,()))<|
 B.b B.F fun x18=>
 B.r (B.x .poly (A.aN .mono,()),x18.1,())
def aed (RN:Pt A wz) (RO:Ft A wz) (aup:Pt A Rk) (auq:Ft A Rk) (adD:Pt A Er) (adE:Ft A Er) (adB:Pt A Es) (adC:Ft A Es) (x:Tup A.ah [.x .tab,.i,.x .poly,.x .poly]):Ot A Rl:=
 B.b B.F fun x0=>
 B.j aup auq (x.2.1,x.2.2.1,x.2.2.2.1,()) fun x1=>
 B.s (.x .poly) x1.1 fun x2=>
 B.b x1.2.1 fun x3=>
 B.c x3.1 (B.s (.x .tab) x.1 fun x4=>
 B.s (.x .poly) x2.1 fun x5=>
 B.b B.T fun x6=>
 B.r (x4.1,x5.1,x6.1,()))<|
 B.k (B.d x.2.1 (B.n 2)) RN RO (x.2.2.1,x.2.2.2.1,()) fun x4=>
 A.bind [.i,.x .tab,.x .poly,.x .poly] (B.c (B.a (B.d x.2.1 (B.n 2)) (B.g x4.1 B.z) B.F) (B.s (.x .poly) x.2.2.2.1 fun x5=>
 B.s (.x .poly) x.2.2.1 fun x6=>
 B.r (x.2.1,x.1,x5.1,x6.1,()))<|
 B.r (x.2.1,x.1,x.2.2.1,x.2.2.2.1,())) fun x5=>
 B.j adD adE (x5.2.1,B.x .atom (B.n 4,x5.1,B.D .poly 0 .mono x5.2.2.1,B.D .poly 0 .mono x5.2.2.2.1,()),()) fun x6=>
 B.s (.x .tab) x6.1 fun x7=>
 B.i x6.2.1 fun x8=>
 B.c (B.l x8.1 B.z) (B.b B.F fun x9=>
 B.r (B.x .tab (A.aN .atom,()),B.x .poly (A.aN .mono,()),x9.1,()))<|
 B.j adB adC (x8.1,()) fun x9=>
 B.s (.x .tab) x7.1 fun x10=>
 B.b B.T fun x11=>
 B.r (x10.1,B.x .poly (x9.1,()),x11.1,())
def aee (BQ:Pt A wB) (BR:Ft A wB) (x:Tup A.ah [.l .poly]):Ot A Rm:=
 B.I [.l .poly,.i,.i,.l .poly] (fun x0=>
 B.c (B.l x0.2.2.1 x0.2.1) (B.w .poly x0.1 x0.2.2.1<|
 B.s (.x .poly) (B.o .poly x0.1 x0.2.2.1) fun x1=>
 B.j BQ BR (x1.1,()) fun x2=>
 B.s (.l .poly) (A.lst .poly [B.x .poly (x2.1,())]) fun x3=>
 B.C (B.m (A.addN (B.y .poly x0.2.2.2.1) (B.y .poly x3.1)) (B.n 1073741824))<|
 B.s (.l .poly) (A.app .poly x0.2.2.2.1 x3.1) fun x4=>
 B.L (x0.1,x0.2.1,B.p x0.2.2.1 B.u,x4.1,()))<|
 B.R<|B.r (x0.2.2.2.1,())) (x.1,B.y .poly x.1,B.z,A.aN .poly,())
def aef (BQ:Pt A wB) (BR:Ft A wB) (aiy:Pt A Rm) (aiz:Ft A Rm) (x:Tup A.ah [.x .sym]):Ot A Rn:=
 B.j aiy aiz (B.D .sym 1 .poly x.1,()) fun x0=>
 B.j BQ BR (B.x .poly (B.D .sym 3 .mono x.1,()),()) fun x1=>
 B.j BQ BR (B.x .poly (B.D .sym 4 .mono x.1,()),()) fun x2=>
 B.I [.l .ev,.i,.i,.i,.i,.i,.i,.l .ev,.l .poly,.l .mono,.l .mono] (fun x3=>
 B.c (B.l x3.2.2.1 x3.2.1) (B.w .ev x3.1 x3.2.2.1<|
 B.s (.x .ev) (B.o .ev x3.1 x3.2.2.1) fun x4=>
 B.j BQ BR (B.x .poly (B.D .ev 2 .mono x4.1,()),()) fun x5=>
 B.j BQ BR (B.x .poly (B.D .ev 3 .mono x4.1,()),()) fun x6=>
 B.j aiy aiz (B.D .ev 4 .poly x4.1,()) fun x7=>
 B.s (.l .ev) (A.lst .ev [B.x .ev (B.f .ev 0 x4.1,B.f .ev 1 x4.1,x5.1,x6.1,x7.1,())]) fun x8=>
 B.C (B.m (A.addN (B.y .ev x3.q.2.2.2.1) (B.y .ev x8.1)) (B.n 1073741824))<|
 B.s (.l .ev) (A.app .ev x3.q.2.2.2.1 x8.1) fun x9=>
 B.L (x3.1,x3.2.1,B.p x3.2.2.1 B.u,x3.2.2.2.1,x3.q.1,x3.q.2.1,x3.q.2.2.1,x9.1,x3.o.1,x3.o.2.1,x3.o.2.2.1,()))<|
 B.R<|B.r (x3.q.2.1,x3.q.2.2.1,x3.q.2.2.2.1,x3.o.1,x3.o.2.1,x3.o.2.2.1,())) (B.D .sym 0 .ev x.1,B.y .ev (B.D .sym 0 .ev x.1),B.z,B.z,B.z,B.f .sym 2 x.1,B.f .sym 5 x.1,A.aN .ev,x0.1,x1.1,x2.1,())
def aeg (wO:Pt A lZ) (wP:Ft A lZ) (x:Tup A.ah [.i,.i,.i]):Ot A Ro:=
 B.b B.F fun x0=>
 B.j wO wP (x.2.1,()) fun x1=>
 B.k x1.1 wO wP (x.2.2.1,()) fun x2=>
 B.v (B.a (B.a x1.1 x2.1 B.F) (B.a (B.a (B.e x.1 B.u) (B.e x.2.1 x.2.2.1) B.F) B.T (B.a (B.e x.1 (B.n 2)) (B.l x.2.1 x.2.2.1) B.F)) B.F)
def aeh (RV:Pt A EA) (RX:Ft A EA) (l5:Pt A iZ) (l6:Ft A iZ) (RN:Pt A wz) (RO:Ft A wz) (aur:Pt A Rn) (aus:Ft A Rn) (mW:Pt A kg) (mX:Ft A kg) (aut:Pt A Ro) (auu:Ft A Ro) (x:Tup A.ah [.x .sym,.i]):Ot A Rp:=
 B.j l5 l6 (B.x .poly (B.D .sym 3 .mono x.1,()),()) fun x0=>
 B.k (B.N (B.N x0.1)) l5 l6 (B.x .poly (B.D .sym 4 .mono x.1,()),()) fun x1=>
 B.c (B.a (B.N x0.1) B.T (B.N x1.1)) (B.r (B.x .sym (A.aN .ev,A.aN .poly,B.z,A.aN .mono,A.aN .mono,B.z,()),()))<|
 B.j aur aus (x.1,()) fun x2=>
 B.j RV RX (B.x .poly (B.D .sym 3 .mono x.1,()),()) fun x3=>
 B.i x3.1 fun x4=>
 B.b x3.2.1 fun x5=>
 B.j RV RX (B.x .poly (B.D .sym 4 .mono x.1,()),()) fun x6=>
 B.i x6.1 fun x7=>
 B.b x6.2.1 fun x8=>
 B.i (B.p (B.q (B.f .sym 2 x.1) (B.n 3)) B.u) fun x9=>
 B.b (B.a (B.e (B.f .sym 2 x.1) (B.n 2)) x5.1 B.F) fun x10=>
 A.bind [.i,.i,.i,.i,.l .ev,.l .poly,.l .mono,.l .mono] (B.c x10.1 (B.i B.u fun x11=>
 B.i x4.1 fun x12=>
 B.r (B.z,B.z,x11.1,x12.1,x2.2.2.1,x2.2.2.2.1,A.aN .mono,A.aN .mono,()))<|
 B.b (B.a (B.d (B.f .sym 2 x.1) (B.n 3)) (B.d (B.f .sym 2 x.1) (B.n 4)) B.F) fun x11=>
 A.bind [.i,.i,.i,.i,.l .ev,.l .poly,.l .mono,.l .mono] (B.c x11.1 (B.r (B.z,B.z,x2.1,x2.2.1,x2.2.2.1,x2.2.2.2.1,x2.q.1,x2.q.2.1,()))<|
 B.j mW mX (B.x .poly (B.D .sym 3 .mono x.1,()),B.x .poly (B.D .sym 4 .mono x.1,()),()) fun x12=>
 B.b (B.a x12.1 B.T (B.a x5.1 x8.1 B.F)) fun x13=>
 A.bind [.i,.i,.i,.i,.l .ev,.l .poly,.l .mono,.l .mono] (B.c x13.1 (B.j mW mX (B.x .poly (B.D .sym 3 .mono x.1,()),B.x .poly (B.D .sym 4 .mono x.1,()),()) fun x14=>
 B.k (A.jD (B.N (B.a x14.1 (B.e (B.f .sym 2 x.1) (B.n 3)) B.F)) (B.a x5.1 x8.1 B.F)) aut auu (x9.1,x4.1,x7.1,()) fun x15=>
 B.b (B.a (B.a x14.1 (B.e (B.f .sym 2 x.1) (B.n 3)) B.F) B.T (B.a (B.a x5.1 x8.1 B.F) x15.1 B.F)) fun x16=>
 B.i B.u fun x17=>
 A.bind [.i,.i,.i,.i,.l .ev,.l .poly] (B.c (B.N x16.1) (B.i x.2.1 fun x18=>
 B.r (B.z,B.z,x17.1,x18.1,x2.2.2.1,x2.2.2.2.1,()))<|
 B.r (B.z,B.z,x17.1,x2.2.1,x2.2.2.1,x2.2.2.2.1,())) fun x18=>
 B.r (x18.1,x18.2.1,x18.2.2.1,x18.2.2.2.1,x18.q.1,x18.q.2.1,A.aN .mono,A.aN .mono,()))<|
 B.k (B.e (B.f .sym 2 x.1) (B.n 3)) RN RO (B.x .poly (B.D .sym 3 .mono x.1,()),B.x .poly (B.D .sym 4 .mono x.1,()),()) fun x14=>
 B.b (B.a (B.e (B.f .sym 2 x.1) (B.n 3)) (B.g x14.1 B.z) B.F) fun x15=>
 A.bind [.i,.i,.i,.i,.l .ev,.l .poly,.l .mono,.l .mono] (B.c x15.1 (B.r (B.z,B.z,x2.1,x2.2.1,x2.2.2.1,x2.2.2.2.1,x2.q.2.1,x2.q.1,()))<|
 B.r (B.z,B.z,x2.1,x2.2.1,x2.2.2.1,x2.2.2.2.1,x2.q.1,x2.q.2.1,())) fun x16=>
 B.r (x16.1,x16.2.1,x16.2.2.1,x16.2.2.2.1,x16.q.1,x16.q.2.1,x16.q.2.2.1,x16.q.2.2.2.1,())) fun x14=>
 B.r (x14.1,x14.2.1,x14.2.2.1,x14.2.2.2.1,x14.q.1,x14.q.2.1,x14.q.2.2.1,x14.q.2.2.2.1,())) fun x12=>
 B.r (x12.1,x12.2.1,x12.2.2.1,x12.2.2.2.1,x12.q.1,x12.q.2.1,x12.q.2.2.1,x12.q.2.2.2.1,())) fun x11=>
 B.r (B.x .sym (x11.q.1,x11.q.2.1,x11.2.2.1,x11.q.2.2.1,x11.q.2.2.2.1,x11.2.2.2.1,()),())
def aei (ac1:Pt A Ej) (ac2:Ft A Ej) (ZR:Pt A El) (ZT:Ft A El) (auv:Pt A Q9) (auw:Ft A Q9) (acV:Pt A Ee) (acW:Ft A Ee) (RS:Pt A wC) (RU:Ft A wC) (auy:Pt A Rp) (auz:Ft A Rp) (auA:Pt A Q8) (auB:Ft A Q8) (adM:Pt A Ez) (adN:Ft A Ez) (auC:Pt A Rl) (auD:Ft A Rl) (ZP:Pt A Eu) (ZQ:Ft A Eu) (adO:Pt A Ew) (adP:Ft A Ew) (auE:Pt A Ra) (auF:Ft A Ra) (x:Tup A.ah [.x .tab,.x .blk]):Ot A Rq:=
 B.j auA auB (x.1,()) fun x0=>
 B.k (B.N (B.a (B.N x0.1) B.T (B.g (B.y .atom (B.D .tab 0 .atom x.1)) (B.n 100)))) ZR ZT (x.2.1,()) fun x1=>
 B.c (B.a (B.a (B.N x0.1) B.T (B.g (B.y .atom (B.D .tab 0 .atom x.1)) (B.n 100))) B.T (B.N x1.1)) (B.r (B.x .tab (A.aN .atom,()),B.x .sym (A.aN .ev,A.aN .poly,B.z,A.aN .mono,A.aN .mono,B.z,()),()))<|
 B.j adO adP (B.D .tab 0 .atom x.1,B.F,()) fun x2=>
 B.C (B.e (B.y .iop (B.D .blk 2 .iop x.2.1)) (B.y .iop (B.D .blk 2 .iop x.2.1)))<|
 B.C (B.m B.z (B.y .iop (B.D .blk 2 .iop x.2.1)))<|
 B.C (B.m (B.y .iop (B.D .blk 2 .iop x.2.1)) (B.n 1073741824))<|
 B.s (.l .poly) (A.rep .poly (B.y .iop (B.D .blk 2 .iop x.2.1)) (B.x .poly (A.aN .mono,()))) fun x3=>
 B.i B.z fun x4=>
 B.i B.z fun x5=>
 B.I [.i,.i,.l .iop,.i,.i,.x .blk,.i,.i,.l .atom,.b,.i,.i,.l .poly,.l .ev,.l .poly] (fun x6=>
 B.c (B.l x6.q.1 x6.2.2.2.1) (B.w .iop x6.2.2.1 x6.q.1<|
 B.i x6.q.1 fun x7=>
 B.s (.x .iop) (B.o .iop x6.2.2.1 x6.q.1) fun x8=>
 B.j acV acW (x8.1,()) fun x9=>
 B.b x9.1 fun x10=>
 B.b x9.2.1 fun x11=>
 B.b x9.2.2.1 fun x12=>
 B.b x9.2.2.2.1 fun x13=>
 A.bind [.i,.i,.i,.b,.l .iop,.i,.i,.x .blk,.i,.i,.l .atom,.b,.i,.i,.l .poly,.x .iop,.x .poly,.l .ev,.l .poly] (B.c x10.1 (B.w .poly x6.o.q.1 (B.f .iop 1 x8.1)<|
 B.w .poly x6.o.q.1 (B.f .iop 1 x8.1)<|
 B.s (.x .poly) (B.o .poly x6.o.q.1 (B.f .iop 1 x8.1)) fun x14=>
 B.r (x6.1,x6.2.1,x7.1,x11.1,x6.2.2.1,x6.2.2.2.1,x6.q.1,x6.q.2.1,x6.q.2.2.1,x6.q.2.2.2.1,x6.o.1,x6.o.2.1,x6.o.2.2.1,x6.o.2.2.2.1,x6.o.q.1,x8.1,x14.1,x6.o.q.2.1,x6.o.q.2.2.1,()))<|
 B.r (x6.1,x6.2.1,x7.1,x11.1,x6.2.2.1,x6.2.2.2.1,x6.q.1,x6.q.2.1,x6.q.2.2.1,x6.q.2.2.2.1,x6.o.1,x6.o.2.1,x6.o.2.2.1,x6.o.2.2.2.1,x6.o.q.1,x8.1,B.x .poly (A.aN .mono,()),x6.o.q.2.1,x6.o.q.2.2.1,())) fun x14=>
 A.bind [.i,.i,.i,.l .iop,.i,.i,.x .blk,.i,.i,.l .atom,.b,.i,.i,.l .poly,.x .iop,.x .poly,.x .poly,.l .ev,.l .poly] (B.c x14.2.2.2.1 (B.w .poly x14.o.q.2.2.1 (B.f .iop 2 x14.o.q.2.2.2.1)<|
 B.w .poly x14.o.q.2.2.1 (B.f .iop 2 x14.o.q.2.2.2.1)<|
 B.s (.x .poly) (B.o .poly x14.o.q.2.2.1 (B.f .iop 2 x14.o.q.2.2.2.1)) fun x15=>
 B.r (x14.1,x14.2.1,x14.2.2.1,x14.q.1,x14.q.2.1,x14.q.2.2.1,x14.q.2.2.2.1,x14.o.1,x14.o.2.1,x14.o.2.2.1,x14.o.2.2.2.1,x14.o.q.1,x14.o.q.2.1,x14.o.q.2.2.1,x14.o.q.2.2.2.1,x14.o.o.1,x15.1,x14.o.o.2.1,x14.o.o.2.2.1,()))<|
 B.r (x14.1,x14.2.1,x14.2.2.1,x14.q.1,x14.q.2.1,x14.q.2.2.1,x14.q.2.2.2.1,x14.o.1,x14.o.2.1,x14.o.2.2.1,x14.o.2.2.2.1,x14.o.q.1,x14.o.q.2.1,x14.o.q.2.2.1,x14.o.q.2.2.2.1,x14.o.o.1,B.x .poly (A.aN .mono,()),x14.o.o.2.1,x14.o.o.2.2.1,())) fun x15=>
 B.j auv auw (x15.o.q.2.2.1,()) fun x16=>
 A.bind [.i,.i,.i,.l .iop,.i,.i,.x .blk,.i,.i,.l .atom,.b,.i,.i,.l .poly,.x .iop,.x .poly,.x .poly,.l .ev,.l .poly] (B.c x16.1 (A.bind [.i,.i,.i,.l .iop,.i,.i,.x .blk,.i,.i,.l .atom,.b,.i,.i,.l .poly,.x .iop,.x .poly,.x .poly,.i,.i,.l .mono,.l .mono,.l .ev,.l .poly,.l .poly] (B.c (B.a (B.e (B.f .iop 0 x15.o.q.2.2.1) (B.n 4)) B.T (B.e (B.f .iop 0 x15.o.q.2.2.1) (B.n 5))) (B.j auE auF (x15.o.o.2.2.1,()) fun x17=>
 B.r (x15.1,x15.2.1,x15.2.2.1,x15.2.2.2.1,x15.q.1,x15.q.2.1,x15.q.2.2.1,x15.q.2.2.2.1,x15.o.1,x15.o.2.1,x15.o.2.2.1,x15.o.2.2.2.1,x15.o.q.1,x15.o.q.2.1,x15.o.q.2.2.1,x15.o.q.2.2.2.1,x15.o.o.1,B.f .iop 0 x15.o.q.2.2.1,B.f .iop 4 x15.o.q.2.2.1,B.D .poly 0 .mono x15.o.q.2.2.2.1,B.D .poly 0 .mono x15.o.o.1,x15.o.o.2.1,x17.1,x17.2.1,()))<|
 B.r (x15.1,x15.2.1,x15.2.2.1,x15.2.2.2.1,x15.q.1,x15.q.2.1,x15.q.2.2.1,x15.q.2.2.2.1,x15.o.1,x15.o.2.1,x15.o.2.2.1,x15.o.2.2.2.1,x15.o.q.1,x15.o.q.2.1,x15.o.q.2.2.1,x15.o.q.2.2.2.1,x15.o.o.1,B.f .iop 0 x15.o.q.2.2.1,B.f .iop 4 x15.o.q.2.2.1,B.D .poly 0 .mono x15.o.q.2.2.2.1,B.D .poly 0 .mono x15.o.o.1,x15.o.o.2.1,x15.o.o.2.2.1,A.aN .poly,())) fun x17=>
 B.s (.l .ev) (A.lst .ev [B.x .ev (x17.o.o.2.1,x17.o.o.2.2.1,x17.o.o.2.2.2.1,x17.o.o.q.1,x17.o.o.q.2.2.2.1,())]) fun x18=>
 B.C (B.m (A.addN (B.y .ev x17.o.o.q.2.1) (B.y .ev x18.1)) (B.n 1073741824))<|
 B.s (.l .ev) (A.app .ev x17.o.o.q.2.1 x18.1) fun x19=>
 B.r (x17.1,x17.2.1,x17.2.2.1,x17.2.2.2.1,x17.q.1,x17.q.2.1,x17.q.2.2.1,x17.q.2.2.2.1,x17.o.1,x17.o.2.1,x17.o.2.2.1,x17.o.2.2.2.1,x17.o.q.1,x17.o.q.2.1,x17.o.q.2.2.1,x17.o.q.2.2.2.1,x17.o.o.1,x19.1,x17.o.o.q.2.2.1,()))<|
 B.r (x15.1,x15.2.1,x15.2.2.1,x15.2.2.2.1,x15.q.1,x15.q.2.1,x15.q.2.2.1,x15.q.2.2.2.1,x15.o.1,x15.o.2.1,x15.o.2.2.1,x15.o.2.2.2.1,x15.o.q.1,x15.o.q.2.1,x15.o.q.2.2.1,x15.o.q.2.2.2.1,x15.o.o.1,x15.o.o.2.1,x15.o.o.2.2.1,())) fun x17=>
 B.b (B.e (B.f .iop 0 x17.o.q.2.2.1) B.u) fun x18=>
 A.kZ [.i,.i,.l .iop,.i,.i,.x .blk,.i,.i,.l .atom,.b,.i,.i,.l .poly,.l .ev,.l .poly] (B.c x18.1 (B.j RS RU (B.f .iop 3 x17.o.q.2.2.1,()) fun x19=>
 B.w .poly x17.o.q.2.1 x17.2.2.1<|
 B.w .poly x17.o.q.2.1 x17.2.2.1<|
 B.L (x17.1,x17.2.1,x17.2.2.2.1,x17.q.1,x17.q.2.1,x17.q.2.2.1,x17.q.2.2.2.1,x17.o.1,x17.o.2.1,x17.o.2.2.1,x17.o.2.2.2.1,x17.o.q.1,A.set .poly x17.o.q.2.1 x17.2.2.1 (B.x .poly (x19.1,())),x17.o.o.2.1,x17.o.o.2.2.1,()))<|
 B.b (B.e (B.f .iop 0 x17.o.q.2.2.1) (B.n 2)) fun x19=>
 A.kZ [.i,.i,.l .iop,.i,.i,.x .blk,.i,.i,.l .atom,.b,.i,.i,.l .poly,.l .ev,.l .poly] (B.c x19.1 (B.w .poly x17.o.o.2.2.1 (B.f .iop 3 x17.o.q.2.2.1)<|
 B.w .poly x17.o.o.2.2.1 (B.f .iop 3 x17.o.q.2.2.1)<|
 B.w .poly x17.o.q.2.1 x17.2.2.1<|
 B.w .poly x17.o.q.2.1 x17.2.2.1<|
 B.s (.x .poly) (B.o .poly x17.o.o.2.2.1 (B.f .iop 3 x17.o.q.2.2.1)) fun x20=>
 B.L (x17.1,x17.2.1,x17.2.2.2.1,x17.q.1,x17.q.2.1,x17.q.2.2.1,x17.q.2.2.2.1,x17.o.1,x17.o.2.1,x17.o.2.2.1,x17.o.2.2.2.1,x17.o.q.1,A.set .poly x17.o.q.2.1 x17.2.2.1 x20.1,x17.o.o.2.1,x17.o.o.2.2.1,()))<|
 B.b (B.e (B.f .iop 0 x17.o.q.2.2.1) (B.n 3)) fun x20=>
 A.kZ [.i,.i,.l .iop,.i,.i,.x .blk,.i,.i,.l .atom,.b,.i,.i,.l .poly,.l .ev,.l .poly] (B.c x20.1 (B.j auC auD (B.x .tab (x17.o.2.1,()),B.f .iop 3 x17.o.q.2.2.1,x17.o.q.2.2.2.1,x17.o.o.1,()) fun x21=>
 B.s (.x .tab) x21.1 fun x22=>
 B.s (.x .poly) x21.2.1 fun x23=>
 B.b x21.2.2.1 fun x24=>
 B.c (B.N x24.1) (B.R<|B.R<|B.R<|B.R<|B.r (B.x .tab (A.aN .atom,()),B.x .sym (A.aN .ev,A.aN .poly,B.z,A.aN .mono,A.aN .mono,B.z,()),()))<|
 B.s (.x .tab) x22.1 fun x25=>
 B.w .poly x17.o.q.2.1 x17.2.2.1<|
 B.w .poly x17.o.q.2.1 x17.2.2.1<|
 B.s (.x .poly) x23.1 fun x26=>
 B.L (x17.1,x17.2.1,x17.2.2.2.1,x17.q.1,x17.q.2.1,x17.q.2.2.1,x17.q.2.2.2.1,x17.o.1,B.D .tab 0 .atom x25.1,x17.o.2.2.1,x17.o.2.2.2.1,x17.o.q.1,A.set .poly x17.o.q.2.1 x17.2.2.1 x26.1,x17.o.o.2.1,x17.o.o.2.2.1,()))<|
 B.b (B.e (B.f .iop 0 x17.o.q.2.2.1) (B.n 4)) fun x21=>
 A.bind [.i,.i,.l .iop,.i,.i,.x .blk,.i,.i,.l .atom,.b,.i,.i,.l .poly,.l .ev,.l .poly] (B.c x21.1 (B.j ZP ZQ (B.n 2,x17.1,x17.o.2.1,x17.o.2.2.1,()) fun x22=>
 B.w .poly x17.o.q.2.1 x17.2.2.1<|
 B.w .poly x17.o.q.2.1 x17.2.2.1<|
 B.s (.x .poly) x22.1 fun x23=>
 B.i (B.p x17.1 B.u) fun x24=>
 B.r (x24.1,x17.2.1,x17.2.2.2.1,x17.q.1,x17.q.2.1,x17.q.2.2.1,x17.q.2.2.2.1,x17.o.1,x22.2.1,x22.2.2.1,x17.o.2.2.2.1,x17.o.q.1,A.set .poly x17.o.q.2.1 x17.2.2.1 x23.1,x17.o.o.2.1,x17.o.o.2.2.1,()))<|
 B.b (B.e (B.f .iop 0 x17.o.q.2.2.1) (B.n 6)) fun x22=>
 A.bind [.i,.i,.l .iop,.i,.i,.x .blk,.i,.i,.l .atom,.b,.i,.i,.l .poly,.l .ev,.l .poly] (B.c x22.1 (B.j ZP ZQ (B.n 3,x17.2.1,x17.o.2.1,x17.o.2.2.1,()) fun x23=>
 B.w .poly x17.o.q.2.1 x17.2.2.1<|
 B.w .poly x17.o.q.2.1 x17.2.2.1<|
 B.s (.x .poly) x23.1 fun x24=>
 B.i (B.p x17.2.1 B.u) fun x25=>
 B.r (x17.1,x25.1,x17.2.2.2.1,x17.q.1,x17.q.2.1,x17.q.2.2.1,x17.q.2.2.2.1,x17.o.1,x23.2.1,x23.2.2.1,x17.o.2.2.2.1,x17.o.q.1,A.set .poly x17.o.q.2.1 x17.2.2.1 x24.1,x17.o.o.2.1,x17.o.o.2.2.1,()))<|
 B.b (B.e (B.f .iop 0 x17.o.q.2.2.1) (B.n 8)) fun x23=>
 A.bind [.i,.i,.l .iop,.i,.i,.x .blk,.i,.i,.l .atom,.b,.i,.i,.l .poly,.l .ev,.l .poly] (B.c x23.1 (B.w .poly x17.o.o.2.2.1 (B.f .iop 3 x17.o.q.2.2.1)<|
 B.w .poly x17.o.o.2.2.1 (B.f .iop 3 x17.o.q.2.2.1)<|
 B.s (.x .poly) x17.o.q.2.2.2.1 fun x24=>
 B.r (x17.1,x17.2.1,x17.2.2.2.1,x17.q.1,x17.q.2.1,x17.q.2.2.1,x17.q.2.2.2.1,x17.o.1,x17.o.2.1,x17.o.2.2.1,x17.o.2.2.2.1,x17.o.q.1,x17.o.q.2.1,x17.o.o.2.1,A.set .poly x17.o.o.2.2.1 (B.f .iop 3 x17.o.q.2.2.1) x24.1,()))<|
 B.r (x17.1,x17.2.1,x17.2.2.2.1,x17.q.1,x17.q.2.1,x17.q.2.2.1,x17.q.2.2.2.1,x17.o.1,x17.o.2.1,x17.o.2.2.1,x17.o.2.2.2.1,x17.o.q.1,x17.o.q.2.1,x17.o.o.2.1,x17.o.o.2.2.1,())) fun x24=>
 B.r (x24.1,x24.2.1,x24.2.2.1,x24.2.2.2.1,x24.q.1,x24.q.2.1,x24.q.2.2.1,x24.q.2.2.2.1,x24.o.1,x24.o.2.1,x24.o.2.2.1,x24.o.2.2.2.1,x24.o.q.1,x24.o.q.2.1,x24.o.q.2.2.1,())) fun x23=>
 B.r (x23.1,x23.2.1,x23.2.2.1,x23.2.2.2.1,x23.q.1,x23.q.2.1,x23.q.2.2.1,x23.q.2.2.2.1,x23.o.1,x23.o.2.1,x23.o.2.2.1,x23.o.2.2.2.1,x23.o.q.1,x23.o.q.2.1,x23.o.q.2.2.1,())) fun x22=>
 B.L (x22.1,x22.2.1,x22.2.2.1,x22.2.2.2.1,x22.q.1,x22.q.2.1,x22.q.2.2.1,x22.q.2.2.2.1,x22.o.1,x22.o.2.1,x22.o.2.2.1,x22.o.2.2.2.1,x22.o.q.1,x22.o.q.2.1,x22.o.q.2.2.1,())) fun x21=>
 B.L (x21.1,x21.2.1,x21.2.2.1,x21.2.2.2.1,x21.q.1,x21.q.2.1,x21.q.2.2.1,x21.q.2.2.2.1,x21.o.1,x21.o.2.1,x21.o.2.2.1,x21.o.2.2.2.1,x21.o.q.1,x21.o.q.2.1,x21.o.q.2.2.1,())) fun x20=>
 B.L (x20.1,x20.2.1,x20.2.2.1,x20.2.2.2.1,x20.q.1,x20.q.2.1,x20.q.2.2.1,x20.q.2.2.2.1,x20.o.1,x20.o.2.1,x20.o.2.2.1,x20.o.2.2.2.1,x20.o.q.1,x20.o.q.2.1,x20.o.q.2.2.1,())) fun x19=>
 B.L (x19.1,x19.2.1,x19.2.2.1,x19.2.2.2.1,B.p x19.q.1 B.u,x19.q.2.1,x19.q.2.2.1,x19.q.2.2.2.1,x19.o.1,x19.o.2.1,x19.o.2.2.1,x19.o.2.2.2.1,x19.o.q.1,x19.o.q.2.1,x19.o.q.2.2.1,()))<|
 B.R<|B.j ac1 ac2 (x6.q.2.1,()) fun x7=>
 B.b x7.1 fun x8=>
 B.b x7.2.1 fun x9=>
 B.b x7.2.2.1 fun x10=>
 A.bind [.b,.x .blk,.i,.i,.l .atom,.b,.i,.l .mono,.i,.l .poly,.l .ev,.l .poly] (B.c x8.1 (B.w .poly x6.o.q.1 (B.f .blk 4 x6.q.2.1)<|
 B.w .poly x6.o.q.1 (B.f .blk 4 x6.q.2.1)<|
 B.s (.x .poly) (B.o .poly x6.o.q.1 (B.f .blk 4 x6.q.2.1)) fun x11=>
 B.r (x9.1,x6.q.2.1,x6.q.2.2.1,x6.q.2.2.2.1,x6.o.1,x6.o.2.1,x6.o.2.2.1,B.D .poly 0 .mono x11.1,x6.o.2.2.2.1,x6.o.q.1,x6.o.q.2.1,x6.o.q.2.2.1,()))<|
 B.r (x9.1,x6.q.2.1,x6.q.2.2.1,x6.q.2.2.2.1,x6.o.1,x6.o.2.1,x6.o.2.2.1,A.aN .mono,x6.o.2.2.2.1,x6.o.q.1,x6.o.q.2.1,x6.o.q.2.2.1,())) fun x11=>
 A.bind [.x .blk,.i,.i,.l .atom,.b,.i,.l .mono,.l .mono,.i,.l .ev,.l .poly] (B.c x11.1 (B.w .poly x11.o.2.1 (B.f .blk 5 x11.2.1)<|
 B.w .poly x11.o.2.1 (B.f .blk 5 x11.2.1)<|
 B.s (.x .poly) (B.o .poly x11.o.2.1 (B.f .blk 5 x11.2.1)) fun x12=>
 B.r (x11.2.1,x11.2.2.1,x11.2.2.2.1,x11.q.1,x11.q.2.1,x11.q.2.2.1,x11.q.2.2.2.1,B.D .poly 0 .mono x12.1,x11.o.1,x11.o.2.2.1,x11.o.2.2.2.1,()))<|
 B.r (x11.2.1,x11.2.2.1,x11.2.2.2.1,x11.q.1,x11.q.2.1,x11.q.2.2.1,x11.q.2.2.2.1,A.aN .mono,x11.o.1,x11.o.2.2.1,x11.o.2.2.2.1,())) fun x12=>
 B.c x12.q.1 (B.r (B.x .tab (A.aN .atom,()),B.x .sym (A.aN .ev,A.aN .poly,B.z,A.aN .mono,A.aN .mono,B.z,()),()))<|
 B.j adM adN (B.x .tab (x12.2.2.2.1,()),()) fun x13=>
 B.j auy auz (B.x .sym (x12.o.2.1,x12.o.2.2.1,x12.q.2.1,x12.q.2.2.1,x12.q.2.2.2.1,x12.o.1,()),B.p (B.f .blk 0 x12.1) (B.f .blk 1 x12.1),()) fun x14=>
 B.s (.x .sym) x14.1 fun x15=>
 B.r (B.x .tab (x13.1,()),x15.1,())) (x4.1,x5.1,B.D .blk 2 .iop x.2.1,B.y .iop (B.D .blk 2 .iop x.2.1),B.z,x.2.1,B.z,B.z,x2.1,x2.2.1,B.f .blk 3 x.2.1,B.f .blk 6 x.2.1,x3.1,A.aN .ev,x2.2.2.1,())
def aej (mW:Pt A kg) (mX:Ft A kg) (x:Tup A.ah [.x .poly,.x .poly]):Ot A Rs:=
 B.b B.F fun x0=>
 B.j mW mX (x.1,x.2.1,()) fun x1=>
 B.v x1.1
def aek (auG:Pt A Rs) (auH:Ft A Rs) (x:Tup A.ah [.l .poly,.l .poly]):Ot A Rt:=
 B.b B.F fun x0=>
 B.c (B.d (B.y .poly x.1) (B.y .poly x.2.1)) (B.v B.F)<|
 B.I [.l .poly,.l .poly,.i,.i] (fun x1=>
 B.c (B.l x1.2.2.2.1 x1.2.2.1) (B.w .poly x1.2.1 x1.2.2.2.1<|
 B.i x1.2.2.2.1 fun x2=>
 B.s (.x .poly) (B.o .poly x1.2.1 x1.2.2.2.1) fun x3=>
 B.w .poly x1.1 x2.1<|
 B.s (.x .poly) (B.o .poly x1.1 x2.1) fun x4=>
 B.j auG auH (x3.1,x4.1,()) fun x5=>
 B.c (B.N x5.1) (B.b B.F fun x6=>
 B.R<|B.r (x6.1,()))<|
 B.L (x1.1,x1.2.1,x1.2.2.1,B.p x1.2.2.2.1 B.u,()))<|
 B.R<|B.v B.T) (x.2.1,x.1,B.y .poly x.1,B.z,())
def ael (auI:Pt A Rt) (auJ:Ft A Rt) (x:Tup A.ah [.l .poly,.l .poly]):Ot A EF:=
 B.b B.F fun x0=>
 B.j auI auJ (x.1,x.2.1,()) fun x1=>
 B.v x1.1
def aem (mW:Pt A kg) (mX:Ft A kg) (aen:Pt A EF) (aeo:Ft A EF) (x:Tup A.ah [.x .ev,.x .ev]):Ot A Rv:=
 B.b B.F fun x0=>
 B.k (B.a (B.e (B.f .ev 0 x.1) (B.f .ev 0 x.2.1)) (B.e (B.f .ev 1 x.1) (B.f .ev 1 x.2.1)) B.F) mW mX (B.x .poly (B.D .ev 2 .mono x.1,()),B.x .poly (B.D .ev 2 .mono x.2.1,()),()) fun x1=>
 B.k (B.a (B.a (B.e (B.f .ev 0 x.1) (B.f .ev 0 x.2.1)) (B.e (B.f .ev 1 x.1) (B.f .ev 1 x.2.1)) B.F) x1.1 B.F) mW mX (B.x .poly (B.D .ev 3 .mono x.1,()),B.x .poly (B.D .ev 3 .mono x.2.1,()),()) fun x2=>
 B.k (B.a (B.a (B.a (B.e (B.f .ev 0 x.1) (B.f .ev 0 x.2.1)) (B.e (B.f .ev 1 x.1) (B.f .ev 1 x.2.1)) B.F) x1.1 B.F) x2.1 B.F) aen aeo (B.D .ev 4 .poly x.1,B.D .ev 4 .poly x.2.1,()) fun x3=>
 B.v (B.a (B.a (B.a (B.a (B.e (B.f .ev 0 x.1) (B.f .ev 0 x.2.1)) (B.e (B.f .ev 1 x.1) (B.f .ev 1 x.2.1)) B.F) x1.1 B.F) x2.1 B.F) x3.1 B.F)
def aep (auK:Pt A Rv) (auL:Ft A Rv) (x:Tup A.ah [.l .ev,.l .ev]):Ot A Rw:=
 B.b B.F fun x0=>
 B.c (B.d (B.y .ev x.1) (B.y .ev x.2.1)) (B.v B.F)<|
 B.I [.l .ev,.l .ev,.i,.i] (fun x1=>
 B.c (B.l x1.2.2.2.1 x1.2.2.1) (B.w .ev x1.2.1 x1.2.2.2.1<|
 B.i x1.2.2.2.1 fun x2=>
 B.s (.x .ev) (B.o .ev x1.2.1 x1.2.2.2.1) fun x3=>
 B.w .ev x1.1 x2.1<|
 B.s (.x .ev) (B.o .ev x1.1 x2.1) fun x4=>
 B.j auK auL (x3.1,x4.1,()) fun x5=>
 B.c (B.N x5.1) (B.b B.F fun x6=>
 B.R<|B.r (x6.1,()))<|
 B.L (x1.1,x1.2.1,x1.2.2.1,B.p x1.2.2.2.1 B.u,()))<|
 B.R<|B.v B.T) (x.2.1,x.1,B.y .ev x.1,B.z,())
def aer (mW:Pt A kg) (mX:Ft A kg) (aen:Pt A EF) (aeo:Ft A EF) (auM:Pt A Rw) (auN:Ft A Rw) (x:Tup A.ah [.x .sym,.x .sym]):Ot A Rx:=
 B.b B.F fun x0=>
 B.j auM auN (B.D .sym 0 .ev x.1,B.D .sym 0 .ev x.2.1,()) fun x1=>
 B.b x1.1 fun x2=>
 B.k x2.1 aen aeo (B.D .sym 1 .poly x.1,B.D .sym 1 .poly x.2.1,()) fun x3=>
 B.k (B.a (B.a x2.1 x3.1 B.F) (B.e (B.f .sym 2 x.1) (B.f .sym 2 x.2.1)) B.F) mW mX (B.x .poly (B.D .sym 3 .mono x.1,()),B.x .poly (B.D .sym 3 .mono x.2.1,()),()) fun x4=>
 B.k (B.a (B.a (B.a x2.1 x3.1 B.F) (B.e (B.f .sym 2 x.1) (B.f .sym 2 x.2.1)) B.F) x4.1 B.F) mW mX (B.x .poly (B.D .sym 4 .mono x.1,()),B.x .poly (B.D .sym 4 .mono x.2.1,()),()) fun x5=>
 B.v (B.a (B.a (B.a (B.a (B.a x2.1 x3.1 B.F) (B.e (B.f .sym 2 x.1) (B.f .sym 2 x.2.1)) B.F) x4.1 B.F) x5.1 B.F) (B.e (B.f .sym 5 x.1) (B.f .sym 5 x.2.1)) B.F)
def aes (ZR:Pt A El) (ZT:Ft A El) (ZU:Pt A Em) (ZV:Ft A Em) (auO:Pt A Q7) (auP:Ft A Q7) (aiA:Pt A Rq) (aiB:Ft A Rq) (auQ:Pt A Rx) (auR:Ft A Rx) (x:Tup A.ah [.x .blk,.x .blk]):Ot A EG:=
 B.b B.F fun x0=>
 B.j ZR ZT (x.1,()) fun x1=>
 B.k (B.N (B.N x1.1)) ZR ZT (x.2.1,()) fun x2=>
 B.c (B.a (B.a (B.a (B.N x1.1) B.T (B.N x2.1)) B.T (B.d (B.f .blk 0 x.1) (B.f .blk 0 x.2.1))) B.T (B.d (B.f .blk 1 x.1) (B.f .blk 1 x.2.1))) (B.v B.F)<|
 B.j ZU ZV (x.1,x.2.1,()) fun x3=>
 B.c x3.1 (B.v B.T)<|
 B.j auO auP () fun x4=>
 B.s (.x .tab) x4.1 fun x5=>
 B.s (.l .poly) x4.2.1 fun x6=>
 B.j aiA aiB (x5.1,x.1,()) fun x7=>
 B.s (.x .tab) x7.1 fun x8=>
 B.s (.x .sym) x7.2.1 fun x9=>
 B.j aiA aiB (x8.1,x.2.1,()) fun x10=>
 B.s (.x .tab) x10.1 fun x11=>
 B.s (.x .sym) x10.2.1 fun x12=>
 B.j auQ auR (x9.1,x12.1,()) fun x13=>
 B.v x13.1
def Wt (alF:Pt A Ib) (alG:Ft A Ib) (x:Tup A.ah [.l .cer]):Ot A II:=
 B.b B.F fun x0=>
 B.c (B.g (B.y .cer x.1) (B.n 3)) (B.v B.F)<|
 B.i B.z fun x1=>
 B.I [.l .cer,.i] (fun x2=>
 B.c (B.l x2.2.1 (B.y .cer x2.1)) (B.w .cer x2.1 x2.2.1<|
 B.w .cer x2.1 x2.2.1<|
 B.j alF alG (B.x .blk (B.f .cer 0 (B.o .cer x2.1 x2.2.1),B.f .cer 1 (B.o .cer x2.1 x2.2.1),B.D .cer 2 .iop (B.o .cer x2.1 x2.2.1),B.f .cer 3 (B.o .cer x2.1 x2.2.1),B.f .cer 4 (B.o .cer x2.1 x2.2.1),B.f .cer 5 (B.o .cer x2.1 x2.2.1),B.f .cer 6 (B.o .cer x2.1 x2.2.1),()),B.x .blk (B.f .cer 7 (B.o .cer x2.1 x2.2.1),B.f .cer 8 (B.o .cer x2.1 x2.2.1),B.D .cer 9 .iop (B.o .cer x2.1 x2.2.1),B.f .cer 10 (B.o .cer x2.1 x2.2.1),B.f .cer 11 (B.o .cer x2.1 x2.2.1),B.f .cer 12 (B.o .cer x2.1 x2.2.1),B.f .cer 13 (B.o .cer x2.1 x2.2.1),()),()) fun x3=>
 B.c (B.N x3.1) (B.b B.F fun x4=>
 B.R<|B.r (x4.1,()))<|
 B.i (B.p x2.2.1 B.u) fun x4=>
 B.L (x2.1,x4.1,()))<|
 B.R<|B.v B.T) (x.1,x1.1,())
def alH (aeu:Pt A EG) (aev:Ft A EG) (x:Tup A.ah [.x .cer]):Ot A acw:=
 B.b B.F fun x0=>
 B.j aeu aev (B.x .blk (B.f .cer 0 x.1,B.f .cer 1 x.1,B.D .cer 2 .iop x.1,B.f .cer 3 x.1,B.f .cer 4 x.1,B.f .cer 5 x.1,B.f .cer 6 x.1,()),B.x .blk (B.f .cer 7 x.1,B.f .cer 8 x.1,B.D .cer 9 .iop x.1,B.f .cer 10 x.1,B.f .cer 11 x.1,B.f .cer 12 x.1,B.f .cer 13 x.1,()),()) fun x1=>
 B.v (B.N x1.1)
def alI (ZU:Pt A Em) (ZV:Ft A Em) (x:Tup A.ah [.x .cer,.x .blk,.x .blk]):Ot A acy:=
 B.b B.F fun x0=>
 B.j ZU ZV (B.x .blk (B.f .cer 0 x.1,B.f .cer 1 x.1,B.D .cer 2 .iop x.1,B.f .cer 3 x.1,B.f .cer 4 x.1,B.f .cer 5 x.1,B.f .cer 6 x.1,()),x.2.1,()) fun x1=>
 B.k x1.1 ZU ZV (B.x .blk (B.f .cer 7 x.1,B.f .cer 8 x.1,B.D .cer 9 .iop x.1,B.f .cer 10 x.1,B.f .cer 11 x.1,B.f .cer 12 x.1,B.f .cer 13 x.1,()),x.2.2.1,()) fun x2=>
 B.b (B.a x1.1 x2.1 B.F) fun x3=>
 B.r (x3.1,x.2.1,x.2.2.1,())
def Wu (azu:Pt A acy) (azv:Ft A acy) (x:Tup A.ah [.l .cer,.x .blk,.x .blk]):Ot A IJ:=
 B.i B.z fun x0=>
 B.I [.l .cer,.i,.i,.x .blk,.x .blk] (fun x1=>
 B.c (B.l x1.2.2.1 x1.2.1) (B.i x1.2.2.1 fun x2=>
 B.w .cer x1.1 x2.1<|
 B.j azu azv (B.o .cer x1.1 x2.1,x1.2.2.2.1,x1.q.1,()) fun x3=>
 B.c x3.1 (B.i x2.1 fun x4=>
 B.R<|B.r (x4.1,x3.2.1,x3.2.2.1,()))<|
 B.L (x1.1,x1.2.1,B.p x1.2.2.1 B.u,x3.2.1,x3.2.2.1,()))<|
 B.R<|B.i (B.n (-1)) fun x2=>
 B.r (x2.1,x1.2.2.2.1,x1.q.1,())) (x.1,B.y .cer x.1,B.z,x.2.1,x.2.2.1,())
def Wv (azw:Pt A acw) (azx:Ft A acw) (x:Tup A.ah [.l .cer]):Ot A IK:=
 B.i B.z fun x0=>
 B.I [.l .cer,.i,.i] (fun x1=>
 B.c (B.l x1.2.2.1 x1.2.1) (B.i x1.2.2.1 fun x2=>
 B.w .cer x1.1 x2.1<|
 B.j azw azx (B.o .cer x1.1 x2.1,()) fun x3=>
 B.c x3.1 (B.i x2.1 fun x4=>
 B.R<|B.r (x4.1,()))<|
 B.L (x1.1,x1.2.1,B.p x1.2.2.1 B.u,()))<|
 B.R<|B.i (B.n (-1)) fun x2=>
 B.r (x2.1,())) (x.1,B.y .cer x.1,B.z,())
def aew (alJ:Pt A IJ) (alK:Ft A IJ) (x:Tup A.ah [.l .cer,.x .blk,.x .blk]):Ot A Ry:=
 B.b B.F fun x0=>
 B.j alJ alK (x.1,x.2.1,x.2.2.1,()) fun x1=>
 B.b (B.h x1.1 B.z) fun x2=>
 B.r (x2.1,x1.2.1,x1.2.2.1,())
def aex (alL:Pt A IK) (alM:Ft A IK) (x:Tup A.ah [.l .cer]):Ot A Rz:=
 B.b B.F fun x0=>
 B.j alL alM (x.1,()) fun x1=>
 B.v (B.h x1.1 B.z)
def alN (auS:Pt A Rz) (auT:Ft A Rz) (x:Tup A.ah [.l .cer]):Ot A acz:=
 B.b B.F fun x0=>
 B.k (B.m (B.y .cer x.1) (B.n 3)) auS auT (x.1,()) fun x1=>
 B.v (B.a (B.m (B.y .cer x.1) (B.n 3)) (B.N x1.1) B.F)
def Ww (x:Tup A.ah [.l .u8]):Ot A IL:=
 A.bind [.l .u8] (B.c (B.g (B.y .u8 x.1) (B.n 2000)) (B.C (B.m B.z B.z)<|
 B.C (B.m B.z (B.n 2000))<|
 B.C (B.m (B.n 2000) (B.y .u8 x.1))<|
 B.s (.l .u8) (A.sub .u8 x.1 B.z (B.n 2000)) fun x0=>
 B.r (x0.1,()))<|
 B.r (x.1,())) fun x0=>
 B.r (x0.1,B.z,())
def Wx (x:Tup A.ah [.i,.l .u8,.i]):Ot A dx:=
 B.i B.z fun x0=>
 B.i (B.p x.2.2.1 B.u) fun x1=>
 B.c (B.a (B.l x.1 B.u) B.T (B.e (B.y .u8 x.2.1) B.z)) (B.i B.z fun x2=>
 B.r (x2.1,x.2.1,x1.1,()))<|
 B.i (B.q x1.1 B.u) fun x2=>
 B.c (B.l x2.1 (B.y .u8 x.2.1)) (B.w .u8 x.2.1 x2.1<|
 B.C (B.d x.1 B.z)<|
 B.i (A.arith .rem .i64 (A.conv .i64 (B.f .u8 0 (B.o .u8 x.2.1 x2.1))) x.1) fun x3=>
 B.r (x3.1,x.2.1,x1.1,()))<|
 B.C (B.d (B.y .u8 x.2.1) B.z)<|
 B.w .u8 x.2.1 (A.arith .rem .i64 x2.1 (B.y .u8 x.2.1))<|
 B.C (B.d (B.y .u8 x.2.1) B.z)<|
 B.w .u8 x.2.1 (A.arith .rem .i64 (B.p (B.t x2.1 (B.n 7)) (B.n 3)) (B.y .u8 x.2.1))<|
 B.C (B.d (B.y .u8 x.2.1) B.z)<|
 B.i (B.p (B.p (B.p (B.t (A.conv .i64 (B.f .u8 0 (B.o .u8 x.2.1 (A.arith .rem .i64 x2.1 (B.y .u8 x.2.1))))) (B.n 131)) (B.t (A.conv .i64 (B.f .u8 0 (B.o .u8 x.2.1 (A.arith .rem .i64 (B.p (B.t x2.1 (B.n 7)) (B.n 3)) (B.y .u8 x.2.1))))) (B.n 1117))) (B.t x2.1 (B.n 29))) (B.t (A.arith .quo .i64 x2.1 (B.y .u8 x.2.1)) (B.n 53))) fun x3=>
 B.C (B.d (B.n 64) B.z)<|
 B.i (A.arith .xor .i64 x3.1 (A.arith .quo .i64 x3.1 (B.n 64))) fun x4=>
 B.C (B.d x.1 B.z)<|
 B.i (A.arith .rem .i64 x4.1 x.1) fun x5=>
 B.r (x5.1,x.2.1,x1.1,())
def Wy (x:Tup A.ah [.x .blk]):Ot A jc:=
 B.s (.x .blk) x.1 fun x0=>
 B.s (.l .iop) (A.lst .iop []) fun x1=>
 B.C (B.m (A.addN (B.y .iop x1.1) (B.y .iop (B.D .blk 2 .iop x.1))) (B.n 1073741824))<|
 B.s (.l .iop) (A.app .iop x1.1 (B.D .blk 2 .iop x.1)) fun x2=>
 B.r (B.f .blk 0 x0.1,B.f .blk 1 x0.1,B.f .blk 3 x0.1,B.f .blk 4 x0.1,B.f .blk 5 x0.1,B.f .blk 6 x0.1,x2.1,())
def Wz (bW:Pt A bQ) (bX:Ft A bQ) (x:Tup A.ah [.x .iop,.l .i64]):Ot A wE:=
 B.s (.x .iop) x.1 fun x0=>
 B.j bW bX (B.f .iop 0 x.1,B.n 3,B.n 5,()) fun x1=>
 A.bind [.l .i64,.x .iop,.i,.i,.i,.i,.i,.x .iop] (B.c (B.a (B.a x1.1 B.T (B.e (B.f .iop 0 x.1) (B.n 7))) B.T (B.e (B.f .iop 0 x.1) (B.n 8))) (B.w .i64 x.2.1 (B.f .iop 1 x.1)<|
 B.i (B.f .i64 0 (B.o .i64 x.2.1 (B.f .iop 1 x.1))) fun x2=>
 B.r (x.2.1,x.1,B.z,B.z,B.z,B.z,B.z,B.x .iop (B.f .iop 0 x0.1,x2.1,B.f .iop 2 x0.1,B.f .iop 3 x0.1,B.f .iop 4 x0.1,()),()))<|
 B.r (x.2.1,x.1,B.z,B.z,B.z,B.z,B.z,x0.1,())) fun x2=>
 A.bind [.i,.i,.i,.i,.i,.x .iop] (B.c (B.a (B.e (B.f .iop 0 x2.2.1) (B.n 3)) B.T (B.e (B.f .iop 0 x2.2.1) (B.n 5))) (B.w .i64 x2.1 (B.f .iop 2 x2.2.1)<|
 B.i (B.f .i64 0 (B.o .i64 x2.1 (B.f .iop 2 x2.2.1))) fun x3=>
 B.r (x2.2.2.1,x2.2.2.2.1,x2.q.1,x2.q.2.1,x2.q.2.2.1,B.x .iop (B.f .iop 0 x2.q.2.2.2.1,B.f .iop 1 x2.q.2.2.2.1,x3.1,B.f .iop 3 x2.q.2.2.2.1,B.f .iop 4 x2.q.2.2.2.1,()),()))<|
 B.r (x2.2.2.1,x2.2.2.2.1,x2.q.1,x2.q.2.1,x2.q.2.2.1,x2.q.2.2.2.1,())) fun x3=>
 B.s (.x .iop) x3.q.2.1 fun x4=>
 B.r (x4.1,())
def WA (jB:Pt A fE) (jC:Ft A fE) (WB:Pt A wE) (WE:Ft A wE) (qm:Pt A jc) (qo:Ft A jc) (x:Tup A.ah [.x .blk]):Ot A oq:=
 B.j jB jC (x.1,()) fun x0=>
 B.c (B.N x0.1) (B.r (B.z,B.z,B.z,B.z,B.z,B.z,A.aN .iop,()))<|
 B.j qm qo (x.1,()) fun x1=>
 B.s (.l .i64) (A.lst .i64 []) fun x2=>
 B.s (.l .i64) (A.lst .i64 [B.x .i64 (B.n (-1),()),B.x .i64 (B.n (-1),()),B.x .i64 (B.n (-1),()),B.x .i64 (B.n (-1),())]) fun x3=>
 B.i B.z fun x4=>
 B.I [.i,.i,.i,.i,.i,.i,.i,.i,.i,.i,.i,.i,.i,.l .i64,.l .i64,.l .iop] (fun x5=>
 B.c (B.l x5.1 (B.y .iop x5.o.q.2.2.2.1)) (B.w .iop x5.o.q.2.2.2.1 x5.1<|
 B.w .iop x5.o.q.2.2.2.1 x5.1<|
 B.j WB WE (B.o .iop x5.o.q.2.2.2.1 x5.1,x5.o.q.2.1,()) fun x6=>
 B.s (.x .iop) x6.1 fun x7=>
 B.w .iop x5.o.q.2.2.2.1 x5.1<|
 B.w .iop x5.o.q.2.2.2.1 x5.1<|
 B.s (.x .iop) x7.1 fun x8=>
 B.i x5.1 fun x9=>
 B.C (B.O (B.N (B.e (B.f .iop 0 x7.1) (B.n 2))) (B.m B.z (B.f .iop 3 x7.1)))<|
 B.C (B.O (B.N (B.e (B.f .iop 0 x7.1) (B.n 2))) (B.l (B.f .iop 3 x7.1) (B.y .i64 x5.o.q.2.2.1)))<|
 B.C (B.O (B.N (B.e (B.f .iop 0 x7.1) (B.n 2))) (B.m B.z (B.f .iop 3 x7.1)))<|
 B.C (B.O (B.N (B.e (B.f .iop 0 x7.1) (B.n 2))) (B.l (B.f .iop 3 x7.1) (B.y .i64 x5.o.q.2.2.1)))<|
 A.bind [.i,.i,.i,.i,.i,.i,.i,.i,.i,.i,.i,.i,.i,.i,.l .i64,.l .i64,.x .iop,.l .iop] (B.c (B.a (B.e (B.f .iop 0 x7.1) (B.n 2)) (B.h (B.f .i64 0 (B.o .i64 x5.o.q.2.2.1 (B.f .iop 3 x7.1))) B.z) B.F) (B.w .i64 x5.o.q.2.2.1 (B.f .iop 3 x7.1)<|
 B.w .i64 x5.o.q.2.2.1 (B.f .iop 3 x7.1)<|
 B.i (B.f .i64 0 (B.o .i64 x5.o.q.2.2.1 (B.f .iop 3 x7.1))) fun x10=>
 B.r (x5.1,x10.1,x5.2.1,x5.2.2.1,x5.2.2.2.1,x5.q.1,x5.q.2.1,x5.q.2.2.1,x5.q.2.2.2.1,x5.o.1,x5.o.2.1,x5.o.2.2.1,x5.o.2.2.2.1,x5.o.q.1,x5.o.q.2.1,x5.o.q.2.2.1,x7.1,A.set .iop x5.o.q.2.2.2.1 x5.1 x8.1,()))<|
 B.r (x5.1,x9.1,x5.2.1,x5.2.2.1,x5.2.2.2.1,x5.q.1,x5.q.2.1,x5.q.2.2.1,x5.q.2.2.2.1,x5.o.1,x5.o.2.1,x5.o.2.2.1,x5.o.2.2.2.1,x5.o.q.1,x5.o.q.2.1,x5.o.q.2.2.1,x7.1,A.set .iop x5.o.q.2.2.2.1 x5.1 x8.1,())) fun x10=>
 A.bind [.i,.i,.i,.i,.i,.i,.i,.i,.i,.i,.i,.i,.i,.i,.l .i64,.l .i64,.x .iop,.l .iop] (B.c (B.e (B.f .iop 0 x10.o.o.1) (B.n 2)) (B.w .i64 x10.o.q.2.2.2.1 (B.f .iop 3 x10.o.o.1)<|
 B.w .i64 x10.o.q.2.2.2.1 (B.f .iop 3 x10.o.o.1)<|
 B.i x10.2.1 fun x11=>
 B.r (x10.1,x10.2.1,x10.2.2.1,x10.2.2.2.1,x10.q.1,x10.q.2.1,x10.q.2.2.1,x10.q.2.2.2.1,x10.o.1,x10.o.2.1,x10.o.2.2.1,x10.o.2.2.2.1,x10.o.q.1,x10.o.q.2.1,x10.o.q.2.2.1,A.set .i64 x10.o.q.2.2.2.1 (B.f .iop 3 x10.o.o.1) (B.x .i64 (x11.1,())),x10.o.o.1,x10.o.o.2.1,()))<|
 B.r (x10.1,x10.2.1,x10.2.2.1,x10.2.2.2.1,x10.q.1,x10.q.2.1,x10.q.2.2.1,x10.q.2.2.2.1,x10.o.1,x10.o.2.1,x10.o.2.2.1,x10.o.2.2.2.1,x10.o.q.1,x10.o.q.2.1,x10.o.q.2.2.1,x10.o.q.2.2.2.1,x10.o.o.1,x10.o.o.2.1,())) fun x11=>
 A.bind [.i,.i,.i,.i,.i,.i,.i,.i,.i,.i,.i,.i,.i,.i,.l .i64,.l .i64,.l .iop] (B.c (B.e (B.f .iop 0 x11.o.o.1) (B.n 8)) (B.w .i64 x11.o.q.2.2.2.1 (B.f .iop 3 x11.o.o.1)<|
 B.w .i64 x11.o.q.2.2.2.1 (B.f .iop 3 x11.o.o.1)<|
 B.i (B.f .iop 1 x11.o.o.1) fun x12=>
 B.r (x11.1,x11.2.1,x11.2.2.1,x11.2.2.2.1,x11.q.1,x11.q.2.1,x11.q.2.2.1,x11.q.2.2.2.1,x11.o.1,x11.o.2.1,x11.o.2.2.1,x11.o.2.2.2.1,x11.o.q.1,x11.o.q.2.1,x11.o.q.2.2.1,A.set .i64 x11.o.q.2.2.2.1 (B.f .iop 3 x11.o.o.1) (B.x .i64 (x12.1,())),x11.o.o.2.1,()))<|
 B.r (x11.1,x11.2.1,x11.2.2.1,x11.2.2.2.1,x11.q.1,x11.q.2.1,x11.q.2.2.1,x11.q.2.2.2.1,x11.o.1,x11.o.2.1,x11.o.2.2.1,x11.o.2.2.2.1,x11.o.q.1,x11.o.q.2.1,x11.o.q.2.2.1,x11.o.q.2.2.2.1,x11.o.o.2.1,())) fun x12=>
 B.s (.l .i64) (A.lst .i64 [B.x .i64 (x12.2.1,())]) fun x13=>
 B.C (B.m (A.addN (B.y .i64 x12.o.q.2.2.1) (B.y .i64 x13.1)) (B.n 1073741824))<|
 B.s (.l .i64) (A.app .i64 x12.o.q.2.2.1 x13.1) fun x14=>
 B.i (B.p x12.1 B.u) fun x15=>
 B.L (x15.1,x12.2.2.1,x12.2.2.2.1,x12.q.1,x12.q.2.1,x12.q.2.2.1,x12.q.2.2.2.1,x12.o.1,x12.o.2.1,x12.o.2.2.1,x12.o.2.2.2.1,x12.o.q.1,x12.o.q.2.1,x14.1,x12.o.q.2.2.2.1,x12.o.o.1,()))<|
 B.R<|A.bind [.i,.i,.i,.i,.i,.i,.i,.i,.i,.i,.i,.i,.l .i64,.l .iop] (B.c (B.d x5.o.2.1 B.u) (B.w .i64 x5.o.q.2.1 x5.o.2.2.1<|
 B.w .i64 x5.o.q.2.1 x5.o.2.2.1<|
 B.i (B.f .i64 0 (B.o .i64 x5.o.q.2.1 x5.o.2.2.1)) fun x6=>
 B.r (x5.2.1,x5.2.2.1,x5.2.2.2.1,x5.q.1,x5.q.2.1,x5.q.2.2.1,x5.q.2.2.2.1,x5.o.1,x5.o.2.1,x6.1,x5.o.2.2.2.1,x5.o.q.1,x5.o.q.2.1,x5.o.q.2.2.2.1,()))<|
 B.r (x5.2.1,x5.2.2.1,x5.2.2.2.1,x5.q.1,x5.q.2.1,x5.q.2.2.1,x5.q.2.2.2.1,x5.o.1,x5.o.2.1,x5.o.2.2.1,x5.o.2.2.2.1,x5.o.q.1,x5.o.q.2.1,x5.o.q.2.2.2.1,())) fun x6=>
 A.bind [.i,.i,.i,.i,.i,.i,.i,.i,.i,.i,.i,.i,.l .iop] (B.c (B.a (B.e x6.o.1 (B.n 3)) B.T (B.e x6.o.1 (B.n 4))) (B.w .i64 x6.o.q.1 x6.o.2.2.1<|
 B.w .i64 x6.o.q.1 x6.o.2.2.1<|
 B.i (B.f .i64 0 (B.o .i64 x6.o.q.1 x6.o.2.2.1)) fun x7=>
 B.r (x6.1,x6.2.1,x6.2.2.1,x6.2.2.2.1,x6.q.1,x6.q.2.1,x6.q.2.2.1,x6.q.2.2.2.1,x6.o.1,x6.o.2.1,x7.1,x6.o.2.2.2.1,x6.o.q.2.1,()))<|
 B.r (x6.1,x6.2.1,x6.2.2.1,x6.2.2.2.1,x6.q.1,x6.q.2.1,x6.q.2.2.1,x6.q.2.2.2.1,x6.o.1,x6.o.2.1,x6.o.2.2.1,x6.o.2.2.2.1,x6.o.q.2.1,())) fun x7=>
 B.r (x7.q.2.2.1,x7.q.2.2.2.1,x7.o.1,x7.o.2.1,x7.o.2.2.1,x7.o.2.2.2.1,x7.o.q.1,())) (x4.1,B.z,B.z,B.z,B.z,B.z,B.z,x1.1,x1.2.1,x1.2.2.1,x1.2.2.2.1,x1.q.1,x1.q.2.1,x2.1,x3.1,x1.q.2.2.1,())
def WG (WB:Pt A wE) (WE:Ft A wE) (x:Tup A.ah [.x .blk,.l .bool]):Ot A wF:=
 B.s (.l .iop) (A.lst .iop []) fun x0=>
 B.s (.l .i64) (A.lst .i64 []) fun x1=>
 B.i B.z fun x2=>
 B.I [.l .bool,.i,.x .blk,.i,.i,.i,.i,.i,.i,.l .iop,.l .i64] (fun x3=>
 B.c (B.l x3.2.1 (B.y .iop (B.D .blk 2 .iop x3.2.2.1))) (B.s (.l .i64) (A.lst .i64 [B.x .i64 (B.y .iop x3.o.2.1,())]) fun x4=>
 B.C (B.m (A.addN (B.y .i64 x3.o.2.2.1) (B.y .i64 x4.1)) (B.n 1073741824))<|
 B.s (.l .i64) (A.app .i64 x3.o.2.2.1 x4.1) fun x5=>
 B.w .bool x3.1 x3.2.1<|
 A.bind [.l .bool,.i,.x .blk,.i,.i,.i,.i,.i,.i,.l .iop,.l .i64] (B.c (A.fB .bool 0 (B.o .bool x3.1 x3.2.1)) (B.w .iop (B.D .blk 2 .iop x3.2.2.1) x3.2.1<|
 B.j WB WE (B.o .iop (B.D .blk 2 .iop x3.2.2.1) x3.2.1,x5.1,()) fun x6=>
 B.s (.l .iop) (A.lst .iop [x6.1]) fun x7=>
 B.C (B.m (A.addN (B.y .iop x3.o.2.1) (B.y .iop x7.1)) (B.n 1073741824))<|
 B.s (.l .iop) (A.app .iop x3.o.2.1 x7.1) fun x8=>
 B.r (x3.1,x3.2.1,x3.2.2.1,x3.2.2.2.1,x3.q.1,x3.q.2.1,x3.q.2.2.1,x3.q.2.2.2.1,x3.o.1,x8.1,x5.1,()))<|
 B.r (x3.1,x3.2.1,x3.2.2.1,x3.2.2.2.1,x3.q.1,x3.q.2.1,x3.q.2.2.1,x3.q.2.2.2.1,x3.o.1,x3.o.2.1,x5.1,())) fun x6=>
 B.i (B.p x6.2.1 B.u) fun x7=>
 B.L (x6.1,x7.1,x6.2.2.1,x6.2.2.2.1,x6.q.1,x6.q.2.1,x6.q.2.2.1,x6.q.2.2.2.1,x6.o.1,x6.o.2.1,x6.o.2.2.1,()))<|
 B.R<|B.s (.x .blk) x3.2.2.1 fun x4=>
 A.bind [.x .blk,.i,.i,.i,.i,.i,.i,.l .i64,.i,.i,.i,.i,.i,.i,.l .iop] (B.c (B.d (B.f .blk 3 x3.2.2.1) B.u) (B.w .i64 x3.o.2.2.1 (B.f .blk 4 x3.2.2.1)<|
 B.w .i64 x3.o.2.2.1 (B.f .blk 4 x3.2.2.1)<|
 B.i (B.f .i64 0 (B.o .i64 x3.o.2.2.1 (B.f .blk 4 x3.2.2.1))) fun x5=>
 B.r (x3.2.2.1,x3.2.2.2.1,x3.q.1,x3.q.2.1,x3.q.2.2.1,x3.q.2.2.2.1,x3.o.1,x3.o.2.2.1,B.f .blk 0 x4.1,B.f .blk 1 x4.1,B.f .blk 3 x4.1,x5.1,B.f .blk 5 x4.1,B.f .blk 6 x4.1,x3.o.2.1,()))<|
 B.r (x3.2.2.1,x3.2.2.2.1,x3.q.1,x3.q.2.1,x3.q.2.2.1,x3.q.2.2.2.1,x3.o.1,x3.o.2.2.1,B.f .blk 0 x4.1,B.f .blk 1 x4.1,B.f .blk 3 x4.1,B.f .blk 4 x4.1,B.f .blk 5 x4.1,B.f .blk 6 x4.1,x3.o.2.1,())) fun x5=>
 A.bind [.i,.i,.i,.i,.i,.i,.i,.i,.i,.i,.i,.i,.l .iop] (B.c (B.a (B.e (B.f .blk 3 x5.1) (B.n 3)) B.T (B.e (B.f .blk 3 x5.1) (B.n 4))) (B.w .i64 x5.q.2.2.2.1 (B.f .blk 5 x5.1)<|
 B.w .i64 x5.q.2.2.2.1 (B.f .blk 5 x5.1)<|
 B.i (B.f .i64 0 (B.o .i64 x5.q.2.2.2.1 (B.f .blk 5 x5.1))) fun x6=>
 B.r (x5.2.1,x5.2.2.1,x5.2.2.2.1,x5.q.1,x5.q.2.1,x5.q.2.2.1,x5.o.1,x5.o.2.1,x5.o.2.2.1,x5.o.2.2.2.1,x6.1,x5.o.q.2.1,x5.o.q.2.2.1,()))<|
 B.r (x5.2.1,x5.2.2.1,x5.2.2.2.1,x5.q.1,x5.q.2.1,x5.q.2.2.1,x5.o.1,x5.o.2.1,x5.o.2.2.1,x5.o.2.2.2.1,x5.o.q.1,x5.o.q.2.1,x5.o.q.2.2.1,())) fun x6=>
 B.r (x6.q.2.2.1,x6.q.2.2.2.1,x6.o.1,x6.o.2.1,x6.o.2.2.1,x6.o.2.2.2.1,x6.o.q.1,())) (x.2.1,x2.1,x.1,B.z,B.z,B.z,B.z,B.z,B.z,x0.1,x1.1,())
def WH (jB:Pt A fE) (jC:Ft A fE) (bW:Pt A bQ) (bX:Ft A bQ) (x:Tup A.ah [.x .blk]):Ot A IQ:=
 B.s (.l .bool) (A.lst .bool []) fun x0=>
 B.j jB jC (x.1,()) fun x1=>
 B.c (B.N x1.1) (B.r (x0.1,()))<|
 B.i B.z fun x2=>
 B.I [.i,.x .blk,.l .bool] (fun x3=>
 B.c (B.l x3.1 (B.y .iop (B.D .blk 2 .iop x3.2.1))) (B.w .iop (B.D .blk 2 .iop x3.2.1) x3.1<|
 B.s (.l .bool) (A.lst .bool [B.x .bool (B.h (B.f .iop 0 (B.o .iop (B.D .blk 2 .iop x3.2.1) x3.1)) (B.n 4),())]) fun x4=>
 B.C (B.m (A.addN (B.y .bool x3.2.2.1) (B.y .bool x4.1)) (B.n 1073741824))<|
 B.s (.l .bool) (A.app .bool x3.2.2.1 x4.1) fun x5=>
 B.i (B.p x3.1 B.u) fun x6=>
 B.L (x6.1,x3.2.1,x5.1,()))<|
 B.R<|A.bind [.x .blk,.l .bool] (B.c (B.d (B.f .blk 3 x3.2.1) B.u) (B.w .bool x3.2.2.1 (B.f .blk 4 x3.2.1)<|
 B.w .bool x3.2.2.1 (B.f .blk 4 x3.2.1)<|
 B.b B.T fun x4=>
 B.r (x3.2.1,A.set .bool x3.2.2.1 (B.f .blk 4 x3.2.1) (B.x .bool (x4.1,())),()))<|
 B.r (x3.2.1,x3.2.2.1,())) fun x4=>
 A.bind [.x .blk,.l .bool] (B.c (B.a (B.e (B.f .blk 3 x4.1) (B.n 3)) B.T (B.e (B.f .blk 3 x4.1) (B.n 4))) (B.w .bool x4.2.1 (B.f .blk 5 x4.1)<|
 B.w .bool x4.2.1 (B.f .blk 5 x4.1)<|
 B.b B.T fun x5=>
 B.r (x4.1,A.set .bool x4.2.1 (B.f .blk 5 x4.1) (B.x .bool (x5.1,())),()))<|
 B.r (x4.1,x4.2.1,())) fun x5=>
 B.i (B.q (B.y .iop (B.D .blk 2 .iop x5.1)) B.u) fun x6=>
 B.I [.i,.x .blk,.l .bool] (fun x7=>
 B.c (B.h x7.1 B.z) (A.kZ [.i,.x .blk,.l .bool] (B.w .iop (B.D .blk 2 .iop x7.2.1) x7.1<|
 B.s (.x .iop) (B.o .iop (B.D .blk 2 .iop x7.2.1) x7.1) fun x8=>
 B.w .bool x7.2.2.1 x7.1<|
 B.w .bool x7.2.2.1 x7.1<|
 B.c (B.N (A.fB .bool 0 (B.o .bool x7.2.2.1 x7.1))) (B.L (x7.1,x7.2.1,x7.2.2.1,()))<|
 B.j bW bX (B.f .iop 0 x8.1,B.n 3,B.n 5,()) fun x9=>
 A.bind [.i,.x .blk,.l .bool,.x .iop] (B.c (B.a (B.a x9.1 B.T (B.e (B.f .iop 0 x8.1) (B.n 7))) B.T (B.e (B.f .iop 0 x8.1) (B.n 8))) (B.w .bool x7.2.2.1 (B.f .iop 1 x8.1)<|
 B.w .bool x7.2.2.1 (B.f .iop 1 x8.1)<|
 B.b B.T fun x10=>
 B.r (x7.1,x7.2.1,A.set .bool x7.2.2.1 (B.f .iop 1 x8.1) (B.x .bool (x10.1,())),x8.1,()))<|
 B.r (x7.1,x7.2.1,x7.2.2.1,x8.1,())) fun x10=>
 A.bind [.i,.x .blk,.l .bool] (B.c (B.a (B.e (B.f .iop 0 x10.2.2.2.1) (B.n 3)) B.T (B.e (B.f .iop 0 x10.2.2.2.1) (B.n 5))) (B.w .bool x10.2.2.1 (B.f .iop 2 x10.2.2.2.1)<|
 B.w .bool x10.2.2.1 (B.f .iop 2 x10.2.2.2.1)<|
 B.b B.T fun x11=>
 B.r (x10.1,x10.2.1,A.set .bool x10.2.2.1 (B.f .iop 2 x10.2.2.2.1) (B.x .bool (x11.1,())),()))<|
 B.r (x10.1,x10.2.1,x10.2.2.1,())) fun x11=>
 B.L (x11.1,x11.2.1,x11.2.2.1,())) fun x8=>
 B.i (B.q x8.1 B.u) fun x9=>
 B.L (x9.1,x8.2.1,x8.2.2.1,()))<|
 B.R<|B.r (x7.2.2.1,())) (x6.1,x5.1,x5.2.1,())) (x2.1,x.1,x0.1,())
def WI (jB:Pt A fE) (jC:Ft A fE) (alO:Pt A IQ) (alP:Ft A IQ) (WJ:Pt A wF) (WK:Ft A wF) (x:Tup A.ah [.x .blk]):Ot A IU:=
 B.j jB jC (x.1,()) fun x0=>
 B.c (B.N x0.1) (B.r (B.z,B.z,B.z,B.z,B.z,B.z,A.aN .iop,()))<|
 B.j alO alP (x.1,()) fun x1=>
 B.j WJ WK (x.1,x1.1,()) fun x2=>
 B.r (x2.1,x2.2.1,x2.2.2.1,x2.2.2.2.1,x2.q.1,x2.q.2.1,x2.q.2.2.1,())
def WL (x:Tup A.ah [.l .iop,.i]):Ot A IV:=
 B.b B.F fun x0=>
 B.i (B.p x.2.1 B.u) fun x1=>
 B.I [.l .iop,.i,.i] (fun x2=>
 B.c (B.l x2.2.2.1 (B.y .iop x2.1)) (B.w .iop x2.1 x2.2.2.1<|
 B.C (B.O (B.N (B.N (B.e (B.f .iop 0 (B.o .iop x2.1 x2.2.2.1)) (B.n 4)))) (B.m B.z x2.2.2.1))<|
 B.C (B.O (B.N (B.N (B.e (B.f .iop 0 (B.o .iop x2.1 x2.2.2.1)) (B.n 4)))) (B.l x2.2.2.1 (B.y .iop x2.1)))<|
 B.C (B.O (B.N (B.N (B.a (B.e (B.f .iop 0 (B.o .iop x2.1 x2.2.2.1)) (B.n 4)) B.T (B.e (B.f .iop 0 (B.o .iop x2.1 x2.2.2.1)) (B.n 5))))) (B.m B.z x2.2.2.1))<|
 B.C (B.O (B.N (B.N (B.a (B.e (B.f .iop 0 (B.o .iop x2.1 x2.2.2.1)) (B.n 4)) B.T (B.e (B.f .iop 0 (B.o .iop x2.1 x2.2.2.1)) (B.n 5))))) (B.l x2.2.2.1 (B.y .iop x2.1)))<|
 B.C (B.O (B.N (A.jD (B.N (B.a (B.e (B.f .iop 0 (B.o .iop x2.1 x2.2.2.1)) (B.n 4)) B.T (B.e (B.f .iop 0 (B.o .iop x2.1 x2.2.2.1)) (B.n 5)))) (B.e (B.f .iop 0 (B.o .iop x2.1 x2.2.2.1)) (B.n 2)))) (B.m B.z x2.2.2.1))<|
 B.C (B.O (B.N (A.jD (B.N (B.a (B.e (B.f .iop 0 (B.o .iop x2.1 x2.2.2.1)) (B.n 4)) B.T (B.e (B.f .iop 0 (B.o .iop x2.1 x2.2.2.1)) (B.n 5)))) (B.e (B.f .iop 0 (B.o .iop x2.1 x2.2.2.1)) (B.n 2)))) (B.l x2.2.2.1 (B.y .iop x2.1)))<|
 B.C (B.O (B.N (A.jD (B.N (B.a (B.e (B.f .iop 0 (B.o .iop x2.1 x2.2.2.1)) (B.n 4)) B.T (B.e (B.f .iop 0 (B.o .iop x2.1 x2.2.2.1)) (B.n 5)))) (B.e (B.f .iop 0 (B.o .iop x2.1 x2.2.2.1)) (B.n 2)))) (B.m B.z x2.2.1))<|
 B.C (B.O (B.N (A.jD (B.N (B.a (B.e (B.f .iop 0 (B.o .iop x2.1 x2.2.2.1)) (B.n 4)) B.T (B.e (B.f .iop 0 (B.o .iop x2.1 x2.2.2.1)) (B.n 5)))) (B.e (B.f .iop 0 (B.o .iop x2.1 x2.2.2.1)) (B.n 2)))) (B.l x2.2.1 (B.y .iop x2.1)))<|
 B.c (B.a (B.a (B.e (B.f .iop 0 (B.o .iop x2.1 x2.2.2.1)) (B.n 4)) B.T (B.e (B.f .iop 0 (B.o .iop x2.1 x2.2.2.1)) (B.n 5))) B.T (B.a (B.e (B.f .iop 0 (B.o .iop x2.1 x2.2.2.1)) (B.n 2)) (B.e (B.f .iop 3 (B.o .iop x2.1 x2.2.2.1)) (B.f .iop 3 (B.o .iop x2.1 x2.2.1))) B.F)) (B.b B.F fun x3=>
 B.R<|B.r (x3.1,()))<|
 B.w .iop x2.1 x2.2.2.1<|
 B.C (B.O (B.N (B.e (B.f .iop 0 (B.o .iop x2.1 x2.2.2.1)) (B.n 8))) (B.m B.z x2.2.2.1))<|
 B.C (B.O (B.N (B.e (B.f .iop 0 (B.o .iop x2.1 x2.2.2.1)) (B.n 8))) (B.l x2.2.2.1 (B.y .iop x2.1)))<|
 B.C (B.O (B.N (B.e (B.f .iop 0 (B.o .iop x2.1 x2.2.2.1)) (B.n 8))) (B.m B.z x2.2.1))<|
 B.C (B.O (B.N (B.e (B.f .iop 0 (B.o .iop x2.1 x2.2.2.1)) (B.n 8))) (B.l x2.2.1 (B.y .iop x2.1)))<|
 B.c (B.a (B.e (B.f .iop 0 (B.o .iop x2.1 x2.2.2.1)) (B.n 8)) (B.e (B.f .iop 3 (B.o .iop x2.1 x2.2.2.1)) (B.f .iop 3 (B.o .iop x2.1 x2.2.1))) B.F) (B.b B.T fun x3=>
 B.R<|B.r (x3.1,()))<|
 B.i (B.p x2.2.2.1 B.u) fun x3=>
 B.L (x2.1,x2.2.1,x3.1,()))<|
 B.R<|B.v B.F) (x.1,x.2.1,x1.1,())
def WM (jB:Pt A fE) (jC:Ft A fE) (WJ:Pt A wF) (WK:Ft A wF) (alQ:Pt A IV) (alR:Ft A IV) (x:Tup A.ah [.x .blk]):Ot A IW:=
 B.j jB jC (x.1,()) fun x0=>
 B.c (B.N x0.1) (B.r (B.z,B.z,B.z,B.z,B.z,B.z,A.aN .iop,()))<|
 B.s (.l .bool) (A.lst .bool []) fun x1=>
 B.i B.z fun x2=>
 B.I [.i,.x .blk,.i,.i,.i,.i,.i,.i,.l .bool] (fun x3=>
 B.c (B.l x3.1 (B.y .iop (B.D .blk 2 .iop x3.2.1))) (B.w .iop (B.D .blk 2 .iop x3.2.1) x3.1<|
 B.k (B.N (B.d (B.f .iop 0 (B.o .iop (B.D .blk 2 .iop x3.2.1) x3.1)) (B.n 8))) alQ alR (B.D .blk 2 .iop x3.2.1,x3.1,()) fun x4=>
 B.s (.l .bool) (A.lst .bool [B.x .bool (B.a (B.d (B.f .iop 0 (B.o .iop (B.D .blk 2 .iop x3.2.1) x3.1)) (B.n 8)) B.T (B.N x4.1),())]) fun x5=>
 B.C (B.m (A.addN (B.y .bool x3.o.1) (B.y .bool x5.1)) (B.n 1073741824))<|
 B.s (.l .bool) (A.app .bool x3.o.1 x5.1) fun x6=>
 B.i (B.p x3.1 B.u) fun x7=>
 B.L (x7.1,x3.2.1,x3.2.2.1,x3.2.2.2.1,x3.q.1,x3.q.2.1,x3.q.2.2.1,x3.q.2.2.2.1,x6.1,()))<|
 B.R<|B.j WJ WK (x3.2.1,x3.o.1,()) fun x4=>
 B.r (x4.1,x4.2.1,x4.2.2.1,x4.2.2.2.1,x4.q.1,x4.q.2.1,x4.q.2.2.1,())) (x2.1,x.1,B.z,B.z,B.z,B.z,B.z,B.z,x1.1,())
def WO (x:Tup A.ah [.l .iop,.i]):Ot A wG:=
 B.i B.z fun x0=>
 B.b B.F fun x1=>
 B.C (B.O (B.N (B.N (B.a (B.l x.2.1 B.z) B.T (B.h x.2.1 (B.y .iop x.1))))) (B.m B.z x.2.1))<|
 B.C (B.O (B.N (B.N (B.a (B.l x.2.1 B.z) B.T (B.h x.2.1 (B.y .iop x.1))))) (B.l x.2.1 (B.y .iop x.1)))<|
 B.c (B.a (B.a (B.l x.2.1 B.z) B.T (B.h x.2.1 (B.y .iop x.1))) B.T (B.d (B.f .iop 0 (B.o .iop x.1 x.2.1)) B.u)) (B.i B.z fun x2=>
 B.b B.F fun x3=>
 B.r (x2.1,x3.1,()))<|
 B.w .iop x.1 x.2.1<|
 B.i (B.f .iop 3 (B.o .iop x.1 x.2.1)) fun x2=>
 B.b B.T fun x3=>
 B.r (x2.1,x3.1,())
def WQ (x:Tup A.ah [.x .blk,.i]):Ot A IX:=
 B.i B.u fun x0=>
 B.i B.z fun x1=>
 B.i B.z fun x2=>
 B.i x.2.1 fun x3=>
 B.r (B.f .blk 0 x.1,B.f .blk 1 x.1,B.D .blk 2 .iop x.1,x0.1,x1.1,x2.1,x3.1,())
def WR (WS:Pt A IX) (WT:Ft A IX) (Jy:Pt A wG) (Jz:Ft A wG) (x:Tup A.ah [.x .blk]):Ot A IY:=
 B.j Jy Jz (B.D .blk 2 .iop x.1,B.f .blk 4 x.1,()) fun x0=>
 B.i x0.1 fun x1=>
 B.b x0.2.1 fun x2=>
 B.j Jy Jz (B.D .blk 2 .iop x.1,B.f .blk 5 x.1,()) fun x3=>
 B.i x3.1 fun x4=>
 B.b x3.2.1 fun x5=>
 B.b (B.a (B.e (B.f .blk 3 x.1) (B.n 2)) x2.1 B.F) fun x6=>
 B.c x6.1 (B.j WS WT (x.1,x1.1,()) fun x7=>
 B.r (B.x .blk (x7.1,x7.2.1,x7.2.2.1,x7.2.2.2.1,x7.q.1,x7.q.2.1,x7.q.2.2.1,()),()))<|
 B.b (B.a (B.a (B.a (B.e (B.f .blk 3 x.1) (B.n 3)) x2.1 B.F) x5.1 B.F) (B.e x1.1 x4.1) B.F) fun x7=>
 A.bind [.b,.b,.b,.x .blk,.i,.i,.i,.i,.i,.i] (B.c x7.1 (B.r (x2.1,x5.1,x7.1,x.1,B.z,B.z,B.z,B.z,B.z,B.z,()))<|
 B.b (B.a (B.a (B.a (B.e (B.f .blk 3 x.1) (B.n 4)) x2.1 B.F) x5.1 B.F) (B.l x1.1 x4.1) B.F) fun x8=>
 B.r (x2.1,x5.1,x8.1,x.1,B.z,B.z,B.z,B.z,B.z,B.z,())) fun x8=>
 B.c x8.2.2.1 (B.j WS WT (x8.2.2.2.1,B.f .blk 6 x8.2.2.2.1,()) fun x9=>
 B.r (B.x .blk (x9.1,x9.2.1,x9.2.2.1,x9.2.2.2.1,x9.q.1,x9.q.2.1,x9.q.2.2.1,()),()))<|
 B.b (B.a (B.a (B.a (B.e (B.f .blk 3 x8.2.2.2.1) (B.n 3)) B.T (B.e (B.f .blk 3 x8.2.2.2.1) (B.n 4))) x8.1 B.F) x8.2.1 B.F) fun x9=>
 B.c x9.1 (B.j WS WT (x8.2.2.2.1,B.p (B.f .blk 0 x8.2.2.2.1) (B.f .blk 1 x8.2.2.2.1),()) fun x10=>
 B.r (B.x .blk (x10.1,x10.2.1,x10.2.2.1,x10.2.2.2.1,x10.q.1,x10.q.2.1,x10.q.2.2.1,()),()))<|
 B.s (.x .blk) x8.2.2.2.1 fun x10=>
 B.r (x10.1,())
def WU (jB:Pt A fE) (jC:Ft A fE) (VB:Pt A wm) (VD:Ft A wm) (alS:Pt A IY) (alT:Ft A IY) (Jy:Pt A wG) (Jz:Ft A wG) (qm:Pt A jc) (qo:Ft A jc) (x:Tup A.ah [.x .blk]):Ot A IZ:=
 B.j jB jC (x.1,()) fun x0=>
 B.c (B.N x0.1) (B.r (B.x .blk (B.z,B.z,A.aN .iop,B.z,B.z,B.z,B.z,()),()))<|
 B.j qm qo (x.1,()) fun x1=>
 B.i B.z fun x2=>
 B.I [.i,.i,.i,.i,.i,.i,.i,.i,.i,.i,.i,.i,.i,.l .iop] (fun x3=>
 B.c (B.l x3.1 (B.y .iop x3.o.q.2.1)) (B.w .iop x3.o.q.2.1 x3.1<|
 B.w .iop x3.o.q.2.1 x3.1<|
 B.s (.x .iop) (B.o .iop x3.o.q.2.1 x3.1) fun x4=>
 B.j Jy Jz (x3.o.q.2.1,B.f .iop 1 x4.1,()) fun x5=>
 B.i x5.1 fun x6=>
 B.b x5.2.1 fun x7=>
 B.j Jy Jz (x3.o.q.2.1,B.f .iop 2 x4.1,()) fun x8=>
 B.i x8.1 fun x9=>
 B.b x8.2.1 fun x10=>
 A.bind [.i,.i,.i,.i,.i,.i,.i,.i,.i,.i,.i,.i,.i,.l .iop] (B.c (B.a (B.a (B.e (B.f .iop 0 x4.1) (B.n 3)) x7.1 B.F) x10.1 B.F) (B.j VB VD (B.f .iop 3 x4.1,x6.1,x9.1,()) fun x11=>
 B.w .iop x3.o.q.2.1 x3.1<|
 B.w .iop x3.o.q.2.1 x3.1<|
 B.r (x3.1,x3.2.1,x3.2.2.1,x3.2.2.2.1,x3.q.1,x3.q.2.1,x3.q.2.2.1,x3.q.2.2.2.1,x3.o.1,x3.o.2.1,x3.o.2.2.1,x3.o.2.2.2.1,x3.o.q.1,A.set .iop x3.o.q.2.1 x3.1 (B.x .iop (B.u,B.z,B.z,x11.1,B.z,())),()))<|
 B.r (x3.1,x3.2.1,x3.2.2.1,x3.2.2.2.1,x3.q.1,x3.q.2.1,x3.q.2.2.1,x3.q.2.2.2.1,x3.o.1,x3.o.2.1,x3.o.2.2.1,x3.o.2.2.2.1,x3.o.q.1,x3.o.q.2.1,())) fun x11=>
 B.i (B.p x11.1 B.u) fun x12=>
 B.L (x12.1,x11.2.1,x11.2.2.1,x11.2.2.2.1,x11.q.1,x11.q.2.1,x11.q.2.2.1,x11.q.2.2.2.1,x11.o.1,x11.o.2.1,x11.o.2.2.1,x11.o.2.2.2.1,x11.o.q.1,x11.o.q.2.1,()))<|
 B.R<|B.j alS alT (B.x .blk (x3.q.2.2.2.1,x3.o.1,x3.o.q.2.1,x3.o.2.1,x3.o.2.2.1,x3.o.2.2.2.1,x3.o.q.1,()),()) fun x4=>
 B.s (.x .blk) x4.1 fun x5=>
 B.r (x5.1,())) (x2.1,B.z,B.z,B.z,B.z,B.z,B.z,x1.1,x1.2.1,x1.2.2.1,x1.2.2.2.1,x1.q.1,x1.q.2.1,x1.q.2.2.1,())
def WW (alU:Pt A IZ) (alV:Ft A IZ) (JA:Pt A oq) (JB:Ft A oq) (aey:Pt A IU) (aez:Ft A IU) (alW:Pt A IW) (alX:Ft A IW) (x:Tup A.ah [.x .blk]):Ot A ou:=
 B.j JA JB (x.1,()) fun x0=>
 B.j alU alV (B.x .blk (x0.1,x0.2.1,x0.q.2.2.1,x0.2.2.1,x0.2.2.2.1,x0.q.1,x0.q.2.1,()),()) fun x1=>
 B.j aey aez (x1.1,()) fun x2=>
 B.j alW alX (B.x .blk (x2.1,x2.2.1,x2.q.2.2.1,x2.2.2.1,x2.2.2.2.1,x2.q.1,x2.q.2.1,()),()) fun x3=>
 B.j aey aez (B.x .blk (x3.1,x3.2.1,x3.q.2.2.1,x3.2.2.1,x3.2.2.2.1,x3.q.1,x3.q.2.1,()),()) fun x4=>
 B.r (x4.1,x4.2.1,x4.2.2.1,x4.2.2.2.1,x4.q.1,x4.q.2.1,x4.q.2.2.1,())
def WX (aO:Pt A dx) (aP:Ft A dx) (x:Tup A.ah [.l .u8,.i]):Ot A I4:=
 B.j aO aP (B.n 4,x.1,x.2.1,()) fun x0=>
 B.i x0.1 fun x1=>
 B.j aO aP (B.n 4,x0.2.1,x0.2.2.1,()) fun x2=>
 B.i x2.1 fun x3=>
 B.j aO aP (B.n 14,x2.2.1,x2.2.2.1,()) fun x4=>
 B.b (B.e x4.1 B.z) fun x5=>
 A.bind [.i,.i,.i,.b,.l .u8,.i,.i,.i,.i,.i] (B.c x5.1 (B.r (x1.1,x3.1,x4.1,x5.1,x4.2.1,x4.2.2.1,B.z,B.z,B.z,B.z,()))<|
 B.b (B.e x4.1 B.u) fun x6=>
 B.r (x1.1,x3.1,x4.1,x6.1,x4.2.1,x4.2.2.1,B.z,B.z,B.z,B.z,())) fun x6=>
 B.c x6.2.2.2.1 (B.j aO aP (B.n 64,x6.q.1,x6.q.2.1,()) fun x7=>
 B.j aO aP (B.n 256,x7.2.1,x7.2.2.1,()) fun x8=>
 B.s (.l .i64) (A.lst .i64 [B.x .i64 (B.z,()),B.x .i64 (B.u,()),B.x .i64 (B.n 2,()),B.x .i64 (x7.1,()),B.x .i64 (x8.1,()),B.x .i64 (B.n 255,())]) fun x9=>
 B.j aO aP (B.n 6,x8.2.1,x8.2.2.1,()) fun x10=>
 B.w .i64 x9.1 x10.1<|
 B.w .i64 x9.1 x10.1<|
 B.r (B.u,x6.1,B.z,B.f .i64 0 (B.o .i64 x9.1 x10.1),x10.2.1,x10.2.2.1,()))<|
 B.b (B.e x6.2.2.1 (B.n 2)) fun x7=>
 B.c x7.1 (B.r (B.n 2,x6.1,x6.2.1,B.z,x6.q.1,x6.q.2.1,()))<|
 B.b (B.e x6.2.2.1 (B.n 3)) fun x8=>
 A.bind [.i,.i,.i,.b,.l .u8,.i,.i,.i,.i,.i] (B.c x8.1 (B.r (x6.1,x6.2.1,x6.2.2.1,x8.1,x6.q.1,x6.q.2.1,x6.q.2.2.1,x6.q.2.2.2.1,x6.o.1,x6.o.2.1,()))<|
 B.b (B.e x6.2.2.1 (B.n 4)) fun x9=>
 A.bind [.i,.i,.i,.b,.l .u8,.i,.i,.i,.i,.i] (B.c x9.1 (B.r (x6.1,x6.2.1,x6.2.2.1,x9.1,x6.q.1,x6.q.2.1,x6.q.2.2.1,x6.q.2.2.2.1,x6.o.1,x6.o.2.1,()))<|
 B.b (B.e x6.2.2.1 (B.n 5)) fun x10=>
 B.r (x6.1,x6.2.1,x6.2.2.1,x10.1,x6.q.1,x6.q.2.1,x6.q.2.2.1,x6.q.2.2.2.1,x6.o.1,x6.o.2.1,())) fun x10=>
 B.r (x10.1,x10.2.1,x10.2.2.1,x10.2.2.2.1,x10.q.1,x10.q.2.1,x10.q.2.2.1,x10.q.2.2.2.1,x10.o.1,x10.o.2.1,())) fun x9=>
 B.c x9.2.2.2.1 (B.j aO aP (B.n 5,x9.q.1,x9.q.2.1,()) fun x10=>
 B.j aO aP (B.n 4,x10.2.1,x10.2.2.1,()) fun x11=>
 B.r (B.p (B.n 3) x10.1,x9.1,x9.2.1,x11.1,x11.2.1,x11.2.2.1,()))<|
 B.b (B.e x9.2.2.1 (B.n 6)) fun x10=>
 B.c x10.1 (B.j aO aP (B.n 16,x9.q.1,x9.q.2.1,()) fun x11=>
 B.s (.l .i64) (A.lst .i64 [B.x .i64 (B.z,()),B.x .i64 (B.u,()),B.x .i64 (B.n 8,()),B.x .i64 (B.n 15,()),B.x .i64 (x11.1,())]) fun x12=>
 B.j aO aP (B.n 5,x11.2.1,x11.2.2.1,()) fun x13=>
 B.w .i64 x12.1 x13.1<|
 B.w .i64 x12.1 x13.1<|
 B.r (B.n 8,x9.1,x9.2.1,B.f .i64 0 (B.o .i64 x12.1 x13.1),x13.2.1,x13.2.2.1,()))<|
 B.b (B.e x9.2.2.1 (B.n 7)) fun x11=>
 A.bind [.i,.i,.i,.b,.l .u8,.i,.i,.i,.i,.i] (B.c x11.1 (B.r (x9.1,x9.2.1,x9.2.2.1,x11.1,x9.q.1,x9.q.2.1,x9.q.2.2.1,x9.q.2.2.2.1,x9.o.1,x9.o.2.1,()))<|
 B.b (B.e x9.2.2.1 (B.n 8)) fun x12=>
 B.r (x9.1,x9.2.1,x9.2.2.1,x12.1,x9.q.1,x9.q.2.1,x9.q.2.2.1,x9.q.2.2.2.1,x9.o.1,x9.o.2.1,())) fun x12=>
 B.c x12.2.2.2.1 (B.j aO aP (B.n 2,x12.q.1,x12.q.2.1,()) fun x13=>
 B.j aO aP (B.n 64,x13.2.1,x13.2.2.1,()) fun x14=>
 B.s (.l .i64) (A.lst .i64 [B.x .i64 (B.z,()),B.x .i64 (B.u,()),B.x .i64 (x14.1,()),B.x .i64 (B.n 63,()),B.x .i64 (B.n 64,()),B.x .i64 (B.n 255,())]) fun x15=>
 B.j aO aP (B.n 6,x14.2.1,x14.2.2.1,()) fun x16=>
 B.w .i64 x15.1 x16.1<|
 B.w .i64 x15.1 x16.1<|
 B.r (B.p (B.n 9) x13.1,x12.1,x12.2.1,B.f .i64 0 (B.o .i64 x15.1 x16.1),x16.2.1,x16.2.2.1,()))<|
 B.b (B.e x12.2.2.1 (B.n 9)) fun x13=>
 B.c x13.1 (B.j aO aP (B.n 2,x12.q.1,x12.q.2.1,()) fun x14=>
 B.j aO aP (B.n 20,x14.2.1,x14.2.2.1,()) fun x15=>
 B.j aO aP (B.n 64,x15.2.1,x15.2.2.1,()) fun x16=>
 B.s (.l .i64) (A.lst .i64 [B.x .i64 (x15.1,()),B.x .i64 (x16.1,()),B.x .i64 (B.n 200,())]) fun x17=>
 B.j aO aP (B.n 3,x16.2.1,x16.2.2.1,()) fun x18=>
 B.w .i64 x17.1 x18.1<|
 B.w .i64 x17.1 x18.1<|
 B.r (B.p (B.n 11) x14.1,x12.1,x12.2.1,B.f .i64 0 (B.o .i64 x17.1 x18.1),x18.2.1,x18.2.2.1,()))<|
 B.b (B.e x12.2.2.1 (B.n 10)) fun x14=>
 B.c x14.1 (B.j aO aP (B.n 2,x12.q.1,x12.q.2.1,()) fun x15=>
 B.r (B.p (B.n 14) x15.1,x12.1,B.z,B.z,x15.2.1,x15.2.2.1,()))<|
 B.b (B.e x12.2.2.1 (B.n 11)) fun x15=>
 B.c x15.1 (B.j aO aP (B.n 4,x12.q.1,x12.q.2.1,()) fun x16=>
 B.r (B.z,B.z,B.z,x16.1,x16.2.1,x16.2.2.1,()))<|
 B.b (B.e x12.2.2.1 (B.n 12)) fun x16=>
 B.c x16.1 (B.r (B.n 13,B.z,x12.2.1,B.z,x12.q.1,x12.q.2.1,()))<|
 B.r (B.n 14,x12.1,B.z,B.z,x12.q.1,x12.q.2.1,())
def WY (x:Tup A.ah [.x .ins]):Ot A I5:=
 B.b B.F fun x0=>
 B.b (B.e (B.f .ins 0 x.1) B.z) fun x1=>
 B.c x1.1 (B.v (B.a (B.a (B.e (B.f .ins 1 x.1) B.z) (B.e (B.f .ins 2 x.1) B.z) B.F) (B.m (B.f .ins 3 x.1) (B.n 3)) B.F))<|
 B.b (B.e (B.f .ins 0 x.1) B.u) fun x2=>
 B.c x2.1 (B.v (B.e (B.f .ins 2 x.1) B.z))<|
 B.b (B.e (B.f .ins 0 x.1) (B.n 2)) fun x3=>
 B.c x3.1 (B.v (B.e (B.f .ins 3 x.1) B.z))<|
 B.b (B.e (B.f .ins 0 x.1) (B.n 3)) fun x4=>
 A.bind [.i,.b,.x .ins] (B.c x4.1 (B.r (B.f .ins 0 x.1,x4.1,x.1,()))<|
 B.b (B.e (B.f .ins 0 x.1) (B.n 4)) fun x5=>
 A.bind [.i,.b,.x .ins] (B.c x5.1 (B.r (B.f .ins 0 x.1,x5.1,x.1,()))<|
 B.b (B.e (B.f .ins 0 x.1) (B.n 5)) fun x6=>
 A.bind [.i,.b,.x .ins] (B.c x6.1 (B.r (B.f .ins 0 x.1,x6.1,x.1,()))<|
 B.b (B.e (B.f .ins 0 x.1) (B.n 6)) fun x7=>
 A.bind [.i,.b,.x .ins] (B.c x7.1 (B.r (B.f .ins 0 x.1,x7.1,x.1,()))<|
 B.b (B.e (B.f .ins 0 x.1) (B.n 7)) fun x8=>
 B.r (B.f .ins 0 x.1,x8.1,x.1,())) fun x8=>
 B.r (x8.1,x8.2.1,x8.2.2.1,())) fun x7=>
 B.r (x7.1,x7.2.1,x7.2.2.1,())) fun x6=>
 B.r (x6.1,x6.2.1,x6.2.2.1,())) fun x5=>
 B.c x5.2.1 (B.v (B.l (B.f .ins 3 x5.2.2.1) (B.n 4)))<|
 B.b (B.e x5.1 (B.n 8)) fun x6=>
 B.c x6.1 (B.v (B.l (B.f .ins 3 x5.2.2.1) (B.n 16)))<|
 B.b (B.e x5.1 (B.n 13)) fun x7=>
 B.c x7.1 (B.v (B.a (B.e (B.f .ins 1 x5.2.2.1) B.z) (B.e (B.f .ins 3 x5.2.2.1) B.z) B.F))<|
 B.b (B.e x5.1 (B.n 14)) fun x8=>
 A.bind [.b,.x .ins] (B.c x8.1 (B.r (x8.1,x5.2.2.1,()))<|
 B.b (B.e x5.1 (B.n 15)) fun x9=>
 B.r (x9.1,x5.2.2.1,())) fun x9=>
 B.c x9.1 (B.v (B.a (B.e (B.f .ins 2 x9.2.1) B.z) (B.e (B.f .ins 3 x9.2.1) B.z) B.F))<|
 B.v B.T
def WZ (bW:Pt A bQ) (bX:Ft A bQ) (alY:Pt A I5) (alZ:Ft A I5) (x:Tup A.ah [.x .ins]):Ot A wH:=
 B.b B.F fun x0=>
 B.j bW bX (B.f .ins 0 x.1,B.z,B.n 15,()) fun x1=>
 B.k x1.1 bW bX (B.f .ins 1 x.1,B.z,B.n 3,()) fun x2=>
 B.k (B.a x1.1 x2.1 B.F) bW bX (B.f .ins 2 x.1,B.z,B.n 3,()) fun x3=>
 B.k (B.a (B.a x1.1 x2.1 B.F) x3.1 B.F) bW bX (B.f .ins 3 x.1,B.z,B.n 255,()) fun x4=>
 B.k (B.a (B.a (B.a x1.1 x2.1 B.F) x3.1 B.F) x4.1 B.F) alY alZ (x.1,()) fun x5=>
 B.v (B.a (B.a (B.a (B.a x1.1 x2.1 B.F) x3.1 B.F) x4.1 B.F) x5.1 B.F)
def W9 (x:Tup A.ah [.i]):Ot A wI:=
 B.b B.F fun x0=>
 B.v (B.a (B.a (B.e x.1 (B.n 11)) B.T (B.e x.1 (B.n 12))) B.T (B.e x.1 (B.n 13)))
def Xa (Xb:Pt A wI) (Xc:Ft A wI) (Xd:Pt A wH) (Xe:Ft A wH) (x:Tup A.ah [.x .ins]):Ot A wJ:=
 B.b B.F fun x0=>
 B.j Xd Xe (x.1,()) fun x1=>
 B.k (B.a x1.1 (B.d (B.f .ins 0 x.1) B.z) B.F) Xb Xc (B.f .ins 0 x.1,()) fun x2=>
 B.v (B.a (B.a x1.1 (B.d (B.f .ins 0 x.1) B.z) B.F) (B.N x2.1) B.F)
def Xf (al0:Pt A I4) (al1:Ft A I4) (aO:Pt A dx) (aP:Ft A dx) (Xg:Pt A wJ) (Xh:Ft A wJ) (x:Tup A.ah [.l .u8,.i]):Ot A I6:=
 B.j al0 al1 (x.1,x.2.1,()) fun x0=>
 B.j Xg Xh (B.x .ins (x0.1,x0.2.1,x0.2.2.1,x0.2.2.2.1,()),()) fun x1=>
 B.c (B.N x1.1) (B.j aO aP (B.n 4,x0.q.1,x0.q.2.1,()) fun x2=>
 B.r (B.n 3,x0.2.1,x0.2.2.1,x2.1,x2.2.1,x2.2.2.1,()))<|
 B.r (x0.1,x0.2.1,x0.2.2.1,x0.2.2.2.1,x0.q.1,x0.q.2.1,())
def Xi (aeA:Pt A I6) (aeB:Ft A I6) (aO:Pt A dx) (aP:Ft A dx) (x:Tup A.ah [.l .u8,.i]):Ot A I7:=
 B.s (.l .ins) (A.lst .ins []) fun x0=>
 B.j aO aP (B.n 8,x.1,x.2.1,()) fun x1=>
 B.i x1.1 fun x2=>
 B.I [.i,.l .u8,.i,.l .ins] (fun x3=>
 B.c (B.g x3.1 B.z) (B.j aeA aeB (x3.2.1,x3.2.2.1,()) fun x4=>
 B.s (.l .ins) (A.lst .ins [B.x .ins (x4.1,x4.2.1,x4.2.2.1,x4.2.2.2.1,())]) fun x5=>
 B.C (B.m (A.addN (B.y .ins x3.2.2.2.1) (B.y .ins x5.1)) (B.n 1073741824))<|
 B.s (.l .ins) (A.app .ins x3.2.2.2.1 x5.1) fun x6=>
 B.i (B.q x3.1 B.u) fun x7=>
 B.L (x7.1,x4.q.1,x4.q.2.1,x6.1,()))<|
 B.R<|B.j aO aP (B.n 3,x3.2.1,x3.2.2.1,()) fun x4=>
 B.b (B.e x4.1 B.z) fun x5=>
 B.c x5.1 (B.j aO aP (B.n 2,x4.2.1,x4.2.2.1,()) fun x6=>
 B.j aO aP (B.n 4,x6.2.1,x6.2.2.1,()) fun x7=>
 B.j aO aP (B.n 4,x7.2.1,x7.2.2.1,()) fun x8=>
 B.j aO aP (B.n 64,x8.2.1,x8.2.2.1,()) fun x9=>
 B.s (.l .ins) (A.lst .ins [B.x .ins (B.p (B.n 11) x6.1,x7.1,x8.1,x9.1,())]) fun x10=>
 B.C (B.m (A.addN (B.y .ins x3.2.2.2.1) (B.y .ins x10.1)) (B.n 1073741824))<|
 B.s (.l .ins) (A.app .ins x3.2.2.2.1 x10.1) fun x11=>
 B.r (x9.2.1,x9.2.2.1,x11.1,()))<|
 B.b (B.e x4.1 B.u) fun x6=>
 B.c x6.1 (B.j aO aP (B.n 4,x4.2.1,x4.2.2.1,()) fun x7=>
 B.s (.l .ins) (A.lst .ins [B.x .ins (B.n 13,B.z,x7.1,B.z,())]) fun x8=>
 B.C (B.m (A.addN (B.y .ins x3.2.2.2.1) (B.y .ins x8.1)) (B.n 1073741824))<|
 B.s (.l .ins) (A.app .ins x3.2.2.2.1 x8.1) fun x9=>
 B.r (x7.2.1,x7.2.2.1,x9.1,()))<|
 B.j aeA aeB (x4.2.1,x4.2.2.1,()) fun x7=>
 B.s (.l .ins) (A.lst .ins [B.x .ins (x7.1,x7.2.1,x7.2.2.1,x7.2.2.2.1,())]) fun x8=>
 B.C (B.m (A.addN (B.y .ins x3.2.2.2.1) (B.y .ins x8.1)) (B.n 1073741824))<|
 B.s (.l .ins) (A.app .ins x3.2.2.2.1 x8.1) fun x9=>
 B.r (x7.q.1,x7.q.2.1,x9.1,())) (x2.1,x1.2.1,x1.2.2.1,x0.1,())
def Xj (Xb:Pt A wI) (Xc:Ft A wI) (Xd:Pt A wH) (Xe:Ft A wH) (bW:Pt A bQ) (bX:Ft A bQ) (Xg:Pt A wJ) (Xh:Ft A wJ) (x:Tup A.ah [.i,.l .ins]):Ot A I8:=
 B.b B.F fun x0=>
 B.j bW bX (B.y .ins x.2.1,B.u,B.n 8,()) fun x1=>
 B.k (B.N (B.N x1.1)) bW bX (x.1,B.z,B.q (B.n 64) (B.y .ins x.2.1),()) fun x2=>
 B.c (B.a (B.N x1.1) B.T (B.N x2.1)) (B.v B.F)<|
 B.i B.z fun x3=>
 B.I [.l .ins,.i] (fun x4=>
 B.c (B.l x4.2.1 (B.y .ins x4.1)) (B.w .ins x4.1 x4.2.1<|
 B.j Xg Xh (B.o .ins x4.1 x4.2.1,()) fun x5=>
 B.C (B.O (B.N (A.jD (B.N x5.1) (B.N (B.l x4.2.1 (B.q (B.y .ins x4.1) B.u))))) (B.m B.z x4.2.1))<|
 B.C (B.O (B.N (A.jD (B.N x5.1) (B.N (B.l x4.2.1 (B.q (B.y .ins x4.1) B.u))))) (B.l x4.2.1 (B.y .ins x4.1)))<|
 B.k (A.jD (B.N x5.1) (B.N (B.l x4.2.1 (B.q (B.y .ins x4.1) B.u)))) Xd Xe (B.o .ins x4.1 x4.2.1,()) fun x6=>
 B.C (B.O (B.N (A.jD (B.N x5.1) (B.N (B.a (B.l x4.2.1 (B.q (B.y .ins x4.1) B.u)) B.T (B.N x6.1))))) (B.m B.z x4.2.1))<|
 B.C (B.O (B.N (A.jD (B.N x5.1) (B.N (B.a (B.l x4.2.1 (B.q (B.y .ins x4.1) B.u)) B.T (B.N x6.1))))) (B.l x4.2.1 (B.y .ins x4.1)))<|
 B.k (A.jD (B.N x5.1) (B.N (B.a (B.l x4.2.1 (B.q (B.y .ins x4.1) B.u)) B.T (B.N x6.1)))) Xb Xc (B.f .ins 0 (B.o .ins x4.1 x4.2.1),()) fun x7=>
 B.c (B.a (B.N x5.1) (B.a (B.a (B.l x4.2.1 (B.q (B.y .ins x4.1) B.u)) B.T (B.N x6.1)) B.T (B.N x7.1)) B.F) (B.b B.F fun x8=>
 B.R<|B.r (x8.1,()))<|
 B.i (B.p x4.2.1 B.u) fun x8=>
 B.L (x4.1,x8.1,()))<|
 B.R<|B.v B.T) (x.2.1,x3.1,())
def Xk (x:Tup A.ah [.i,.i,.i,.i,.i,.i,.x .iop,.l .iop]):Ot A jd:=
 B.i B.z fun x0=>
 B.s (.l .iop) (A.lst .iop [x.q.2.2.1]) fun x1=>
 B.C (B.m (A.addN (B.y .iop x.q.2.2.2.1) (B.y .iop x1.1)) (B.n 1073741824))<|
 B.s (.l .iop) (A.app .iop x.q.2.2.2.1 x1.1) fun x2=>
 B.i (B.q (B.y .iop x2.1) B.u) fun x3=>
 B.r (x.1,x.2.1,x.2.2.1,x.2.2.2.1,x.q.1,x.q.2.1,x3.1,x2.1,())
def Xl (lH:Pt A jd) (lI:Ft A jd) (x:Tup A.ah [.i,.i,.i,.i,.i,.i,.i,.i,.l .iop]):Ot A wK:=
 B.j lH lI (x.1,x.2.1,x.2.2.1,x.2.2.2.1,x.q.1,x.q.2.1,B.x .iop (B.n 8,x.q.2.2.2.1,B.z,x.q.2.2.1,B.z,()),x.o.1,()) fun x0=>
 B.i x0.q.2.2.1 fun x1=>
 B.r (x0.1,x0.2.1,x0.2.2.1,x0.2.2.2.1,x0.q.1,x0.q.2.1,x0.q.2.2.2.1,())
def Xm (lH:Pt A jd) (lI:Ft A jd) (x:Tup A.ah [.i,.i,.i,.i,.i,.i,.i,.l .iop]):Ot A kQ:=
 B.i B.z fun x0=>
 B.j lH lI (x.1,x.2.1,x.2.2.1,x.2.2.2.1,x.q.1,x.q.2.1,B.x .iop (B.n 2,B.z,B.z,x.q.2.2.1,B.z,()),x.q.2.2.2.1,()) fun x1=>
 B.i x1.q.2.2.1 fun x2=>
 B.r (x1.1,x1.2.1,x1.2.2.1,x1.2.2.2.1,x1.q.1,x1.q.2.1,x2.1,x1.q.2.2.2.1,())
def Xo (qp:Pt A kQ) (qw:Ft A kQ) (lH:Pt A jd) (lI:Ft A jd) (x:Tup A.ah [.i,.i,.i,.i,.i,.i,.i,.i,.x .iop,.l .iop]):Ot A wL:=
 B.i B.z fun x0=>
 B.j qp qw (x.1,x.2.1,x.2.2.1,x.2.2.2.1,x.q.1,x.q.2.1,x.q.2.2.2.1,x.o.2.1,()) fun x1=>
 B.i x1.q.2.2.1 fun x2=>
 B.j lH lI (x1.1,x1.2.1,x1.2.2.1,x1.2.2.2.1,x1.q.1,x1.q.2.1,x.o.1,x1.q.2.2.2.1,()) fun x3=>
 B.i x3.q.2.2.1 fun x4=>
 B.j lH lI (x3.1,x3.2.1,x3.2.2.1,x3.2.2.2.1,x3.q.1,x3.q.2.1,B.x .iop (B.n 3,x2.1,x4.1,x.q.2.2.1,B.z,()),x3.q.2.2.2.1,()) fun x5=>
 B.i x5.q.2.2.1 fun x6=>
 B.r (x5.1,x5.2.1,x5.2.2.1,x5.2.2.2.1,x5.q.1,x5.q.2.1,x6.1,x5.q.2.2.2.1,())
def Xp (x:Tup A.ah [.i]):Ot A I9:=
 B.i B.z fun x0=>
 B.i B.u fun x1=>
 B.i B.z fun x2=>
 B.I [.i,.i,.i] (fun x3=>
 B.c (B.l x3.2.2.1 x3.1) (B.i (B.p x3.2.1 x3.2.1) fun x4=>
 B.i (B.p x3.2.2.1 B.u) fun x5=>
 B.L (x3.1,x4.1,x5.1,()))<|
 B.R<|B.i x3.2.1 fun x4=>
 B.r (x4.1,())) (x.1,x1.1,x2.1,())
def Xq (qp:Pt A kQ) (qw:Ft A kQ) (lH:Pt A jd) (lI:Ft A jd) (NY:Pt A wL) (NZ:Ft A wL) (AP:Pt A wK) (AQ:Ft A wK) (x:Tup A.ah [.i,.i,.i,.i,.i,.i,.x .ins,.i,.l .iop]):Ot A Ja:=
 B.j NY NZ (x.1,x.2.1,x.2.2.1,x.2.2.2.1,x.q.1,x.q.2.1,B.u,B.f .ins 2 x.q.2.2.1,B.x .iop (B.u,B.z,B.z,B.f .ins 3 x.q.2.2.1,B.z,()),x.o.1,()) fun x0=>
 B.i x0.q.2.2.1 fun x1=>
 B.c (B.e (B.f .ins 0 x.q.2.2.1) (B.n 9)) (B.j lH lI (x0.1,x0.2.1,x0.2.2.1,x0.2.2.2.1,x0.q.1,x0.q.2.1,B.x .iop (B.n 4,x1.1,B.z,B.z,x.q.2.2.2.1,()),x0.q.2.2.2.1,()) fun x2=>
 B.i x2.q.2.2.1 fun x3=>
 B.j AP AQ (x2.1,x2.2.1,x2.2.2.1,x2.2.2.2.1,x2.q.1,x2.q.2.1,B.f .ins 1 x.q.2.2.1,x3.1,x2.q.2.2.2.1,()) fun x4=>
 B.r (x4.1,x4.2.1,x4.2.2.1,x4.2.2.2.1,x4.q.1,x4.q.2.1,x4.q.2.2.1,()))<|
 B.j qp qw (x0.1,x0.2.1,x0.2.2.1,x0.2.2.2.1,x0.q.1,x0.q.2.1,B.f .ins 1 x.q.2.2.1,x0.q.2.2.2.1,()) fun x2=>
 B.i x2.q.2.2.1 fun x3=>
 B.j lH lI (x2.1,x2.2.1,x2.2.2.1,x2.2.2.2.1,x2.q.1,x2.q.2.1,B.x .iop (B.n 5,x1.1,x3.1,B.z,x.q.2.2.2.1,()),x2.q.2.2.2.1,()) fun x4=>
 B.i x4.q.2.2.1 fun x5=>
 B.r (x4.1,x4.2.1,x4.2.2.1,x4.2.2.2.1,x4.q.1,x4.q.2.1,x4.q.2.2.2.1,())
def Xr (qp:Pt A kQ) (qw:Ft A kQ) (x:Tup A.ah [.i,.i,.i,.i,.i,.i,.x .ins,.l .iop]):Ot A Jb:=
 B.c (B.e (B.f .ins 0 x.q.2.2.1) (B.n 13)) (B.j qp qw (x.1,x.2.1,x.2.2.1,x.2.2.2.1,x.q.1,x.q.2.1,B.f .ins 2 x.q.2.2.1,x.q.2.2.2.1,()) fun x0=>
 B.i x0.q.2.2.1 fun x1=>
 B.i (B.n 2) fun x2=>
 B.i x1.1 fun x3=>
 B.i B.z fun x4=>
 B.r (x0.1,x0.2.1,x2.1,x3.1,x0.q.1,x4.1,x0.q.2.2.2.1,()))<|
 B.j qp qw (x.1,x.2.1,x.2.2.1,x.2.2.2.1,x.q.1,x.q.2.1,B.f .ins 1 x.q.2.2.1,x.q.2.2.2.1,()) fun x0=>
 B.i x0.q.2.2.1 fun x1=>
 B.j qp qw (x0.1,x0.2.1,x0.2.2.1,x0.2.2.2.1,x0.q.1,x0.q.2.1,B.f .ins 2 x.q.2.2.1,x0.q.2.2.2.1,()) fun x2=>
 B.i x2.q.2.2.1 fun x3=>
 B.i (B.n 3) fun x4=>
 A.bind [.i,.i,.x .ins,.i,.i,.i,.i,.i,.i,.i,.i,.i,.i,.i,.i,.l .iop] (B.c (B.e (B.f .ins 0 x.q.2.2.1) (B.n 12)) (B.i (B.n 4) fun x5=>
 B.r (x1.1,x3.1,x.q.2.2.1,B.z,B.z,B.z,B.z,B.z,B.z,x2.1,x2.2.1,x5.1,x2.2.2.2.1,x2.q.1,x2.q.2.1,x2.q.2.2.2.1,()))<|
 B.r (x1.1,x3.1,x.q.2.2.1,B.z,B.z,B.z,B.z,B.z,B.z,x2.1,x2.2.1,x4.1,x2.2.2.2.1,x2.q.1,x2.q.2.1,x2.q.2.2.2.1,())) fun x5=>
 B.i x5.1 fun x6=>
 B.i x5.2.1 fun x7=>
 B.i (B.f .ins 3 x5.2.2.1) fun x8=>
 B.r (x5.o.2.1,x5.o.2.2.1,x5.o.2.2.2.1,x6.1,x7.1,x8.1,x5.o.q.2.2.2.1,())
def Xt (qp:Pt A kQ) (qw:Ft A kQ) (al2:Pt A Jb) (al3:Ft A Jb) (lH:Pt A jd) (lI:Ft A jd) (al4:Pt A Ja) (al5:Ft A Ja) (NY:Pt A wL) (NZ:Ft A wL) (AP:Pt A wK) (AQ:Ft A wK) (al6:Pt A I9) (al7:Ft A I9) (x:Tup A.ah [.i,.i,.i,.i,.i,.i,.x .ins,.i,.l .iop]):Ot A Jc:=
 B.b (B.e (B.f .ins 0 x.q.2.2.1) B.u) fun x0=>
 B.c x0.1 (B.j lH lI (x.1,x.2.1,x.2.2.1,x.2.2.2.1,x.q.1,x.q.2.1,B.x .iop (B.u,B.z,B.z,B.f .ins 3 x.q.2.2.1,B.z,()),x.o.1,()) fun x1=>
 B.i x1.q.2.2.1 fun x2=>
 B.j AP AQ (x1.1,x1.2.1,x1.2.2.1,x1.2.2.2.1,x1.q.1,x1.q.2.1,B.f .ins 1 x.q.2.2.1,x2.1,x1.q.2.2.2.1,()) fun x3=>
 B.r (x3.1,x3.2.1,x3.2.2.1,x3.2.2.2.1,x3.q.1,x3.q.2.1,x3.q.2.2.1,()))<|
 B.b (B.e (B.f .ins 0 x.q.2.2.1) (B.n 2)) fun x1=>
 B.c x1.1 (B.j qp qw (x.1,x.2.1,x.2.2.1,x.2.2.2.1,x.q.1,x.q.2.1,B.f .ins 2 x.q.2.2.1,x.o.1,()) fun x2=>
 B.i x2.q.2.2.1 fun x3=>
 B.j AP AQ (x2.1,x2.2.1,x2.2.2.1,x2.2.2.2.1,x2.q.1,x2.q.2.1,B.f .ins 1 x.q.2.2.1,x3.1,x2.q.2.2.2.1,()) fun x4=>
 B.r (x4.1,x4.2.1,x4.2.2.1,x4.2.2.2.1,x4.q.1,x4.q.2.1,x4.q.2.2.1,()))<|
 B.b (B.e (B.f .ins 0 x.q.2.2.1) (B.n 8)) fun x2=>
 B.c x2.1 (B.j al6 al7 (B.f .ins 3 x.q.2.2.1,()) fun x3=>
 B.j NY NZ (x.1,x.2.1,x.2.2.1,x.2.2.2.1,x.q.1,x.q.2.1,B.n 3,B.f .ins 2 x.q.2.2.1,B.x .iop (B.u,B.z,B.z,x3.1,B.z,()),x.o.1,()) fun x4=>
 B.i x4.q.2.2.1 fun x5=>
 B.j AP AQ (x4.1,x4.2.1,x4.2.2.1,x4.2.2.2.1,x4.q.1,x4.q.2.1,B.f .ins 1 x.q.2.2.1,x5.1,x4.q.2.2.2.1,()) fun x6=>
 B.r (x6.1,x6.2.1,x6.2.2.1,x6.2.2.2.1,x6.q.1,x6.q.2.1,x6.q.2.2.1,()))<|
 B.b (B.e (B.f .ins 0 x.q.2.2.1) (B.n 9)) fun x3=>
 A.bind [.i,.i,.b,.l .iop,.i,.i,.i,.i,.i,.i,.x .ins,.i,.i,.i,.i,.i,.i] (B.c x3.1 (B.r (x.q.2.2.2.1,B.f .ins 0 x.q.2.2.1,x3.1,x.o.1,x.1,x.2.1,x.2.2.1,x.2.2.2.1,x.q.1,x.q.2.1,x.q.2.2.1,B.z,B.z,B.z,B.z,B.z,B.z,()))<|
 B.b (B.e (B.f .ins 0 x.q.2.2.1) (B.n 10)) fun x4=>
 B.r (x.q.2.2.2.1,B.f .ins 0 x.q.2.2.1,x4.1,x.o.1,x.1,x.2.1,x.2.2.1,x.2.2.2.1,x.q.1,x.q.2.1,x.q.2.2.1,B.z,B.z,B.z,B.z,B.z,B.z,())) fun x4=>
 B.c x4.2.2.1 (B.j al4 al5 (x4.q.1,x4.q.2.1,x4.q.2.2.1,x4.q.2.2.2.1,x4.o.1,x4.o.2.1,x4.o.2.2.1,x4.1,x4.2.2.2.1,()) fun x5=>
 B.r (x5.1,x5.2.1,x5.2.2.1,x5.2.2.2.1,x5.q.1,x5.q.2.1,x5.q.2.2.1,()))<|
 B.b (B.e x4.2.1 (B.n 14)) fun x5=>
 B.c x5.1 (B.j qp qw (x4.q.1,x4.q.2.1,x4.q.2.2.1,x4.q.2.2.2.1,x4.o.1,x4.o.2.1,B.f .ins 1 x4.o.2.2.1,x4.2.2.2.1,()) fun x6=>
 B.i x6.q.2.2.1 fun x7=>
 B.j lH lI (x6.1,x6.2.1,x6.2.2.1,x6.2.2.2.1,x6.q.1,x6.q.2.1,B.x .iop (B.n 7,x7.1,B.z,B.z,x4.1,()),x6.q.2.2.2.1,()) fun x8=>
 B.i x8.q.2.2.1 fun x9=>
 B.r (x8.1,x8.2.1,x8.2.2.1,x8.2.2.2.1,x8.q.1,x8.q.2.1,x8.q.2.2.2.1,()))<|
 B.b (B.e x4.2.1 (B.n 15)) fun x6=>
 B.c x6.1 (B.j lH lI (x4.q.1,x4.q.2.1,x4.q.2.2.1,x4.q.2.2.2.1,x4.o.1,x4.o.2.1,B.x .iop (B.n 6,B.z,B.z,B.z,x4.1,()),x4.2.2.2.1,()) fun x7=>
 B.i x7.q.2.2.1 fun x8=>
 B.j AP AQ (x7.1,x7.2.1,x7.2.2.1,x7.2.2.2.1,x7.q.1,x7.q.2.1,B.f .ins 1 x4.o.2.2.1,x8.1,x7.q.2.2.2.1,()) fun x9=>
 B.r (x9.1,x9.2.1,x9.2.2.1,x9.2.2.2.1,x9.q.1,x9.q.2.1,x9.q.2.2.1,()))<|
 B.b (B.e x4.2.1 (B.n 11)) fun x7=>
 A.bind [.b,.l .iop,.i,.i,.i,.i,.i,.i,.x .ins,.i,.i,.i,.i,.i,.i] (B.c x7.1 (B.r (x7.1,x4.2.2.2.1,x4.q.1,x4.q.2.1,x4.q.2.2.1,x4.q.2.2.2.1,x4.o.1,x4.o.2.1,x4.o.2.2.1,x4.o.2.2.2.1,x4.o.q.1,x4.o.q.2.1,x4.o.q.2.2.1,x4.o.q.2.2.2.1,x4.o.o.1,()))<|
 B.b (B.e x4.2.1 (B.n 12)) fun x8=>
 A.bind [.b,.l .iop,.i,.i,.i,.i,.i,.i,.x .ins,.i,.i,.i,.i,.i,.i] (B.c x8.1 (B.r (x8.1,x4.2.2.2.1,x4.q.1,x4.q.2.1,x4.q.2.2.1,x4.q.2.2.2.1,x4.o.1,x4.o.2.1,x4.o.2.2.1,x4.o.2.2.2.1,x4.o.q.1,x4.o.q.2.1,x4.o.q.2.2.1,x4.o.q.2.2.2.1,x4.o.o.1,()))<|
 B.b (B.e x4.2.1 (B.n 13)) fun x9=>
 B.r (x9.1,x4.2.2.2.1,x4.q.1,x4.q.2.1,x4.q.2.2.1,x4.q.2.2.2.1,x4.o.1,x4.o.2.1,x4.o.2.2.1,x4.o.2.2.2.1,x4.o.q.1,x4.o.q.2.1,x4.o.q.2.2.1,x4.o.q.2.2.2.1,x4.o.o.1,())) fun x9=>
 B.r (x9.1,x9.2.1,x9.2.2.1,x9.2.2.2.1,x9.q.1,x9.q.2.1,x9.q.2.2.1,x9.q.2.2.2.1,x9.o.1,x9.o.2.1,x9.o.2.2.1,x9.o.2.2.2.1,x9.o.q.1,x9.o.q.2.1,x9.o.q.2.2.1,())) fun x8=>
 B.c x8.1 (B.j al2 al3 (x8.2.2.1,x8.2.2.2.1,x8.q.1,x8.q.2.1,x8.q.2.2.1,x8.q.2.2.2.1,x8.o.1,x8.2.1,()) fun x9=>
 B.r (x9.1,x9.2.1,x9.2.2.1,x9.2.2.2.1,x9.q.1,x9.q.2.1,x9.q.2.2.1,()))<|
 B.j NY NZ (x8.2.2.1,x8.2.2.2.1,x8.q.1,x8.q.2.1,x8.q.2.2.1,x8.q.2.2.2.1,B.p (B.q (B.f .ins 0 x8.o.1) (B.n 3)) B.u,B.f .ins 2 x8.o.1,B.x .iop (B.n 2,B.z,B.z,B.f .ins 3 x8.o.1,B.z,()),x8.2.1,()) fun x9=>
 B.i x9.q.2.2.1 fun x10=>
 B.j AP AQ (x9.1,x9.2.1,x9.2.2.1,x9.2.2.2.1,x9.q.1,x9.q.2.1,B.f .ins 1 x8.o.1,x10.1,x9.q.2.2.2.1,()) fun x11=>
 B.r (x11.1,x11.2.1,x11.2.2.1,x11.2.2.2.1,x11.q.1,x11.q.2.1,x11.q.2.2.1,())
def Xu (al8:Pt A I8) (al9:Ft A I8) (ama:Pt A Jc) (amb:Ft A Jc) (x:Tup A.ah [.i,.l .ins]):Ot A Jd:=
 B.j al8 al9 (x.1,x.2.1,()) fun x0=>
 B.c (B.N x0.1) (B.r (B.z,B.z,B.z,B.z,B.z,B.z,A.aN .iop,()))<|
 B.i B.z fun x1=>
 B.I [.l .ins,.i,.i,.i,.i,.i,.i,.i,.i,.i,.i,.i,.i,.i,.l .iop] (fun x2=>
 B.c (B.l x2.2.1 (B.y .ins x2.1)) (B.w .ins x2.1 x2.2.1<|
 B.j ama amb (x2.o.1,x2.o.2.1,x2.o.2.2.1,x2.o.2.2.2.1,x2.o.q.1,x2.o.q.2.1,B.o .ins x2.1 x2.2.1,x2.2.1,x2.o.q.2.2.1,()) fun x3=>
 B.i (B.p x2.2.1 B.u) fun x4=>
 B.L (x2.1,x4.1,x2.2.2.1,x2.2.2.2.1,x2.q.1,x2.q.2.1,x2.q.2.2.1,x2.q.2.2.2.1,x3.1,x3.2.1,x3.2.2.1,x3.2.2.2.1,x3.q.1,x3.q.2.1,x3.q.2.2.1,()))<|
 B.R<|B.r (x2.o.1,x2.o.2.1,x2.o.2.2.1,x2.o.2.2.2.1,x2.o.q.1,x2.o.q.2.1,x2.o.q.2.2.1,())) (x.2.1,x1.1,B.z,B.z,B.z,B.z,B.z,B.z,x.1,B.y .ins x.2.1,B.u,B.z,B.z,B.p x.1 (B.y .ins x.2.1),A.aN .iop,())
def Xv (amc:Pt A Jd) (amd:Ft A Jd) (wQ:Pt A ou) (wR:Ft A ou) (JA:Pt A oq) (JB:Ft A oq) (aO:Pt A dx) (aP:Ft A dx) (ame:Pt A I7) (amf:Ft A I7) (x:Tup A.ah [.l .u8,.i]):Ot A wM:=
 B.j ame amf (x.1,x.2.1,()) fun x0=>
 B.j aO aP (B.n 50,x0.1,x0.2.1,()) fun x1=>
 B.s (.l .i64) (A.lst .i64 [B.x .i64 (B.z,()),B.x .i64 (B.u,()),B.x .i64 (x1.1,()),B.x .i64 (B.q (B.n 64) (B.y .ins x0.2.2.1),())]) fun x2=>
 B.j aO aP (B.n 4,x1.2.1,x1.2.2.1,()) fun x3=>
 B.w .i64 x2.1 x3.1<|
 B.w .i64 x2.1 x3.1<|
 B.j amc amd (B.f .i64 0 (B.o .i64 x2.1 x3.1),x0.2.2.1,()) fun x4=>
 B.j aO aP (B.n 5,x3.2.1,x3.2.2.1,()) fun x5=>
 B.b (B.e x5.1 B.z) fun x6=>
 B.c x6.1 (B.j wQ wR (B.x .blk (x4.1,x4.2.1,x4.q.2.2.1,x4.2.2.1,x4.2.2.2.1,x4.q.1,x4.q.2.1,()),()) fun x7=>
 B.r (x7.1,x7.2.1,x7.2.2.1,x7.2.2.2.1,x7.q.1,x7.q.2.1,x5.2.1,x5.2.2.1,x7.q.2.2.1,()))<|
 B.b (B.e x5.1 B.u) fun x7=>
 B.c x7.1 (B.j JA JB (B.x .blk (x4.1,x4.2.1,x4.q.2.2.1,x4.2.2.1,x4.2.2.2.1,x4.q.1,x4.q.2.1,()),()) fun x8=>
 B.r (x8.1,x8.2.1,x8.2.2.1,x8.2.2.2.1,x8.q.1,x8.q.2.1,x5.2.1,x5.2.2.1,x8.q.2.2.1,()))<|
 B.r (x4.1,x4.2.1,x4.2.2.1,x4.2.2.2.1,x4.q.1,x4.q.2.1,x5.2.1,x5.2.2.1,x4.q.2.2.1,())
def Xw (aO:Pt A dx) (aP:Ft A dx) (x:Tup A.ah [.i,.l .u8,.i]):Ot A wN:=
 B.b B.F fun x0=>
 B.j aO aP (x.1,x.2.1,x.2.2.1,()) fun x1=>
 B.b (B.e x1.1 (B.q x.1 B.u)) fun x2=>
 B.r (x2.1,x1.2.1,x1.2.2.1,())
def N7 (aO:Pt A dx) (aP:Ft A dx) (qm:Pt A jc) (qo:Ft A jc) (x:Tup A.ah [.x .blk,.l .u8,.i]):Ot A ow:=
 B.j qm qo (x.1,()) fun x0=>
 B.c (B.e (B.y .iop x0.q.2.2.1) B.z) (B.i (B.p x0.q.2.1 B.u) fun x1=>
 B.r (x0.1,x0.2.1,x0.2.2.1,x0.2.2.2.1,x0.q.1,x1.1,x.2.1,x.2.2.1,x0.q.2.2.1,()))<|
 B.j aO aP (B.y .iop x0.q.2.2.1,x.2.1,x.2.2.1,()) fun x1=>
 B.i x1.1 fun x2=>
 B.j aO aP (B.n 9,x1.2.1,x1.2.2.1,()) fun x3=>
 B.b (B.e x3.1 B.z) fun x4=>
 A.bind [.l .u8,.i,.i,.i,.i,.i,.i,.i,.i,.i,.i,.i,.i,.i,.l .iop] (B.c x4.1 (B.w .iop x0.q.2.2.1 x2.1<|
 B.w .iop x0.q.2.2.1 x2.1<|
 B.w .iop x0.q.2.2.1 x2.1<|
 B.w .iop x0.q.2.2.1 x2.1<|
 B.i (B.p (B.f .iop 3 (B.o .iop x0.q.2.2.1 x2.1)) B.u) fun x5=>
 B.r (x3.2.1,x3.2.2.1,B.z,B.z,B.z,B.z,B.z,B.z,x0.1,x0.2.1,x0.2.2.1,x0.2.2.2.1,x0.q.1,x0.q.2.1,A.set .iop x0.q.2.2.1 x2.1 (B.x .iop (B.f .iop 0 (B.o .iop x0.q.2.2.1 x2.1),B.f .iop 1 (B.o .iop x0.q.2.2.1 x2.1),B.f .iop 2 (B.o .iop x0.q.2.2.1 x2.1),x5.1,B.f .iop 4 (B.o .iop x0.q.2.2.1 x2.1),())),()))<|
 B.b (B.e x3.1 B.u) fun x5=>
 A.bind [.l .u8,.i,.i,.i,.i,.i,.i,.i,.i,.i,.i,.i,.i,.i,.l .iop] (B.c x5.1 (B.j aO aP (B.p x2.1 B.u,x3.2.1,x3.2.2.1,()) fun x6=>
 B.w .iop x0.q.2.2.1 x2.1<|
 B.w .iop x0.q.2.2.1 x2.1<|
 B.i x6.1 fun x7=>
 B.r (x6.2.1,x6.2.2.1,B.z,B.z,B.z,B.z,B.z,B.z,x0.1,x0.2.1,x0.2.2.1,x0.2.2.2.1,x0.q.1,x0.q.2.1,A.set .iop x0.q.2.2.1 x2.1 (B.x .iop (B.f .iop 0 (B.o .iop x0.q.2.2.1 x2.1),x7.1,B.f .iop 2 (B.o .iop x0.q.2.2.1 x2.1),B.f .iop 3 (B.o .iop x0.q.2.2.1 x2.1),B.f .iop 4 (B.o .iop x0.q.2.2.1 x2.1),())),()))<|
 B.b (B.e x3.1 (B.n 2)) fun x6=>
 A.bind [.l .u8,.i,.i,.i,.i,.i,.i,.i,.i,.i,.i,.i,.i,.i,.l .iop] (B.c x6.1 (B.j aO aP (B.p x2.1 B.u,x3.2.1,x3.2.2.1,()) fun x7=>
 B.w .iop x0.q.2.2.1 x2.1<|
 B.w .iop x0.q.2.2.1 x2.1<|
 B.i x7.1 fun x8=>
 B.r (x7.2.1,x7.2.2.1,B.z,B.z,B.z,B.z,B.z,B.z,x0.1,x0.2.1,x0.2.2.1,x0.2.2.2.1,x0.q.1,x0.q.2.1,A.set .iop x0.q.2.2.1 x2.1 (B.x .iop (B.f .iop 0 (B.o .iop x0.q.2.2.1 x2.1),B.f .iop 1 (B.o .iop x0.q.2.2.1 x2.1),x8.1,B.f .iop 3 (B.o .iop x0.q.2.2.1 x2.1),B.f .iop 4 (B.o .iop x0.q.2.2.1 x2.1),())),()))<|
 B.b (B.e x3.1 (B.n 3)) fun x7=>
 A.bind [.l .u8,.i,.i,.i,.i,.i,.i,.i,.i,.i,.i,.i,.i,.i,.l .iop] (B.c x7.1 (B.j aO aP (B.p x0.2.1 B.u,x3.2.1,x3.2.2.1,()) fun x8=>
 B.w .iop x0.q.2.2.1 x2.1<|
 B.w .iop x0.q.2.2.1 x2.1<|
 B.i x8.1 fun x9=>
 B.r (x8.2.1,x8.2.2.1,B.z,B.z,B.z,B.z,B.z,B.z,x0.1,x0.2.1,x0.2.2.1,x0.2.2.2.1,x0.q.1,x0.q.2.1,A.set .iop x0.q.2.2.1 x2.1 (B.x .iop (B.f .iop 0 (B.o .iop x0.q.2.2.1 x2.1),B.f .iop 1 (B.o .iop x0.q.2.2.1 x2.1),B.f .iop 2 (B.o .iop x0.q.2.2.1 x2.1),B.f .iop 3 (B.o .iop x0.q.2.2.1 x2.1),x9.1,())),()))<|
 B.b (B.e x3.1 (B.n 4)) fun x8=>
 A.bind [.l .u8,.i,.i,.i,.i,.i,.i,.i,.i,.i,.i,.i,.i,.i,.l .iop] (B.c x8.1 (B.j aO aP (B.n 66,x3.2.1,x3.2.2.1,()) fun x9=>
 B.i x9.1 fun x10=>
 B.r (x9.2.1,x9.2.2.1,B.z,B.z,B.z,B.z,B.z,B.z,x0.1,x0.2.1,x0.2.2.1,x0.2.2.2.1,x0.q.1,x10.1,x0.q.2.2.1,()))<|
 B.b (B.e x3.1 (B.n 5)) fun x9=>
 A.bind [.l .u8,.i,.i,.i,.i,.i,.i,.i,.i,.i,.i,.i,.i,.i,.l .iop] (B.c x9.1 (B.j aO aP (B.n 4,x3.2.1,x3.2.2.1,()) fun x10=>
 B.i (B.p B.u x10.1) fun x11=>
 B.r (x10.2.1,x10.2.2.1,B.z,B.z,B.z,B.z,B.z,B.z,x0.1,x0.2.1,x11.1,x0.2.2.2.1,x0.q.1,x0.q.2.1,x0.q.2.2.1,()))<|
 B.b (B.e x3.1 (B.n 6)) fun x10=>
 A.bind [.l .u8,.i,.i,.i,.i,.i,.i,.i,.i,.i,.i,.i,.i,.i,.l .iop] (B.c x10.1 (A.bind [.l .u8,.i,.i,.i,.i,.i,.i,.i,.i,.i,.i,.i,.i,.i,.l .iop] (B.c (B.g x2.1 B.z) (B.w .iop x0.q.2.2.1 x2.1<|
 B.w .iop x0.q.2.2.1 x2.1<|
 B.s (.x .iop) (B.o .iop x0.q.2.2.1 x2.1) fun x11=>
 B.w .iop x0.q.2.2.1 (B.q x2.1 B.u)<|
 B.w .iop x0.q.2.2.1 (B.q x2.1 B.u)<|
 B.w .iop x0.q.2.2.1 x2.1<|
 B.w .iop x0.q.2.2.1 x2.1<|
 B.s (.x .iop) (B.o .iop x0.q.2.2.1 (B.q x2.1 B.u)) fun x12=>
 B.w .iop (A.set .iop x0.q.2.2.1 x2.1 x12.1) (B.q x2.1 B.u)<|
 B.w .iop (A.set .iop x0.q.2.2.1 x2.1 x12.1) (B.q x2.1 B.u)<|
 B.s (.x .iop) x11.1 fun x13=>
 B.r (x3.2.1,x3.2.2.1,B.z,B.z,B.z,B.z,B.z,B.z,x0.1,x0.2.1,x0.2.2.1,x0.2.2.2.1,x0.q.1,x0.q.2.1,A.set .iop (A.set .iop x0.q.2.2.1 x2.1 x12.1) (B.q x2.1 B.u) x13.1,()))<|
 B.r (x3.2.1,x3.2.2.1,B.z,B.z,B.z,B.z,B.z,B.z,x0.1,x0.2.1,x0.2.2.1,x0.2.2.2.1,x0.q.1,x0.q.2.1,x0.q.2.2.1,())) fun x11=>
 B.r (x11.1,x11.2.1,x11.2.2.1,x11.2.2.2.1,x11.q.1,x11.q.2.1,x11.q.2.2.1,x11.q.2.2.2.1,x11.o.1,x11.o.2.1,x11.o.2.2.1,x11.o.2.2.2.1,x11.o.q.1,x11.o.q.2.1,x11.o.q.2.2.1,()))<|
 B.b (B.e x3.1 (B.n 7)) fun x11=>
 A.bind [.l .u8,.i,.i,.i,.i,.i,.i,.i,.i,.i,.i,.i,.i,.i,.l .iop] (B.c x11.1 (B.j aO aP (B.n 3,x3.2.1,x3.2.2.1,()) fun x12=>
 B.w .iop x0.q.2.2.1 x2.1<|
 B.w .iop x0.q.2.2.1 x2.1<|
 B.r (x12.2.1,x12.2.2.1,B.z,B.z,B.z,B.z,B.z,B.z,x0.1,x0.2.1,x0.2.2.1,x0.2.2.2.1,x0.q.1,x0.q.2.1,A.set .iop x0.q.2.2.1 x2.1 (B.x .iop (B.u,B.z,B.z,x12.1,B.z,())),()))<|
 B.C (B.m B.z B.z)<|
 B.C (B.m B.z x2.1)<|
 B.C (B.m x2.1 (B.y .iop x0.q.2.2.1))<|
 B.C (B.e B.z B.z)<|
 B.C (B.m B.z (A.Au x2.1 B.z))<|
 B.C (B.m (A.Au x2.1 B.z) (B.y .iop x0.q.2.2.1))<|
 B.r (x3.2.1,x3.2.2.1,B.z,B.z,B.z,B.z,B.z,B.z,x0.1,x0.2.1,x0.2.2.1,x0.2.2.2.1,x0.q.1,x0.q.2.1,A.sub .iop x0.q.2.2.1 B.z (A.Au x2.1 B.z),())) fun x12=>
 B.r (x12.1,x12.2.1,x12.2.2.1,x12.2.2.2.1,x12.q.1,x12.q.2.1,x12.q.2.2.1,x12.q.2.2.2.1,x12.o.1,x12.o.2.1,x12.o.2.2.1,x12.o.2.2.2.1,x12.o.q.1,x12.o.q.2.1,x12.o.q.2.2.1,())) fun x11=>
 B.r (x11.1,x11.2.1,x11.2.2.1,x11.2.2.2.1,x11.q.1,x11.q.2.1,x11.q.2.2.1,x11.q.2.2.2.1,x11.o.1,x11.o.2.1,x11.o.2.2.1,x11.o.2.2.2.1,x11.o.q.1,x11.o.q.2.1,x11.o.q.2.2.1,())) fun x10=>
 B.r (x10.1,x10.2.1,x10.2.2.1,x10.2.2.2.1,x10.q.1,x10.q.2.1,x10.q.2.2.1,x10.q.2.2.2.1,x10.o.1,x10.o.2.1,x10.o.2.2.1,x10.o.2.2.2.1,x10.o.q.1,x10.o.q.2.1,x10.o.q.2.2.1,())) fun x9=>
 B.r (x9.1,x9.2.1,x9.2.2.1,x9.2.2.2.1,x9.q.1,x9.q.2.1,x9.q.2.2.1,x9.q.2.2.2.1,x9.o.1,x9.o.2.1,x9.o.2.2.1,x9.o.2.2.2.1,x9.o.q.1,x9.o.q.2.1,x9.o.q.2.2.1,())) fun x8=>
 B.r (x8.1,x8.2.1,x8.2.2.1,x8.2.2.2.1,x8.q.1,x8.q.2.1,x8.q.2.2.1,x8.q.2.2.2.1,x8.o.1,x8.o.2.1,x8.o.2.2.1,x8.o.2.2.2.1,x8.o.q.1,x8.o.q.2.1,x8.o.q.2.2.1,())) fun x7=>
 B.r (x7.1,x7.2.1,x7.2.2.1,x7.2.2.2.1,x7.q.1,x7.q.2.1,x7.q.2.2.1,x7.q.2.2.2.1,x7.o.1,x7.o.2.1,x7.o.2.2.1,x7.o.2.2.2.1,x7.o.q.1,x7.o.q.2.1,x7.o.q.2.2.1,())) fun x6=>
 B.r (x6.1,x6.2.1,x6.2.2.1,x6.2.2.2.1,x6.q.1,x6.q.2.1,x6.q.2.2.1,x6.q.2.2.2.1,x6.o.1,x6.o.2.1,x6.o.2.2.1,x6.o.2.2.2.1,x6.o.q.1,x6.o.q.2.1,x6.o.q.2.2.1,())) fun x5=>
 B.r (x5.o.1,x5.o.2.1,x5.o.2.2.1,x5.o.2.2.2.1,x5.o.q.1,x5.o.q.2.1,x5.1,x5.2.1,x5.o.q.2.2.1,())
def Xx (wQ:Pt A ou) (wR:Ft A ou) (Xy:Pt A wN) (Xz:Ft A wN) (aO:Pt A dx) (aP:Ft A dx) (Dm:Pt A ow) (Dn:Ft A ow) (N8:Pt A wM) (N9:Ft A wM) (x:Tup A.ah [.i,.l .u8,.i]):Ot A Je:=
 B.s (.l .cer) (A.lst .cer []) fun x0=>
 B.j aO aP (B.n 4,x.2.1,x.2.2.1,()) fun x1=>
 B.i x1.1 fun x2=>
 B.I [.i,.i,.l .u8,.i,.l .cer] (fun x3=>
 B.c (B.g x3.2.1 B.z) (B.j N8 N9 (x3.2.2.1,x3.2.2.2.1,()) fun x4=>
 B.j wQ wR (B.x .blk (x4.1,x4.2.1,x4.o.1,x4.2.2.1,x4.2.2.2.1,x4.q.1,x4.q.2.1,()),()) fun x5=>
 B.s (.l .cer) (A.lst .cer [B.x .cer (x4.1,x4.2.1,x4.o.1,x4.2.2.1,x4.2.2.2.1,x4.q.1,x4.q.2.1,x5.1,x5.2.1,x5.q.2.2.1,x5.2.2.1,x5.2.2.2.1,x5.q.1,x5.q.2.1,())]) fun x6=>
 B.C (B.m (A.addN (B.y .cer x3.q.1) (B.y .cer x6.1)) (B.n 1073741824))<|
 B.s (.l .cer) (A.app .cer x3.q.1 x6.1) fun x7=>
 B.i (B.q x3.2.1 B.u) fun x8=>
 B.L (x3.1,x8.1,x4.q.2.2.1,x4.q.2.2.2.1,x7.1,()))<|
 B.R<|B.j Xy Xz (x3.1,x3.2.2.1,x3.2.2.2.1,()) fun x4=>
 A.bind [.l .u8,.i,.l .cer] (B.c x4.1 (B.j N8 N9 (x4.2.1,x4.2.2.1,()) fun x5=>
 B.j Dm Dn (B.x .blk (x5.1,x5.2.1,x5.o.1,x5.2.2.1,x5.2.2.2.1,x5.q.1,x5.q.2.1,()),x5.q.2.2.1,x5.q.2.2.2.1,()) fun x6=>
 B.s (.l .cer) (A.lst .cer [B.x .cer (x5.1,x5.2.1,x5.o.1,x5.2.2.1,x5.2.2.2.1,x5.q.1,x5.q.2.1,x6.1,x6.2.1,x6.o.1,x6.2.2.1,x6.2.2.2.1,x6.q.1,x6.q.2.1,())]) fun x7=>
 B.C (B.m (A.addN (B.y .cer x3.q.1) (B.y .cer x7.1)) (B.n 1073741824))<|
 B.s (.l .cer) (A.app .cer x3.q.1 x7.1) fun x8=>
 B.r (x6.q.2.2.1,x6.q.2.2.2.1,x8.1,()))<|
 B.r (x4.2.1,x4.2.2.1,x3.q.1,())) fun x5=>
 B.r (x5.2.2.1,x5.1,x5.2.1,())) (x.1,x2.1,x1.2.1,x1.2.2.1,x0.1,())
def XA (Xy:Pt A wN) (Xz:Ft A wN) (aO:Pt A dx) (aP:Ft A dx) (Dm:Pt A ow) (Dn:Ft A ow) (N8:Pt A wM) (N9:Ft A wM) (x:Tup A.ah [.i,.l .u8,.i]):Ot A Jf:=
 B.j N8 N9 (x.2.1,x.2.2.1,()) fun x0=>
 B.j Xy Xz (x.1,x0.q.2.2.1,x0.q.2.2.2.1,()) fun x1=>
 A.kZ [.l .u8,.i,.i,.i,.i,.i,.i,.i,.i,.i,.i,.i,.i,.i,.l .iop] (B.c x1.1 (B.j aO aP (B.n 6,x1.2.1,x1.2.2.1,()) fun x2=>
 B.b (B.e x2.1 B.z) fun x3=>
 A.kZ [.l .u8,.i,.i,.i,.i,.i,.i,.i,.i,.i,.i,.i,.i,.i,.l .iop] (B.c x3.1 (B.s (.l .i64) (A.lst .i64 [B.x .i64 (B.z,()),B.x .i64 (B.n 9,())]) fun x4=>
 B.j aO aP (B.n 2,x2.2.1,x2.2.2.1,()) fun x5=>
 B.w .i64 x4.1 x5.1<|
 B.w .i64 x4.1 x5.1<|
 B.i (B.f .i64 0 (B.o .i64 x4.1 x5.1)) fun x6=>
 B.L (x5.2.1,x5.2.2.1,B.z,B.z,B.z,B.z,B.z,B.z,x0.1,x6.1,x0.2.2.1,x0.2.2.2.1,x0.q.1,x0.q.2.1,x0.o.1,()))<|
 B.b (B.e x2.1 B.u) fun x4=>
 A.kZ [.l .u8,.i,.i,.i,.i,.i,.i,.i,.i,.i,.i,.i,.i,.i,.l .iop] (B.c x4.1 (B.s (.l .i64) (A.lst .i64 [B.x .i64 (B.n (-1),()),B.x .i64 (B.n 64,())]) fun x5=>
 B.j aO aP (B.n 2,x2.2.1,x2.2.2.1,()) fun x6=>
 B.w .i64 x5.1 x6.1<|
 B.w .i64 x5.1 x6.1<|
 B.i (B.f .i64 0 (B.o .i64 x5.1 x6.1)) fun x7=>
 B.L (x6.2.1,x6.2.2.1,B.z,B.z,B.z,B.z,B.z,B.z,x7.1,x0.2.1,x0.2.2.1,x0.2.2.2.1,x0.q.1,x0.q.2.1,x0.o.1,()))<|
 B.b (B.e x2.1 (B.n 2)) fun x5=>
 A.kZ [.l .u8,.i,.i,.i,.i,.i,.i,.i,.i,.i,.i,.i,.i,.i,.l .iop] (B.c x5.1 (B.I [.l .u8,.i,.i,.i,.i,.i,.i,.i,.i,.i,.i,.i,.i,.i,.l .iop] (fun x6=>
 B.c (B.m (B.y .iop x6.o.q.2.2.1) (B.n 48)) (B.s (.l .iop) (A.lst .iop [B.x .iop (B.u,B.z,B.z,B.z,B.z,())]) fun x7=>
 B.C (B.m (A.addN (B.y .iop x6.o.q.2.2.1) (B.y .iop x7.1)) (B.n 1073741824))<|
 B.s (.l .iop) (A.app .iop x6.o.q.2.2.1 x7.1) fun x8=>
 B.L (x6.1,x6.2.1,x6.2.2.1,x6.2.2.2.1,x6.q.1,x6.q.2.1,x6.q.2.2.1,x6.q.2.2.2.1,x6.o.1,x6.o.2.1,x6.o.2.2.1,x6.o.2.2.2.1,x6.o.q.1,x6.o.q.2.1,x8.1,()))<|
 B.R<|B.L (x6.1,x6.2.1,x6.2.2.1,x6.2.2.2.1,x6.q.1,x6.q.2.1,x6.q.2.2.1,x6.q.2.2.2.1,x6.o.1,x6.o.2.1,x6.o.2.2.1,x6.o.2.2.2.1,x6.o.q.1,x6.o.q.2.1,x6.o.q.2.2.1,())) (x2.2.1,x2.2.2.1,B.z,B.z,B.z,B.z,B.z,B.z,x0.1,x0.2.1,x0.2.2.1,x0.2.2.2.1,x0.q.1,x0.q.2.1,x0.o.1,()))<|
 B.b (B.e x2.1 (B.n 3)) fun x6=>
 A.kZ [.l .u8,.i,.i,.i,.i,.i,.i,.i,.i,.i,.i,.i,.i,.i,.l .iop] (B.c x6.1 (B.s (.l .i64) (A.lst .i64 [B.x .i64 (B.z,()),B.x .i64 (B.n 5,())]) fun x7=>
 B.j aO aP (B.n 2,x2.2.1,x2.2.2.1,()) fun x8=>
 B.w .i64 x7.1 x8.1<|
 B.w .i64 x7.1 x8.1<|
 B.i (B.f .i64 0 (B.o .i64 x7.1 x8.1)) fun x9=>
 B.L (x8.2.1,x8.2.2.1,B.z,B.z,B.z,B.z,B.z,B.z,x0.1,x0.2.1,x9.1,x0.2.2.2.1,x0.q.1,x0.q.2.1,x0.o.1,()))<|
 B.b (B.e x2.1 (B.n 4)) fun x7=>
 B.c x7.1 (B.j aO aP (B.n 3,x2.2.1,x2.2.2.1,()) fun x8=>
 B.w .i64 (A.lst .i64 [B.x .i64 (B.z,()),B.x .i64 (B.n 9,()),B.x .i64 (B.n 8,())]) x8.1<|
 B.C (B.m (A.addN (B.y .iop x0.o.1) (B.y .iop (A.lst .iop [B.x .iop (B.f .i64 0 (B.o .i64 (A.lst .i64 [B.x .i64 (B.z,()),B.x .i64 (B.n 9,()),B.x .i64 (B.n 8,())]) x8.1),B.y .iop x0.o.1,B.z,B.z,B.z,())]))) (B.n 1073741824))<|
 B.s (.l .iop) (A.app .iop x0.o.1 (A.lst .iop [B.x .iop (B.f .i64 0 (B.o .i64 (A.lst .i64 [B.x .i64 (B.z,()),B.x .i64 (B.n 9,()),B.x .i64 (B.n 8,())]) x8.1),B.y .iop x0.o.1,B.z,B.z,B.z,())])) fun x9=>
 B.L (x8.2.1,x8.2.2.1,B.z,B.z,B.z,B.z,B.z,B.z,x0.1,x0.2.1,x0.2.2.1,x0.2.2.2.1,x0.q.1,x0.q.2.1,x9.1,()))<|
 B.j Dm Dn (B.x .blk (x0.1,x0.2.1,x0.o.1,x0.2.2.1,x0.2.2.2.1,x0.q.1,x0.q.2.1,()),x2.2.1,x2.2.2.1,()) fun x8=>
 B.R<|B.R<|B.R<|B.R<|B.R<|B.r (B.x .blk (x8.1,x8.2.1,x8.o.1,x8.2.2.1,x8.2.2.2.1,x8.q.1,x8.q.2.1,()),x8.q.2.2.1,x8.q.2.2.2.1,())) fun x7=>
 B.L (x7.1,x7.2.1,x7.2.2.1,x7.2.2.2.1,x7.q.1,x7.q.2.1,x7.q.2.2.1,x7.q.2.2.2.1,x7.o.1,x7.o.2.1,x7.o.2.2.1,x7.o.2.2.2.1,x7.o.q.1,x7.o.q.2.1,x7.o.q.2.2.1,())) fun x6=>
 B.L (x6.1,x6.2.1,x6.2.2.1,x6.2.2.2.1,x6.q.1,x6.q.2.1,x6.q.2.2.1,x6.q.2.2.2.1,x6.o.1,x6.o.2.1,x6.o.2.2.1,x6.o.2.2.2.1,x6.o.q.1,x6.o.q.2.1,x6.o.q.2.2.1,())) fun x5=>
 B.L (x5.1,x5.2.1,x5.2.2.1,x5.2.2.2.1,x5.q.1,x5.q.2.1,x5.q.2.2.1,x5.q.2.2.2.1,x5.o.1,x5.o.2.1,x5.o.2.2.1,x5.o.2.2.2.1,x5.o.q.1,x5.o.q.2.1,x5.o.q.2.2.1,())) fun x4=>
 B.L (x4.1,x4.2.1,x4.2.2.1,x4.2.2.2.1,x4.q.1,x4.q.2.1,x4.q.2.2.1,x4.q.2.2.2.1,x4.o.1,x4.o.2.1,x4.o.2.2.1,x4.o.2.2.2.1,x4.o.q.1,x4.o.q.2.1,x4.o.q.2.2.1,()))<|
 B.L (x1.2.1,x1.2.2.1,B.z,B.z,B.z,B.z,B.z,B.z,x0.1,x0.2.1,x0.2.2.1,x0.2.2.2.1,x0.q.1,x0.q.2.1,x0.o.1,())) fun x2=>
 B.r (B.x .blk (x2.o.1,x2.o.2.1,x2.o.q.2.2.1,x2.o.2.2.1,x2.o.2.2.2.1,x2.o.q.1,x2.o.q.2.1,()),x2.1,x2.2.1,())
def XB (aO:Pt A dx) (aP:Ft A dx) (qm:Pt A jc) (qo:Ft A jc) (x:Tup A.ah [.x .blk,.l .u8,.i]):Ot A Jg:=
 B.j qm qo (x.1,()) fun x0=>
 B.i B.z fun x1=>
 B.I [.i,.l .u8,.i,.i,.i,.i,.i,.i,.i,.i,.i,.i,.i,.i,.i,.l .iop] (fun x2=>
 B.c (B.l x2.1 (B.y .iop x2.o.q.2.2.2.1)) (B.w .iop x2.o.q.2.2.2.1 x2.1<|
 B.w .iop x2.o.q.2.2.2.1 x2.1<|
 B.s (.x .iop) (B.o .iop x2.o.q.2.2.2.1 x2.1) fun x3=>
 A.bind [.i,.b,.l .u8,.i,.i,.i,.i,.i,.i,.i,.i,.i,.i,.i,.i,.i,.x .iop,.l .iop] (B.c (B.a (B.e (B.f .iop 0 x3.1) (B.n 3)) (B.d (B.f .iop 3 x3.1) (B.n 2)) B.F) (B.j aO aP (B.n 2,x2.2.1,x2.2.2.1,()) fun x4=>
 B.r (x2.1,B.a (B.a (B.e (B.f .iop 0 x3.1) (B.n 3)) (B.d (B.f .iop 3 x3.1) (B.n 2)) B.F) (B.e x4.1 B.z) B.F,x4.2.1,x4.2.2.1,x2.2.2.2.1,x2.q.1,x2.q.2.1,x2.q.2.2.1,x2.q.2.2.2.1,x2.o.1,x2.o.2.1,x2.o.2.2.1,x2.o.2.2.2.1,x2.o.q.1,x2.o.q.2.1,x2.o.q.2.2.1,x3.1,x2.o.q.2.2.2.1,()))<|
 B.C (B.N (B.a (B.e (B.f .iop 0 x3.1) (B.n 3)) (B.d (B.f .iop 3 x3.1) (B.n 2)) B.F))<|
 B.r (x2.1,B.F,x2.2.1,x2.2.2.1,x2.2.2.2.1,x2.q.1,x2.q.2.1,x2.q.2.2.1,x2.q.2.2.2.1,x2.o.1,x2.o.2.1,x2.o.2.2.1,x2.o.2.2.2.1,x2.o.q.1,x2.o.q.2.1,x2.o.q.2.2.1,x3.1,x2.o.q.2.2.2.1,())) fun x4=>
 A.bind [.i,.l .u8,.i,.i,.i,.i,.i,.i,.i,.i,.i,.i,.i,.i,.i,.x .iop,.l .iop] (B.c x4.2.1 (B.w .iop x4.o.o.2.1 x4.1<|
 B.w .iop x4.o.o.2.1 x4.1<|
 B.i (B.f .iop 2 x4.o.o.1) fun x5=>
 B.w .iop (A.set .iop x4.o.o.2.1 x4.1 (B.x .iop (B.f .iop 0 (B.o .iop x4.o.o.2.1 x4.1),x5.1,B.f .iop 2 (B.o .iop x4.o.o.2.1 x4.1),B.f .iop 3 (B.o .iop x4.o.o.2.1 x4.1),B.f .iop 4 (B.o .iop x4.o.o.2.1 x4.1),()))) x4.1<|
 B.w .iop (A.set .iop x4.o.o.2.1 x4.1 (B.x .iop (B.f .iop 0 (B.o .iop x4.o.o.2.1 x4.1),x5.1,B.f .iop 2 (B.o .iop x4.o.o.2.1 x4.1),B.f .iop 3 (B.o .iop x4.o.o.2.1 x4.1),B.f .iop 4 (B.o .iop x4.o.o.2.1 x4.1),()))) x4.1<|
 B.i (B.f .iop 1 x4.o.o.1) fun x6=>
 B.r (x4.1,x4.2.2.1,x4.2.2.2.1,x4.q.1,x4.q.2.1,x4.q.2.2.1,x4.q.2.2.2.1,x4.o.1,x4.o.2.1,x4.o.2.2.1,x4.o.2.2.2.1,x4.o.q.1,x4.o.q.2.1,x4.o.q.2.2.1,x4.o.q.2.2.2.1,x4.o.o.1,A.set .iop (A.set .iop x4.o.o.2.1 x4.1 (B.x .iop (B.f .iop 0 (B.o .iop x4.o.o.2.1 x4.1),x5.1,B.f .iop 2 (B.o .iop x4.o.o.2.1 x4.1),B.f .iop 3 (B.o .iop x4.o.o.2.1 x4.1),B.f .iop 4 (B.o .iop x4.o.o.2.1 x4.1),()))) x4.1 (B.x .iop (B.f .iop 0 (B.o .iop (A.set .iop x4.o.o.2.1 x4.1 (B.x .iop (B.f .iop 0 (B.o .iop x4.o.o.2.1 x4.1),x5.1,B.f .iop 2 (B.o .iop x4.o.o.2.1 x4.1),B.f .iop 3 (B.o .iop x4.o.o.2.1 x4.1),B.f .iop 4 (B.o .iop x4.o.o.2.1 x4.1),()))) x4.1),B.f .iop 1 (B.o .iop (A.set .iop x4.o.o.2.1 x4.1 (B.x .iop (B.f .iop 0 (B.o .iop x4.o.o.2.1 x4.1),x5.1,B.f .iop 2 (B.o .iop x4.o.o.2.1 x4.1),B.f .iop 3 (B.o .iop x4.o.o.2.1 x4.1),B.f .iop 4 (B.o .iop x4.o.o.2.1 x4.1),()))) x4.1),x6.1,B.f .iop 3 (B.o .iop (A.set .iop x4.o.o.2.1 x4.1 (B.x .iop (B.f .iop 0 (B.o .iop x4.o.o.2.1 x4.1),x5.1,B.f .iop 2 (B.o .iop x4.o.o.2.1 x4.1),B.f .iop 3 (B.o .iop x4.o.o.2.1 x4.1),B.f .iop 4 (B.o .iop x4.o.o.2.1 x4.1),()))) x4.1),B.f .iop 4 (B.o .iop (A.set .iop x4.o.o.2.1 x4.1 (B.x .iop (B.f .iop 0 (B.o .iop x4.o.o.2.1 x4.1),x5.1,B.f .iop 2 (B.o .iop x4.o.o.2.1 x4.1),B.f .iop 3 (B.o .iop x4.o.o.2.1 x4.1),B.f .iop 4 (B.o .iop x4.o.o.2.1 x4.1),()))) x4.1),())),()))<|
 B.r (x4.1,x4.2.2.1,x4.2.2.2.1,x4.q.1,x4.q.2.1,x4.q.2.2.1,x4.q.2.2.2.1,x4.o.1,x4.o.2.1,x4.o.2.2.1,x4.o.2.2.2.1,x4.o.q.1,x4.o.q.2.1,x4.o.q.2.2.1,x4.o.q.2.2.2.1,x4.o.o.1,x4.o.o.2.1,())) fun x5=>
 A.bind [.i,.l .u8,.i,.i,.i,.i,.i,.i,.i,.i,.i,.i,.i,.i,.i,.x .iop,.l .iop] (B.c (B.a (B.a (B.e (B.f .iop 0 x5.o.q.2.2.2.1) (B.n 3)) (B.e (B.f .iop 1 x5.o.q.2.2.2.1) (B.f .iop 2 x5.o.q.2.2.2.1)) B.F) (B.a (B.e (B.f .iop 3 x5.o.q.2.2.2.1) (B.n 2)) B.T (B.e (B.f .iop 3 x5.o.q.2.2.2.1) (B.n 5))) B.F) (B.w .iop x5.o.o.1 x5.1<|
 B.w .iop x5.o.o.1 x5.1<|
 B.r (x5.1,x5.2.1,x5.2.2.1,x5.2.2.2.1,x5.q.1,x5.q.2.1,x5.q.2.2.1,x5.q.2.2.2.1,x5.o.1,x5.o.2.1,x5.o.2.2.1,x5.o.2.2.2.1,x5.o.q.1,x5.o.q.2.1,x5.o.q.2.2.1,x5.o.q.2.2.2.1,A.set .iop x5.o.o.1 x5.1 (B.x .iop (B.u,B.z,B.z,B.z,B.z,())),()))<|
 B.r (x5.1,x5.2.1,x5.2.2.1,x5.2.2.2.1,x5.q.1,x5.q.2.1,x5.q.2.2.1,x5.q.2.2.2.1,x5.o.1,x5.o.2.1,x5.o.2.2.1,x5.o.2.2.2.1,x5.o.q.1,x5.o.q.2.1,x5.o.q.2.2.1,x5.o.q.2.2.2.1,x5.o.o.1,())) fun x6=>
 B.C (B.O (B.N (B.a (B.e (B.f .iop 0 x6.o.q.2.2.2.1) (B.n 3)) (B.e (B.f .iop 3 x6.o.q.2.2.2.1) (B.n 3)) B.F)) (B.m B.z (B.f .iop 2 x6.o.q.2.2.2.1)))<|
 B.C (B.O (B.N (B.a (B.e (B.f .iop 0 x6.o.q.2.2.2.1) (B.n 3)) (B.e (B.f .iop 3 x6.o.q.2.2.2.1) (B.n 3)) B.F)) (B.l (B.f .iop 2 x6.o.q.2.2.2.1) (B.y .iop x6.o.o.1)))<|
 B.C (B.O (B.N (B.a (B.e (B.f .iop 0 x6.o.q.2.2.2.1) (B.n 3)) (B.e (B.f .iop 3 x6.o.q.2.2.2.1) (B.n 3)) B.F)) (B.m B.z (B.f .iop 2 x6.o.q.2.2.2.1)))<|
 B.C (B.O (B.N (B.a (B.e (B.f .iop 0 x6.o.q.2.2.2.1) (B.n 3)) (B.e (B.f .iop 3 x6.o.q.2.2.2.1) (B.n 3)) B.F)) (B.l (B.f .iop 2 x6.o.q.2.2.2.1) (B.y .iop x6.o.o.1)))<|
 B.C (B.O (B.N (B.a (B.a (B.e (B.f .iop 0 x6.o.q.2.2.2.1) (B.n 3)) (B.e (B.f .iop 3 x6.o.q.2.2.2.1) (B.n 3)) B.F) (B.e (B.f .iop 0 (B.o .iop x6.o.o.1 (B.f .iop 2 x6.o.q.2.2.2.1))) B.u) B.F)) (B.m B.z (B.f .iop 2 x6.o.q.2.2.2.1)))<|
 B.C (B.O (B.N (B.a (B.a (B.e (B.f .iop 0 x6.o.q.2.2.2.1) (B.n 3)) (B.e (B.f .iop 3 x6.o.q.2.2.2.1) (B.n 3)) B.F) (B.e (B.f .iop 0 (B.o .iop x6.o.o.1 (B.f .iop 2 x6.o.q.2.2.2.1))) B.u) B.F)) (B.l (B.f .iop 2 x6.o.q.2.2.2.1) (B.y .iop x6.o.o.1)))<|
 B.C (B.O (B.N (B.a (B.a (B.e (B.f .iop 0 x6.o.q.2.2.2.1) (B.n 3)) (B.e (B.f .iop 3 x6.o.q.2.2.2.1) (B.n 3)) B.F) (B.e (B.f .iop 0 (B.o .iop x6.o.o.1 (B.f .iop 2 x6.o.q.2.2.2.1))) B.u) B.F)) (B.m B.z (B.f .iop 2 x6.o.q.2.2.2.1)))<|
 B.C (B.O (B.N (B.a (B.a (B.e (B.f .iop 0 x6.o.q.2.2.2.1) (B.n 3)) (B.e (B.f .iop 3 x6.o.q.2.2.2.1) (B.n 3)) B.F) (B.e (B.f .iop 0 (B.o .iop x6.o.o.1 (B.f .iop 2 x6.o.q.2.2.2.1))) B.u) B.F)) (B.l (B.f .iop 2 x6.o.q.2.2.2.1) (B.y .iop x6.o.o.1)))<|
 A.bind [.i,.l .u8,.i,.i,.i,.i,.i,.i,.i,.i,.i,.i,.i,.i,.i,.l .iop] (B.c (B.a (B.a (B.a (B.e (B.f .iop 0 x6.o.q.2.2.2.1) (B.n 3)) (B.e (B.f .iop 3 x6.o.q.2.2.2.1) (B.n 3)) B.F) (B.e (B.f .iop 0 (B.o .iop x6.o.o.1 (B.f .iop 2 x6.o.q.2.2.2.1))) B.u) B.F) (B.e (B.f .iop 3 (B.o .iop x6.o.o.1 (B.f .iop 2 x6.o.q.2.2.2.1))) (B.n 2)) B.F) (B.w .iop x6.o.o.1 x6.1<|
 B.w .iop x6.o.o.1 x6.1<|
 B.r (x6.1,x6.2.1,x6.2.2.1,x6.2.2.2.1,x6.q.1,x6.q.2.1,x6.q.2.2.1,x6.q.2.2.2.1,x6.o.1,x6.o.2.1,x6.o.2.2.1,x6.o.2.2.2.1,x6.o.q.1,x6.o.q.2.1,x6.o.q.2.2.1,A.set .iop x6.o.o.1 x6.1 (B.x .iop (B.n 3,B.f .iop 1 x6.o.q.2.2.2.1,B.f .iop 1 x6.o.q.2.2.2.1,B.u,B.z,())),()))<|
 B.r (x6.1,x6.2.1,x6.2.2.1,x6.2.2.2.1,x6.q.1,x6.q.2.1,x6.q.2.2.1,x6.q.2.2.2.1,x6.o.1,x6.o.2.1,x6.o.2.2.1,x6.o.2.2.2.1,x6.o.q.1,x6.o.q.2.1,x6.o.q.2.2.1,x6.o.o.1,())) fun x7=>
 B.i (B.p x7.1 B.u) fun x8=>
 B.L (x8.1,x7.2.1,x7.2.2.1,x7.2.2.2.1,x7.q.1,x7.q.2.1,x7.q.2.2.1,x7.q.2.2.2.1,x7.o.1,x7.o.2.1,x7.o.2.2.1,x7.o.2.2.2.1,x7.o.q.1,x7.o.q.2.1,x7.o.q.2.2.1,x7.o.q.2.2.2.1,()))<|
 B.R<|B.r (x2.o.2.1,x2.o.2.2.1,x2.o.2.2.2.1,x2.o.q.1,x2.o.q.2.1,x2.o.q.2.2.1,x2.2.1,x2.2.2.1,x2.o.q.2.2.2.1,())) (x1.1,x.2.1,x.2.2.1,B.z,B.z,B.z,B.z,B.z,B.z,x0.1,x0.2.1,x0.2.2.1,x0.2.2.2.1,x0.q.1,x0.q.2.1,x0.q.2.2.1,())
def XC (jB:Pt A fE) (jC:Ft A fE) (wQ:Pt A ou) (wR:Ft A ou) (JA:Pt A oq) (JB:Ft A oq) (aO:Pt A dx) (aP:Ft A dx) (Dm:Pt A ow) (Dn:Ft A ow) (aeC:Pt A Jf) (aeD:Ft A Jf) (aeE:Pt A Jg) (aeF:Ft A Jg) (x:Tup A.ah [.i,.l .u8,.i]):Ot A Jh:=
 B.j aeC aeD (x.1,x.2.1,x.2.2.1,()) fun x0=>
 B.s (.x .blk) x0.1 fun x1=>
 B.j jB jC (x1.1,()) fun x2=>
 B.c (B.N x2.1) (B.s (.x .blk) x1.1 fun x3=>
 B.s (.x .blk) x1.1 fun x4=>
 B.r (x3.1,x4.1,x0.2.1,x0.2.2.1,()))<|
 B.j aO aP (B.n 9,x0.2.1,x0.2.2.1,()) fun x3=>
 B.b (B.e x3.1 B.z) fun x4=>
 B.c x4.1 (B.j aeE aeF (x1.1,x3.2.1,x3.2.2.1,()) fun x5=>
 B.s (.x .blk) x1.1 fun x6=>
 B.r (x6.1,B.x .blk (x5.1,x5.2.1,x5.o.1,x5.2.2.1,x5.2.2.2.1,x5.q.1,x5.q.2.1,()),x5.q.2.2.1,x5.q.2.2.2.1,()))<|
 B.b (B.e x3.1 B.u) fun x5=>
 B.c x5.1 (B.j wQ wR (x1.1,()) fun x6=>
 B.s (.x .blk) x1.1 fun x7=>
 B.r (x7.1,B.x .blk (x6.1,x6.2.1,x6.q.2.2.1,x6.2.2.1,x6.2.2.2.1,x6.q.1,x6.q.2.1,()),x3.2.1,x3.2.2.1,()))<|
 B.b (B.e x3.1 (B.n 2)) fun x6=>
 B.c x6.1 (B.j aeE aeF (x1.1,x3.2.1,x3.2.2.1,()) fun x7=>
 B.j wQ wR (B.x .blk (x7.1,x7.2.1,x7.o.1,x7.2.2.1,x7.2.2.2.1,x7.q.1,x7.q.2.1,()),()) fun x8=>
 B.s (.x .blk) x1.1 fun x9=>
 B.r (x9.1,B.x .blk (x8.1,x8.2.1,x8.q.2.2.1,x8.2.2.1,x8.2.2.2.1,x8.q.1,x8.q.2.1,()),x7.q.2.2.1,x7.q.2.2.2.1,()))<|
 B.b (B.e x3.1 (B.n 3)) fun x7=>
 B.c x7.1 (B.j Dm Dn (x1.1,x3.2.1,x3.2.2.1,()) fun x8=>
 B.s (.x .blk) x1.1 fun x9=>
 B.r (x9.1,B.x .blk (x8.1,x8.2.1,x8.o.1,x8.2.2.1,x8.2.2.2.1,x8.q.1,x8.q.2.1,()),x8.q.2.2.1,x8.q.2.2.2.1,()))<|
 B.b (B.e x3.1 (B.n 4)) fun x8=>
 B.c x8.1 (B.j wQ wR (x1.1,()) fun x9=>
 B.j Dm Dn (B.x .blk (x9.1,x9.2.1,x9.q.2.2.1,x9.2.2.1,x9.2.2.2.1,x9.q.1,x9.q.2.1,()),x3.2.1,x3.2.2.1,()) fun x10=>
 B.s (.x .blk) x1.1 fun x11=>
 B.r (x11.1,B.x .blk (x10.1,x10.2.1,x10.o.1,x10.2.2.1,x10.2.2.2.1,x10.q.1,x10.q.2.1,()),x10.q.2.2.1,x10.q.2.2.2.1,()))<|
 B.b (B.e x3.1 (B.n 5)) fun x9=>
 B.c x9.1 (B.j wQ wR (x1.1,()) fun x10=>
 B.s (.x .blk) x1.1 fun x11=>
 B.r (B.x .blk (x10.1,x10.2.1,x10.q.2.2.1,x10.2.2.1,x10.2.2.2.1,x10.q.1,x10.q.2.1,()),x11.1,x3.2.1,x3.2.2.1,()))<|
 B.b (B.e x3.1 (B.n 6)) fun x10=>
 B.c x10.1 (B.j aeC aeD (x.1,x3.2.1,x3.2.2.1,()) fun x11=>
 B.s (.x .blk) x1.1 fun x12=>
 B.s (.x .blk) x11.1 fun x13=>
 B.r (x12.1,x13.1,x11.2.1,x11.2.2.1,()))<|
 B.b (B.e x3.1 (B.n 7)) fun x11=>
 B.c x11.1 (B.j JA JB (x1.1,()) fun x12=>
 B.s (.x .blk) x1.1 fun x13=>
 B.r (x13.1,B.x .blk (x12.1,x12.2.1,x12.q.2.2.1,x12.2.2.1,x12.2.2.2.1,x12.q.1,x12.q.2.1,()),x3.2.1,x3.2.2.1,()))<|
 B.s (.x .blk) x1.1 fun x12=>
 B.s (.x .blk) x1.1 fun x13=>
 B.r (x12.1,x13.1,x3.2.1,x3.2.2.1,())
def XD (amg:Pt A IL) (amh:Ft A IL) (ami:Pt A Jh) (amj:Ft A Jh) (amk:Pt A Je) (aml:Ft A Je) (x:Tup A.ah [.l .u8]):Ot A Ji:=
 B.j amg amh (x.1,()) fun x0=>
 B.j amk aml (B.n 9,x0.1,x0.2.1,()) fun x1=>
 B.s (.l .cer) x1.1 fun x2=>
 B.j ami amj (B.n 9,x1.2.1,x1.2.2.1,()) fun x3=>
 B.s (.x .blk) x3.1 fun x4=>
 B.s (.x .blk) x3.2.1 fun x5=>
 B.s (.l .cer) x2.1 fun x6=>
 B.r (x6.1,B.f .blk 0 x4.1,B.f .blk 1 x4.1,B.D .blk 2 .iop x4.1,B.f .blk 3 x4.1,B.f .blk 4 x4.1,B.f .blk 5 x4.1,B.f .blk 6 x4.1,B.f .blk 0 x5.1,B.f .blk 1 x5.1,B.D .blk 2 .iop x5.1,B.f .blk 3 x5.1,B.f .blk 4 x5.1,B.f .blk 5 x5.1,B.f .blk 6 x5.1,())
def aeG (x:Tup A.ah [.x .blk]):Ot A RA:=
 B.C (B.m (B.y .iop (B.D .blk 2 .iop x.1)) (B.n 1073741824))<|
 B.s (.l .iop) (B.D .blk 2 .iop x.1) fun x0=>
 B.r (B.f .blk 0 x.1,B.f .blk 1 x.1,B.f .blk 3 x.1,B.f .blk 4 x.1,B.f .blk 5 x.1,B.f .blk 6 x.1,x0.1,())
def amm (aiC:Pt A RA) (aiD:Ft A RA) (x:Tup A.ah [.x .cer]):Ot A acA:=
 B.j aiC aiD (B.x .blk (B.f .cer 0 x.1,B.f .cer 1 x.1,B.D .cer 2 .iop x.1,B.f .cer 3 x.1,B.f .cer 4 x.1,B.f .cer 5 x.1,B.f .cer 6 x.1,()),()) fun x0=>
 B.j aiC aiD (B.x .blk (B.f .cer 7 x.1,B.f .cer 8 x.1,B.D .cer 9 .iop x.1,B.f .cer 10 x.1,B.f .cer 11 x.1,B.f .cer 12 x.1,B.f .cer 13 x.1,()),()) fun x1=>
 B.r (x0.1,x0.2.1,x0.2.2.1,x0.2.2.2.1,x0.q.1,x0.q.2.1,x1.1,x1.2.1,x1.2.2.1,x1.2.2.2.1,x1.q.1,x1.q.2.1,x0.q.2.2.1,x1.q.2.2.1,())
def aeH (azy:Pt A acA) (azz:Ft A acA) (x:Tup A.ah [.l .cer]):Ot A RD:=
 B.I [.l .cer,.i,.i,.l .cer] (fun x0=>
 B.c (B.l x0.2.2.1 x0.2.1) (B.w .cer x0.1 x0.2.2.1<|
 B.s (.x .cer) (B.o .cer x0.1 x0.2.2.1) fun x1=>
 B.j azy azz (x1.1,()) fun x2=>
 B.s (.l .cer) (A.lst .cer [B.x .cer (x2.1,x2.2.1,x2.o.q.1,x2.2.2.1,x2.2.2.2.1,x2.q.1,x2.q.2.1,x2.q.2.2.1,x2.q.2.2.2.1,x2.o.q.2.1,x2.o.1,x2.o.2.1,x2.o.2.2.1,x2.o.2.2.2.1,())]) fun x3=>
 B.C (B.m (A.addN (B.y .cer x0.2.2.2.1) (B.y .cer x3.1)) (B.n 1073741824))<|
 B.s (.l .cer) (A.app .cer x0.2.2.2.1 x3.1) fun x4=>
 B.L (x0.1,x0.2.1,B.p x0.2.2.1 B.u,x4.1,()))<|
 B.R<|B.r (x0.2.2.2.1,())) (x.1,B.y .cer x.1,B.z,A.aN .cer,())
def aeI (x:Tup A.ah [.l .cer,.i]):Ot A RF:=
 B.C (B.m B.z (A.kD B.z (B.q (B.y .cer x.1) x.2.1)))<|
 B.C (B.m (A.kD B.z (B.q (B.y .cer x.1) x.2.1)) (B.y .cer x.1))<|
 B.C (B.m (B.y .cer x.1) (B.y .cer x.1))<|
 B.s (.l .cer) (A.sub .cer x.1 (A.kD B.z (B.q (B.y .cer x.1) x.2.1)) (B.y .cer x.1)) fun x0=>
 B.r (x0.1,())
def amn (aiE:Pt A RD) (aiF:Ft A RD) (auU:Pt A RF) (auV:Ft A RF) (x:Tup A.ah [.l .cer,.x .cer]):Ot A acB:=
 B.j aiE aiF (x.1,()) fun x0=>
 B.C (B.m (A.addN (B.y .cer x0.1) (B.y .cer (A.lst .cer [x.2.1]))) (B.n 1073741824))<|
 B.s (.l .cer) (A.app .cer x0.1 (A.lst .cer [x.2.1])) fun x1=>
 B.j auU auV (x1.1,B.n 3,()) fun x2=>
 B.j aiE aiF (x2.1,()) fun x3=>
 B.r (x3.1,())
def aeJ (x:Tup A.ah [.x .blk,.x .blk]):Ot A RG:=
 B.b B.F fun x0=>
 B.c (B.a (B.a (B.a (B.a (B.a (B.a (B.d (B.f .blk 0 x.1) (B.f .blk 0 x.2.1)) B.T (B.d (B.f .blk 1 x.1) (B.f .blk 1 x.2.1))) B.T (B.d (B.f .blk 3 x.1) (B.f .blk 3 x.2.1))) B.T (B.d (B.f .blk 4 x.1) (B.f .blk 4 x.2.1))) B.T (B.d (B.f .blk 5 x.1) (B.f .blk 5 x.2.1))) B.T (B.d (B.f .blk 6 x.1) (B.f .blk 6 x.2.1))) B.T (B.d (B.y .iop (B.D .blk 2 .iop x.1)) (B.y .iop (B.D .blk 2 .iop x.2.1)))) (B.v B.F)<|
 B.i B.z fun x1=>
 B.I [.i,.x .blk,.x .blk] (fun x2=>
 B.c (B.l x2.1 (B.y .iop (B.D .blk 2 .iop x2.2.1))) (B.w .iop (B.D .blk 2 .iop x2.2.1) x2.1<|
 B.w .iop (B.D .blk 2 .iop x2.2.2.1) x2.1<|
 B.c (B.N (A.eqX .iop (B.o .iop (B.D .blk 2 .iop x2.2.1) x2.1) (B.o .iop (B.D .blk 2 .iop x2.2.2.1) x2.1))) (B.b B.F fun x3=>
 B.R<|B.r (x3.1,()))<|
 B.i (B.p x2.1 B.u) fun x3=>
 B.L (x3.1,x2.2.1,x2.2.2.1,()))<|
 B.R<|B.v B.T) (x1.1,x.1,x.2.1,())
def aeK (aiG:Pt A RG) (aiH:Ft A RG) (x:Tup A.ah [.l .cer,.l .cer]):Ot A RH:=
 B.b B.F fun x0=>
 B.c (B.d (B.y .cer x.1) (B.y .cer x.2.1)) (B.v B.F)<|
 B.i B.z fun x1=>
 B.I [.l .cer,.l .cer,.i] (fun x2=>
 B.c (B.l x2.2.2.1 (B.y .cer x2.1)) (B.w .cer x2.1 x2.2.2.1<|
 B.w .cer x2.2.1 x2.2.2.1<|
 B.j aiG aiH (B.x .blk (B.f .cer 0 (B.o .cer x2.1 x2.2.2.1),B.f .cer 1 (B.o .cer x2.1 x2.2.2.1),B.D .cer 2 .iop (B.o .cer x2.1 x2.2.2.1),B.f .cer 3 (B.o .cer x2.1 x2.2.2.1),B.f .cer 4 (B.o .cer x2.1 x2.2.2.1),B.f .cer 5 (B.o .cer x2.1 x2.2.2.1),B.f .cer 6 (B.o .cer x2.1 x2.2.2.1),()),B.x .blk (B.f .cer 0 (B.o .cer x2.2.1 x2.2.2.1),B.f .cer 1 (B.o .cer x2.2.1 x2.2.2.1),B.D .cer 2 .iop (B.o .cer x2.2.1 x2.2.2.1),B.f .cer 3 (B.o .cer x2.2.1 x2.2.2.1),B.f .cer 4 (B.o .cer x2.2.1 x2.2.2.1),B.f .cer 5 (B.o .cer x2.2.1 x2.2.2.1),B.f .cer 6 (B.o .cer x2.2.1 x2.2.2.1),()),()) fun x3=>
 B.C (B.O (B.N (B.N (B.N x3.1))) (B.m B.z x2.2.2.1))<|
 B.C (B.O (B.N (B.N (B.N x3.1))) (B.l x2.2.2.1 (B.y .cer x2.1)))<|
 B.C (B.O (B.N (B.N (B.N x3.1))) (B.m B.z x2.2.2.1))<|
 B.C (B.O (B.N (B.N (B.N x3.1))) (B.l x2.2.2.1 (B.y .cer x2.2.1)))<|
 B.k (B.N (B.N x3.1)) aiG aiH (B.x .blk (B.f .cer 7 (B.o .cer x2.1 x2.2.2.1),B.f .cer 8 (B.o .cer x2.1 x2.2.2.1),B.D .cer 9 .iop (B.o .cer x2.1 x2.2.2.1),B.f .cer 10 (B.o .cer x2.1 x2.2.2.1),B.f .cer 11 (B.o .cer x2.1 x2.2.2.1),B.f .cer 12 (B.o .cer x2.1 x2.2.2.1),B.f .cer 13 (B.o .cer x2.1 x2.2.2.1),()),B.x .blk (B.f .cer 7 (B.o .cer x2.2.1 x2.2.2.1),B.f .cer 8 (B.o .cer x2.2.1 x2.2.2.1),B.D .cer 9 .iop (B.o .cer x2.2.1 x2.2.2.1),B.f .cer 10 (B.o .cer x2.2.1 x2.2.2.1),B.f .cer 11 (B.o .cer x2.2.1 x2.2.2.1),B.f .cer 12 (B.o .cer x2.2.1 x2.2.2.1),B.f .cer 13 (B.o .cer x2.2.1 x2.2.2.1),()),()) fun x4=>
 B.c (B.a (B.N x3.1) B.T (B.N x4.1)) (B.b B.F fun x5=>
 B.R<|B.r (x5.1,()))<|
 B.i (B.p x2.2.2.1 B.u) fun x5=>
 B.L (x2.1,x2.2.1,x5.1,()))<|
 B.R<|B.v B.T) (x.1,x.2.1,x1.1,())
def XE (qm:Pt A jc) (qo:Ft A jc) (x:Tup A.ah [.x .cer]):Ot A Jj:=
 B.j qm qo (B.x .blk (B.f .cer 0 x.1,B.f .cer 1 x.1,B.D .cer 2 .iop x.1,B.f .cer 3 x.1,B.f .cer 4 x.1,B.f .cer 5 x.1,B.f .cer 6 x.1,()),()) fun x0=>
 B.j qm qo (B.x .blk (B.f .cer 7 x.1,B.f .cer 8 x.1,B.D .cer 9 .iop x.1,B.f .cer 10 x.1,B.f .cer 11 x.1,B.f .cer 12 x.1,B.f .cer 13 x.1,()),()) fun x1=>
 B.r (x0.1,x0.2.1,x0.2.2.1,x0.2.2.2.1,x0.q.1,x0.q.2.1,x1.1,x1.2.1,x1.2.2.1,x1.2.2.2.1,x1.q.1,x1.q.2.1,x0.q.2.2.1,x1.q.2.2.1,())
def XF (aeL:Pt A Jj) (aeM:Ft A Jj) (x:Tup A.ah [.l .cer,.x .cer]):Ot A Jk:=
 B.s (.l .cer) (A.lst .cer []) fun x0=>
 B.i B.z fun x1=>
 B.I [.l .cer,.i,.x .cer,.l .cer] (fun x2=>
 B.c (B.l x2.2.1 (B.y .cer x2.1)) (B.w .cer x2.1 x2.2.1<|
 B.j aeL aeM (B.o .cer x2.1 x2.2.1,()) fun x3=>
 B.s (.l .cer) (A.lst .cer [B.x .cer (x3.1,x3.2.1,x3.o.q.1,x3.2.2.1,x3.2.2.2.1,x3.q.1,x3.q.2.1,x3.q.2.2.1,x3.q.2.2.2.1,x3.o.q.2.1,x3.o.1,x3.o.2.1,x3.o.2.2.1,x3.o.2.2.2.1,())]) fun x4=>
 B.C (B.m (A.addN (B.y .cer x2.2.2.2.1) (B.y .cer x4.1)) (B.n 1073741824))<|
 B.s (.l .cer) (A.app .cer x2.2.2.2.1 x4.1) fun x5=>
 B.i (B.p x2.2.1 B.u) fun x6=>
 B.L (x2.1,x6.1,x2.2.2.1,x5.1,()))<|
 B.R<|B.j aeL aeM (x2.2.2.1,()) fun x3=>
 B.s (.l .cer) (A.lst .cer [B.x .cer (x3.1,x3.2.1,x3.o.q.1,x3.2.2.1,x3.2.2.2.1,x3.q.1,x3.q.2.1,x3.q.2.2.1,x3.q.2.2.2.1,x3.o.q.2.1,x3.o.1,x3.o.2.1,x3.o.2.2.1,x3.o.2.2.2.1,())]) fun x4=>
 B.C (B.m (A.addN (B.y .cer x2.2.2.2.1) (B.y .cer x4.1)) (B.n 1073741824))<|
 B.s (.l .cer) (A.app .cer x2.2.2.2.1 x4.1) fun x5=>
 B.c (B.g (B.y .cer x5.1) (B.n 3)) (B.C (B.m B.z (B.q (B.y .cer x5.1) (B.n 3)))<|
 B.C (B.m (B.q (B.y .cer x5.1) (B.n 3)) (B.y .cer x5.1))<|
 B.C (B.m (B.y .cer x5.1) (B.y .cer x5.1))<|
 B.C (B.m B.z (B.q (B.y .cer x5.1) (B.n 3)))<|
 B.C (B.m B.z (A.Au (B.y .cer x5.1) (B.q (B.y .cer x5.1) (B.n 3))))<|
 B.C (B.m (A.addN (B.q (B.y .cer x5.1) (B.n 3)) (A.Au (B.y .cer x5.1) (B.q (B.y .cer x5.1) (B.n 3)))) (B.y .cer x5.1))<|
 B.r (A.sub .cer x5.1 (B.q (B.y .cer x5.1) (B.n 3)) (A.addN (B.q (B.y .cer x5.1) (B.n 3)) (A.Au (B.y .cer x5.1) (B.q (B.y .cer x5.1) (B.n 3)))),()))<|
 B.r (x5.1,())) (x.1,x1.1,x.2.1,x0.1,())
def amo (auW:Pt A Ry) (auX:Ft A Ry) (x:Tup A.ah [.l .cer,.x .blk,.x .blk]):Ot A acC:=
 B.b B.F fun x0=>
 B.j auW auX (x.1,x.2.1,x.2.2.1,()) fun x1=>
 B.v x1.1
def aeN (azA:Pt A acC) (azB:Ft A acC) (auY:Pt A acz) (auZ:Ft A acz) (azC:Pt A acB) (azD:Ft A acB) (aeu:Pt A EG) (aev:Ft A EG) (au0:Pt A RH) (au1:Ft A RH) (amq:Pt A II) (amr:Ft A II) (ams:Pt A Jk) (amt:Ft A Jk) (amu:Pt A Ji) (amv:Ft A Ji) (x:Tup A.ah [.l .u8]):Ot A aiv:=
 B.b B.F fun x0=>
 B.c (B.g (B.y .u8 x.1) (B.n 1048576)) (B.v B.T)<|
 B.j amu amv (x.1,()) fun x1=>
 B.s (.l .cer) x1.1 fun x2=>
 B.j azC azD (x2.1,B.x .cer (x1.2.1,x1.2.2.1,x1.2.2.2.1,x1.q.1,x1.q.2.1,x1.q.2.2.1,x1.q.2.2.2.1,x1.o.1,x1.o.2.1,x1.o.2.2.1,x1.o.2.2.2.1,x1.o.q.1,x1.o.q.2.1,x1.o.q.2.2.1,()),()) fun x3=>
 B.j ams amt (x2.1,B.x .cer (x1.2.1,x1.2.2.1,x1.2.2.2.1,x1.q.1,x1.q.2.1,x1.q.2.2.1,x1.q.2.2.2.1,x1.o.1,x1.o.2.1,x1.o.2.2.1,x1.o.2.2.2.1,x1.o.q.1,x1.o.q.2.1,x1.o.q.2.2.1,()),()) fun x4=>
 B.j au0 au1 (x3.1,x4.1,()) fun x5=>
 B.k (B.N (B.a (B.a (B.N x5.1) B.T (B.e (B.y .cer x3.1) B.z)) B.T (B.g (B.y .cer x3.1) (B.n 3)))) azA azB (x3.1,B.x .blk (x1.2.1,x1.2.2.1,x1.2.2.2.1,x1.q.1,x1.q.2.1,x1.q.2.2.1,x1.q.2.2.2.1,()),B.x .blk (x1.o.1,x1.o.2.1,x1.o.2.2.1,x1.o.2.2.2.1,x1.o.q.1,x1.o.q.2.1,x1.o.q.2.2.1,()),()) fun x6=>
 B.c (B.a (B.a (B.a (B.N x5.1) B.T (B.e (B.y .cer x3.1) B.z)) B.T (B.g (B.y .cer x3.1) (B.n 3))) B.T (B.N x6.1)) (B.v B.F)<|
 B.j auY auZ (x2.1,()) fun x7=>
 B.b x7.1 fun x8=>
 B.j amq amr (x2.1,()) fun x9=>
 B.c (B.N (A.eqB x8.1 x9.1)) (B.v B.F)<|
 B.k (B.N (B.N x8.1)) auY auZ (x3.1,()) fun x10=>
 B.k (B.N (B.N x8.1)) aeu aev (B.x .blk (x1.2.1,x1.2.2.1,x1.2.2.2.1,x1.q.1,x1.q.2.1,x1.q.2.2.1,x1.q.2.2.2.1,()),B.x .blk (x1.o.1,x1.o.2.1,x1.o.2.2.1,x1.o.2.2.2.1,x1.o.q.1,x1.o.q.2.1,x1.o.q.2.2.1,()),()) fun x11=>
 B.v (B.a (B.N x8.1) B.T (A.eqB x10.1 x11.1))
end Go.TX.F
namespace Go.TX.Seat
open Go Go.AE Go.TX Go.Proofs
set_option maxRecDepth 100000
def ty:TypeId→Option TY
 | 2=>some ⟨(.int .i64),1,8,[.d true (.int .i64 0)]⟩
 | 3=>some ⟨(.int .i64),1,8,[.d true (.int .i64 0)]⟩
 | 4=>some ⟨.bool,1,1,[.d true (.bool false)]⟩
 | 5=>some ⟨(.int .u8),1,1,[.d true (.int .u8 0)]⟩
 | 6=>some ⟨(.int .u8),1,1,[.d true (.int .u8 0)]⟩
 | 7=>some ⟨(.struct [(0,2),(1,3),(2,4),(3,6)]),4,24,[.d true (.int .i64 0),.d true (.int .i64 0),.d true (.bool false),.d true (.int .u8 0)]⟩
 | 8=>some ⟨(.struct [(0,2),(1,3),(2,4),(3,6)]),4,24,[.d true (.int .i64 0),.d true (.int .i64 0),.d true (.bool false),.d true (.int .u8 0)]⟩
 | 9=>some ⟨.str,1,16,[.d true (.str ⟨#[]⟩)]⟩
 | 10=>some ⟨.str,1,16,[.d true (.str ⟨#[]⟩)]⟩
 | 11=>some ⟨.str,1,16,[.d true (.str ⟨#[]⟩)]⟩
 | 12=>some ⟨(.int .u64),1,8,[.d true (.int .u64 0)]⟩
 | 13=>some ⟨(.struct [(0,9),(1,12)]),2,24,[.d true (.str ⟨#[]⟩),.d true (.int .u64 0)]⟩
 | 14=>some ⟨(.struct [(0,9),(1,12)]),2,24,[.d true (.str ⟨#[]⟩),.d true (.int .u64 0)]⟩
 | 15=>some ⟨.scalar,1,8,[.np]⟩
 | 16=>some ⟨.scalar,1,8,[.np]⟩
 | 17=>some ⟨.scalar,1,8,[.np]⟩
 | 18=>some ⟨(.struct [(0,17)]),1,8,[.np]⟩
 | 19=>some ⟨(.struct [(0,17)]),1,8,[.np]⟩
 | 21=>some ⟨(.int .i32),1,4,[.d true (.int .i32 0)]⟩
 | 22=>some ⟨(.slice 107),1,24,[.nil]⟩
 | 23=>some ⟨(.struct [(0,3),(1,3),(2,22),(3,3),(4,3),(5,3),(6,3)]),7,72,[.d true (.int .i64 0),.d true (.int .i64 0),.nil,.d true (.int .i64 0),.d true (.int .i64 0),.d true (.int .i64 0),.d true (.int .i64 0)]⟩
 | 24=>some ⟨(.struct [(0,3),(1,3),(2,22),(3,3),(4,3),(5,3),(6,3)]),7,72,[.d true (.int .i64 0),.d true (.int .i64 0),.nil,.d true (.int .i64 0),.d true (.int .i64 0),.d true (.int .i64 0),.d true (.int .i64 0)]⟩
 | 27=>some ⟨(.slice 84),1,24,[.nil]⟩
 | 28=>some ⟨(.struct [(0,3),(1,3),(2,27),(3,3),(4,3),(5,3),(6,3)]),7,72,[.d true (.int .i64 0),.d true (.int .i64 0),.nil,.d true (.int .i64 0),.d true (.int .i64 0),.d true (.int .i64 0),.d true (.int .i64 0)]⟩
 | 29=>some ⟨(.struct [(0,3),(1,3),(2,27),(3,3),(4,3),(5,3),(6,3)]),7,72,[.d true (.int .i64 0),.d true (.int .i64 0),.nil,.d true (.int .i64 0),.d true (.int .i64 0),.d true (.int .i64 0),.d true (.int .i64 0)]⟩
 | 32=>some ⟨(.slice 68),1,24,[.nil]⟩
 | 35=>some ⟨(.slice 41),1,24,[.nil]⟩
 | 39=>some ⟨(.slice 5),1,24,[.nil]⟩
 | 40=>some ⟨(.struct [(0,29),(7,29)]),14,144,[.d true (.int .i64 0),.d true (.int .i64 0),.nil,.d true (.int .i64 0),.d true (.int .i64 0),.d true (.int .i64 0),.d true (.int .i64 0),.d true (.int .i64 0),.d true (.int .i64 0),.nil,.d true (.int .i64 0),.d true (.int .i64 0),.d true (.int .i64 0),.d true (.int .i64 0)]⟩
 | 41=>some ⟨(.struct [(0,29),(7,29)]),14,144,[.d true (.int .i64 0),.d true (.int .i64 0),.nil,.d true (.int .i64 0),.d true (.int .i64 0),.d true (.int .i64 0),.d true (.int .i64 0),.d true (.int .i64 0),.d true (.int .i64 0),.nil,.d true (.int .i64 0),.d true (.int .i64 0),.d true (.int .i64 0),.d true (.int .i64 0)]⟩
 | 49=>some ⟨(.slice 86),1,24,[.nil]⟩
 | 50=>some ⟨(.struct [(0,49)]),1,24,[.nil]⟩
 | 51=>some ⟨(.struct [(0,49)]),1,24,[.nil]⟩
 | 52=>some ⟨(.slice 58),1,24,[.nil]⟩
 | 55=>some ⟨(.slice 97),1,24,[.nil]⟩
 | 56=>some ⟨(.slice 136),1,24,[.nil]⟩
 | 57=>some ⟨(.struct [(0,56)]),1,24,[.nil]⟩
 | 58=>some ⟨(.struct [(0,56)]),1,24,[.nil]⟩
 | 59=>some ⟨(.struct [(0,55),(1,52),(2,3),(3,58),(4,58),(5,3)]),6,112,[.nil,.nil,.d true (.int .i64 0),.nil,.nil,.d true (.int .i64 0)]⟩
 | 60=>some ⟨(.struct [(0,55),(1,52),(2,3),(3,58),(4,58),(5,3)]),6,112,[.nil,.nil,.d true (.int .i64 0),.nil,.nil,.d true (.int .i64 0)]⟩
 | 67=>some ⟨(.struct [(0,24),(7,24)]),14,144,[.d true (.int .i64 0),.d true (.int .i64 0),.nil,.d true (.int .i64 0),.d true (.int .i64 0),.d true (.int .i64 0),.d true (.int .i64 0),.d true (.int .i64 0),.d true (.int .i64 0),.nil,.d true (.int .i64 0),.d true (.int .i64 0),.d true (.int .i64 0),.d true (.int .i64 0)]⟩
 | 68=>some ⟨(.struct [(0,24),(7,24)]),14,144,[.d true (.int .i64 0),.d true (.int .i64 0),.nil,.d true (.int .i64 0),.d true (.int .i64 0),.d true (.int .i64 0),.d true (.int .i64 0),.d true (.int .i64 0),.d true (.int .i64 0),.nil,.d true (.int .i64 0),.d true (.int .i64 0),.d true (.int .i64 0),.d true (.int .i64 0)]⟩
 | 73=>some ⟨.scalar,1,8,[.np]⟩
 | 83=>some ⟨(.struct [(0,3),(1,3),(2,3),(3,3),(4,3)]),5,40,[.d true (.int .i64 0),.d true (.int .i64 0),.d true (.int .i64 0),.d true (.int .i64 0),.d true (.int .i64 0)]⟩
 | 84=>some ⟨(.struct [(0,3),(1,3),(2,3),(3,3),(4,3)]),5,40,[.d true (.int .i64 0),.d true (.int .i64 0),.d true (.int .i64 0),.d true (.int .i64 0),.d true (.int .i64 0)]⟩
 | 85=>some ⟨(.struct [(0,3),(1,3),(2,58),(3,58)]),4,64,[.d true (.int .i64 0),.d true (.int .i64 0),.nil,.nil]⟩
 | 86=>some ⟨(.struct [(0,3),(1,3),(2,58),(3,58)]),4,64,[.d true (.int .i64 0),.d true (.int .i64 0),.nil,.nil]⟩
 | 96=>some ⟨(.struct [(0,3),(1,3),(2,58),(3,58),(4,52)]),5,88,[.d true (.int .i64 0),.d true (.int .i64 0),.nil,.nil,.nil]⟩
 | 97=>some ⟨(.struct [(0,3),(1,3),(2,58),(3,58),(4,52)]),5,88,[.d true (.int .i64 0),.d true (.int .i64 0),.nil,.nil,.nil]⟩
 | 107=>some ⟨(.struct [(0,3),(1,3),(2,3),(3,3),(4,3)]),5,40,[.d true (.int .i64 0),.d true (.int .i64 0),.d true (.int .i64 0),.d true (.int .i64 0),.d true (.int .i64 0)]⟩
 | 110=>some ⟨.scalar,1,8,[.np]⟩
 | 111=>some ⟨(.struct [(0,51),(1,4)]),2,32,[.nil,.d true (.bool false)]⟩
 | 112=>some ⟨(.struct [(0,51),(1,4)]),2,32,[.nil,.d true (.bool false)]⟩
 | 126=>some ⟨(.struct [(0,39),(1,3)]),2,32,[.nil,.d true (.int .i64 0)]⟩
 | 127=>some ⟨(.struct [(0,39),(1,3)]),2,32,[.nil,.d true (.int .i64 0)]⟩
 | 134=>some ⟨(.slice 3),1,24,[.nil]⟩
 | 135=>some ⟨(.struct [(0,3),(1,134)]),2,32,[.d true (.int .i64 0),.nil]⟩
 | 136=>some ⟨(.struct [(0,3),(1,134)]),2,32,[.d true (.int .i64 0),.nil]⟩
 | 154=>some ⟨(.slice 174),1,24,[.nil]⟩
 | 173=>some ⟨(.struct [(0,3),(1,3),(2,3),(3,3)]),4,32,[.d true (.int .i64 0),.d true (.int .i64 0),.d true (.int .i64 0),.d true (.int .i64 0)]⟩
 | 174=>some ⟨(.struct [(0,3),(1,3),(2,3),(3,3)]),4,32,[.d true (.int .i64 0),.d true (.int .i64 0),.d true (.int .i64 0),.d true (.int .i64 0)]⟩
 | 179=>some ⟨(.slice 4),1,24,[.nil]⟩
 | 202=>some ⟨(.slice 56),1,24,[.nil]⟩
 | 204=>some ⟨(.slice 134),1,24,[.nil]⟩
 | 208=>some ⟨(.int .u64),1,8,[.d true (.int .u64 0)]⟩
 | 211=>some ⟨(.int .i64),1,8,[.d true (.int .i64 0)]⟩
 | 218=>some ⟨(.int .u32),1,4,[.d true (.int .u32 0)]⟩
 | 220=>some ⟨(.int .u64),1,8,[.d true (.int .u64 0)]⟩
 | 223=>some ⟨(.int .u64),1,8,[.d true (.int .u64 0)]⟩
 | 227=>some ⟨.scalar,1,8,[.np]⟩
 | 229=>some ⟨.scalar,1,8,[.np]⟩
 | 233=>some ⟨(.struct [(0,17),(1,17),(2,17),(3,9)]),4,40,[.np,.np,.np,.d true (.str ⟨#[]⟩)]⟩
 | 234=>some ⟨(.struct [(0,17),(1,17),(2,17),(3,9)]),4,40,[.np,.np,.np,.d true (.str ⟨#[]⟩)]⟩
 | 239=>some ⟨(.int .u8),1,1,[.d true (.int .u8 0)]⟩
 | 240=>some ⟨(.int .u8),1,1,[.d true (.int .u8 0)]⟩
 | 242=>some ⟨.scalar,1,8,[.np]⟩
 | 243=>some ⟨(.int .i32),1,4,[.d true (.int .i32 0)]⟩
 | 244=>some ⟨(.int .i32),1,4,[.d true (.int .i32 0)]⟩
 | _=>none
theorem yA {P:Program} {t:TypeId} {y:TY} (i:TypeInfo) (d:M5 P t y.desc) (h:P.info? t=some i:=by kernel_rfl) (s:i.size=y.size:=by rfl) (b:i.bytes=y.bytes:=by rfl)
 (z:∃z,i.zero=some z∧zcs z.cells.toList=some y.zero:=by exact⟨_,rfl,rfl⟩) (l:y.zero.length=y.size:=by rfl):abt P t y:=⟨⟨i,h,s,b,z.elim fun x h=>⟨x,h.1,fun _ _=>Zf h.2⟩⟩,d,l⟩
theorem yS {P:Program} {t:TypeId} {y:TY} {F:Array Field} (i:TypeInfo) (u:P.underlying t=some (.struct F)) (e:y.desc= .struct (F.toList.map fun f=>(f.offset,f.type)):=by rfl) (h:P.info? t=some i:=by kernel_rfl) (s:i.size=y.size:=by rfl) (b:i.bytes=y.bytes:=by rfl)
 (z:∃z,i.zero=some z∧zcs z.cells.toList=some y.zero:=by exact⟨_,rfl,rfl⟩) (l:y.zero.length=y.size:=by rfl):abt P t y:=yA i (by rw [e];exact⟨F,u,rfl⟩) h s b z l
theorem yP {P:Program} {t:TypeId} {y:TY} {e:TypeId} (i:TypeInfo) (u:P.underlying t=some (.pointer e)) (e:y.desc= .scalar:=by rfl) (h:P.info? t=some i:=by kernel_rfl) (s:i.size=y.size:=by rfl) (b:i.bytes=y.bytes:=by rfl)
 (z:∃z,i.zero=some z∧zcs z.cells.toList=some y.zero:=by exact⟨_,rfl,rfl⟩) (l:y.zero.length=y.size:=by rfl):abt P t y:=yA i (by rw [e];exact⟨_,u,(fun _ h=>by cases h),(fun _ _ h=>by cases h)⟩) h s b z l
theorem azE:∀t y,ty t=some y→abt Tryz.prog t y:=by
 intro t y h
 unfold ty at h
 split at h<;>first | (cases h;done) | skip
 ·cases h;exact yA Tryz.t2 Tryz.underlying2
 ·cases h;exact yA Tryz.t3 Tryz.underlying3
 ·cases h;exact yA Tryz.t4 Tryz.underlying4
 ·cases h;exact yA Tryz.t5 Tryz.underlying5
 ·cases h;exact yA Tryz.t6 Tryz.underlying6
 ·cases h;exact yS Tryz.t7 Tryz.underlying7
 ·cases h;exact yS Tryz.t8 Tryz.underlying8
 ·cases h;exact yA Tryz.t9 Tryz.underlying9
 ·cases h;exact yA Tryz.t10 Tryz.underlying10
 ·cases h;exact yA Tryz.t11 Tryz.underlying11
 ·cases h;exact yA Tryz.t12 Tryz.underlying12
 ·cases h;exact yS Tryz.t13 Tryz.underlying13
 ·cases h;exact yS Tryz.t14 Tryz.underlying14
 ·cases h;exact yP Tryz.t15 Tryz.underlying15
 ·cases h;exact yP Tryz.t16 Tryz.underlying16
 ·cases h;exact yP Tryz.t17 Tryz.underlying17
 ·cases h;exact yS Tryz.t18 Tryz.underlying18
 ·cases h;exact yS Tryz.t19 Tryz.underlying19
 ·cases h;exact yA Tryz.t21 Tryz.underlying21
 ·cases h;exact yA Tryz.t22 Tryz.underlying22
 ·cases h;exact yS Tryz.t23 Tryz.underlying23
 ·cases h;exact yS Tryz.t24 Tryz.underlying24
 ·cases h;exact yA Tryz.t27 Tryz.underlying27
 ·cases h;exact yS Tryz.t28 Tryz.underlying28
 ·cases h;exact yS Tryz.t29 Tryz.underlying29
 ·cases h;exact yA Tryz.t32 Tryz.underlying32
 ·cases h;exact yA Tryz.t35 Tryz.underlying35
 ·cases h;exact yA Tryz.t39 Tryz.underlying39
 ·cases h;exact yS Tryz.t40 Tryz.underlying40
 ·cases h;exact yS Tryz.t41 Tryz.underlying41
 ·cases h;exact yA Tryz.t49 Tryz.underlying49
 ·cases h;exact yS Tryz.t50 Tryz.underlying50
 ·cases h;exact yS Tryz.t51 Tryz.underlying51
 ·cases h;exact yA Tryz.t52 Tryz.underlying52
 ·cases h;exact yA Tryz.t55 Tryz.underlying55
 ·cases h;exact yA Tryz.t56 Tryz.underlying56
 ·cases h;exact yS Tryz.t57 Tryz.underlying57
 ·cases h;exact yS Tryz.t58 Tryz.underlying58
 ·cases h;exact yS Tryz.t59 Tryz.underlying59
 ·cases h;exact yS Tryz.t60 Tryz.underlying60
 ·cases h;exact yS Tryz.t67 Tryz.underlying67
 ·cases h;exact yS Tryz.t68 Tryz.underlying68
 ·cases h;exact yP Tryz.t73 Tryz.underlying73
 ·cases h;exact yS Tryz.t83 Tryz.underlying83
 ·cases h;exact yS Tryz.t84 Tryz.underlying84
 ·cases h;exact yS Tryz.t85 Tryz.underlying85
 ·cases h;exact yS Tryz.t86 Tryz.underlying86
 ·cases h;exact yS Tryz.t96 Tryz.underlying96
 ·cases h;exact yS Tryz.t97 Tryz.underlying97
 ·cases h;exact yS Tryz.t107 Tryz.underlying107
 ·cases h;exact yP Tryz.t110 Tryz.underlying110
 ·cases h;exact yS Tryz.t111 Tryz.underlying111
 ·cases h;exact yS Tryz.t112 Tryz.underlying112
 ·cases h;exact yS Tryz.t126 Tryz.underlying126
 ·cases h;exact yS Tryz.t127 Tryz.underlying127
 ·cases h;exact yA Tryz.t134 Tryz.underlying134
 ·cases h;exact yS Tryz.t135 Tryz.underlying135
 ·cases h;exact yS Tryz.t136 Tryz.underlying136
 ·cases h;exact yA Tryz.t154 Tryz.underlying154
 ·cases h;exact yS Tryz.t173 Tryz.underlying173
 ·cases h;exact yS Tryz.t174 Tryz.underlying174
 ·cases h;exact yA Tryz.t179 Tryz.underlying179
 ·cases h;exact yA Tryz.t202 Tryz.underlying202
 ·cases h;exact yA Tryz.t204 Tryz.underlying204
 ·cases h;exact yA Tryz.t208 Tryz.underlying208
 ·cases h;exact yA Tryz.t211 Tryz.underlying211
 ·cases h;exact yA Tryz.t218 Tryz.underlying218
 ·cases h;exact yA Tryz.t220 Tryz.underlying220
 ·cases h;exact yA Tryz.t223 Tryz.underlying223
 ·cases h;exact yP Tryz.t227 Tryz.underlying227
 ·cases h;exact yP Tryz.t229 Tryz.underlying229
 ·cases h;exact yS Tryz.t233 Tryz.underlying233
 ·cases h;exact yS Tryz.t234 Tryz.underlying234
 ·cases h;exact yA Tryz.t239 Tryz.underlying239
 ·cases h;exact yA Tryz.t240 Tryz.underlying240
 ·cases h;exact yP Tryz.t242 Tryz.underlying242
 ·cases h;exact yA Tryz.t243 Tryz.underlying243
 ·cases h;exact yA Tryz.t244 Tryz.underlying244
def co:TypeId→Option Co
 | 3=>some .i64
 | 4=>some .bool
 | 5=>some .u8
 | 9=>some .str
 | 24=>some .blk
 | 29=>some .blk
 | 41=>some .cer
 | 51=>some .tab
 | 56=>some .poly
 | 58=>some .poly
 | 60=>some .sym
 | 68=>some .cer
 | 84=>some .iop
 | 86=>some .atom
 | 97=>some .ev
 | 107=>some .iop
 | 134=>some .ints
 | 136=>some .mono
 | 174=>some .ins
 | _=>none
def ieq:TypeId→Option Co
 | 84=>some .iop
 | 107=>some .iop
 | 174=>some .ins
 | _=>none
def X:XT:={ty:=ty,co:=co,glob:=fun g=>none,ieq:=ieq}
noncomputable def E:Tab:={P:=Tryz.prog,ty:=ty,glob:=fun g=>none,ieq:=fun t=>(ieq t).map fun c=>c.size}
end Go.TX.Seat
namespace Go.TX.Seat
open Go Go.AE Go.TX Go.TX.F Go.Proofs
set_option maxRecDepth 100000
theorem amw (A:Alg): @Ru ay.z X E A [] .u bQ Tryz.f47 [] (UJ A.al):=fun _=>by kernel_rfl
theorem amx (A:Alg): @Ru ay.z X E A [] .u kM Tryz.f99 [] (UK A.al):=fun _=>by kernel_rfl
theorem amy (A:Alg) (aQ:Ct A.ah bQ): @Ru ay.z X E A [] .u GQ Tryz.f136 [(47,⟨_,aQ⟩)] (UL A.al aQ.pre aQ.fn):=fun _=>by kernel_rfl
theorem amA (A:Alg) (JC:Ct A.ah GQ): @Ru ay.z X E A [] .u vS Tryz.f100 [(136,⟨_,JC⟩)] (UM A.al JC.pre JC.fn):=fun _=>by kernel_rfl
theorem amB (A:Alg) (iw:Ct A.ah kM) (aQ:Ct A.ah bQ) (qx:Ct A.ah vS): @Ru ay.z X E A [] (.v (.v (.seq (.v (.block (.v (.cond .u (.v (.cond .u (.v (.cond .u (.seq (.v (.cut ⟨[(0,.r false .iop),(1,.i),(2,.i),(7,.p 0 5),(13,.i),(78,.b)],[.s false .iop]⟩ (.cond .u .u))) .u))))))))) .u))) GU Tryz.f48 [(99,⟨_,iw⟩),(47,⟨_,aQ⟩),(100,⟨_,qx⟩)] (UN A.al iw.pre iw.fn aQ.pre aQ.fn qx.pre qx.fn):=fun _=>by kernel_rfl
theorem amC (A:Alg) (iw:Ct A.ah kM) (qx:Ct A.ah vS): @Ru ay.z X E A [] (.v (.v (.seq (.v (.block (.v (.cond .u (.v (.cond .u (.seq (.v (.cut ⟨[(1,.p 0 7),(3,.i),(42,.b)],[.s false .blk]⟩ (.cond .u .u))) .u))))))) .u))) GV Tryz.f49 [(99,⟨_,iw⟩),(100,⟨_,qx⟩)] (UO A.al iw.pre iw.fn qx.pre qx.fn):=fun _=>by kernel_rfl
theorem amD (A:Alg) (aQ:Ct A.ah bQ) (JD:Ct A.ah GV) (JE:Ct A.ah GU): @Ru ay.z X E A [] (.v (.v (.seq (.v (.block (.loop ⟨[(1,.p 0 7),(3,.i)],[.s false .blk]⟩ .u))) .u))) fE Tryz.f22 [(47,⟨_,aQ⟩),(49,⟨_,JD⟩),(48,⟨_,JE⟩)] (UQ A.al aQ.pre aQ.fn JD.pre JD.fn JE.pre JE.fn):=fun _=>by kernel_rfl
theorem amE (A:Alg): @Ru ay.z X E A [(6,[od 0 [2],od 1 [62],od 2 [5],od 3 [63,64],od 4 [65],od 5 [3],od 6 [67],od 7 [5],od 8 [68,69],od 9 [70],od 10 [66,71]])] (.v (.v (.seq (.v (.block (.loop ⟨[(2,.p 0 7),(3,.p 1 7),(5,.i)],[.s false .blk,.s false .blk]⟩ .u))) .u))) GX Tryz.f23 [] (UR A.al):=fun _=>by kernel_rfl
theorem amF (A:Alg) (aQ:Ct A.ah bQ): @Ru ay.z X E A [] .u kN Tryz.f50 [(47,⟨_,aQ⟩)] (UU A.al aQ.pre aQ.fn):=fun _=>by kernel_rfl
theorem amG (A:Alg) (iy:Ct A.ah kN): @Ru ay.z X E A [] (.v (.v (.v (.seq (.v (.block (.loop ⟨[(0,.p 0 1),(2,.p 1 1),(3,.o 2),(4,.i)],[.g [.nil],.g [.own 3],.rows true .poly,.rows true .atom]⟩ .u))) .u)))) vT Tryz.f24 [(50,⟨_,iy⟩)] (UW A.al iy.pre iy.fn):=fun _=>by kernel_rfl
theorem amH (A:Alg): @Ru ay.z X E A [(8,[od 0 [0],od 1 [5],od 2 [22,23],od 3 [24],od 4 [1],od 5 [5],od 6 [26,27],od 7 [28],od 8 [25,29]]),(10,[od 0 [0],od 1 [5],od 2 [31,32],od 3 [33],od 4 [1],od 5 [5],od 6 [35,36],od 7 [37],od 8 [34,38]])] (.v (.v (.seq (.v (.block (.loop ⟨[(0,.r false .i64),(1,.r false .i64),(5,.i)],[]⟩ .u))) .u))) nY Tryz.f111 [] (UY A.al):=fun _=>by kernel_rfl
theorem amI (A:Alg) (aQ:Ct A.ah bQ): @Ru ay.z X E A [(6,[od 0 [1],od 1 [21],od 2 [3],od 3 [22,23],od 4 [24],od 5 [25],od 6 [26],od 7 [27],od 8 [3,28],od 9 [28,29],od 10 [28,30],od 11 [1,31],od 12 [31,32],od 13 [3,31],od 14 [31,34],od 15 [31,33,35],od 16 [31,36],od 17 [1,31],od 18 [31,38],od 19 [3,31],od 20 [31,39,40],od 21 [31,41],od 22 [31,37,42],od 23 [28,31,43],od 24 [28,44]])] (.v (.v (.seq (.v (.block (.loop ⟨[(1,.p 0 2),(3,.i)],[.s false .mono]⟩ .u))) .u))) GY Tryz.f144 [(47,⟨_,aQ⟩)] (UZ A.al aQ.pre aQ.fn):=fun _=>by kernel_rfl
theorem amJ (A:Alg) (JF:Ct A.ah GY) (jO:Ct A.ah nY): @Ru ay.z X E A [(6,[od 0 [1],od 1 [15],od 2 [3],od 3 [16,17],od 4 [18],od 5 [19],od 6 [20],od 7 [21],od 8 [3,22],od 9 [22,23],od 10 [22,24],od 11 [1,25],od 12 [25,26],od 13 [3,25],od 14 [25,28],od 15 [25,27,29],od 16 [25,30],od 17 [25,31],od 18 [1,25],od 19 [25,33],od 20 [3,25],od 21 [25,34,35],od 22 [25,36],od 23 [25,37],od 24 [25,32,38],od 25 [25,39],od 26 [22,25,40],od 27 [22,41]])] (.v (.v (.seq (.v (.block (.loop ⟨[(1,.p 0 1),(3,.i)],[.s false .poly]⟩ .u))) .u))) iq Tryz.f107 [(144,⟨_,JF⟩),(111,⟨_,jO⟩)] (U0 A.al JF.pre JF.fn jO.pre jO.fn):=fun _=>by kernel_rfl
theorem amK (A:Alg): @Ru ay.z X E A [] .u GZ Tryz.f137 [] (U1 A.al):=fun _=>by kernel_rfl
theorem amL (A:Alg): @Ru ay.z X E A [] (.v (.seq (.v (.block (.loop ⟨[(1,.i),(2,.p 0 1),(5,.i)],[.s false .poly]⟩ (.v (.seq (.block (.v (.block (.loop ⟨[(1,.i),(2,.p 0 1),(5,.i),(6,.i)],[.s false .poly]⟩ .u)))) .u))))) .u)) G5 Tryz.f138 [] (U2 A.al):=fun _=>by kernel_rfl
theorem amM (A:Alg) (aQ:Ct A.ah bQ) (dN:Ct A.ah iq) (JG:Ct A.ah G5) (JH:Ct A.ah GZ): @Ru ay.z X E A [] (.v (.seq (.v (.block (.v (.cond .u (.seq (.v (.cut ⟨[(1,.i),(2,.p 0 4),(6,.i),(16,.b)],[.s false .atom]⟩ (.cond .u .u))) .u))))) .u)) vU Tryz.f101 [(47,⟨_,aQ⟩),(107,⟨_,dN⟩),(138,⟨_,JG⟩),(137,⟨_,JH⟩)] (U3 A.al aQ.pre aQ.fn dN.pre dN.fn JG.pre JG.fn JH.pre JH.fn):=fun _=>by kernel_rfl
theorem amN (A:Alg) (jO:Ct A.ah nY): @Ru ay.z X E A [(8,[od 0 [2],od 1 [28],od 2 [5],od 3 [29,30],od 4 [31],od 5 [32],od 6 [3],od 7 [34],od 8 [5],od 9 [35,36],od 10 [37],od 11 [38],od 12 [33,39],od 13 [40]]),(11,[od 0 [2],od 1 [44],od 2 [5],od 3 [45,46],od 4 [47],od 5 [48],od 6 [3],od 7 [50],od 8 [5],od 9 [51,52],od 10 [53],od 11 [54],od 12 [49,55]]),(12,[od 0 [2],od 1 [57],od 2 [5],od 3 [58,59],od 4 [60],od 5 [61],od 6 [3],od 7 [63],od 8 [5],od 9 [64,65],od 10 [66],od 11 [67],od 12 [62,68]])] (.v (.v (.seq (.v (.block (.loop ⟨[(2,.p 0 1),(3,.p 1 1),(5,.i)],[.s false .poly,.s false .poly]⟩ .u))) .u))) gB Tryz.f65 [(111,⟨_,jO⟩)] (U4 A.al jO.pre jO.fn):=fun _=>by kernel_rfl
theorem amO (A:Alg) (bR:Ct A.ah gB): @Ru ay.z X E A [] .u vV Tryz.f102 [(65,⟨_,bR⟩)] (U5 A.al bR.pre bR.fn):=fun _=>by kernel_rfl
theorem amP (A:Alg) (qy:Ct A.ah vU) (qz:Ct A.ah vV): @Ru ay.z X E A [(11,[od 0 [1],od 1 [29],od 2 [4],od 3 [30,31],od 4 [32],od 5 [1],od 6 [34],od 7 [3],od 8 [35,36],od 9 [37],od 10 [33,38]])] (.v (.v (.seq (.v (.block (.loop ⟨[(1,.p 0 1),(3,.i)],[.s false .tab]⟩ (.v (.seq (.block (.v (.v (.block (.loop ⟨[(1,.p 0 1),(3,.i),(4,.i)],[.s false .tab]⟩ .u))))) .u))))) .u))) G6 Tryz.f51 [(101,⟨_,qy⟩),(102,⟨_,qz⟩)] (U6 A.al qy.pre qy.fn qz.pre qz.fn):=fun _=>by kernel_rfl
theorem amQ (A:Alg): @Ru ⟨[26],[]⟩ X E A [(5,[od 0 [3],od 1 [12],od 2 [0],od 3 [4],od 4 [14,15],od 5 [16],od 6 [17],od 7 [],od 8 [0],od 9 [4],od 10 [20,21],od 11 [22],od 12 [23],(13,([19,24],[1,6])),od 14 [18,25],(15,([26],[1])),od 16 [13,27],od 17 [3],od 18 [28,29]])] (.v (.v (.seq (.v (.block (.loop ⟨[(0,.r false .mono),(2,.p 0 1),(3,.p 1 1),(4,.i)],[.g [.nil],.g [.own 2],.rows true .mono]⟩ .u))) .u))) dQ Tryz.f60 [] (Vb A.al):=fun _=>by kernel_rfl
theorem amR (A:Alg) (bA:Ct A.ah dQ): @Ru ay.z X E A [(1,[od 0 [1],od 1 [3],od 2 [1],od 3 [5],od 4 [1],od 5 [7],od 6 [8],od 8 [1],od 9 [11],od 10 [12],(7,([9],[1,3,10])),(11,([13],[1,3])),od 12 [4,6,10,14],od 13 [2,15]])] .u vW Tryz.f103 [(60,⟨_,bA⟩)] (Vd A.al bA.pre bA.fn):=fun _=>by kernel_rfl
theorem amS (A:Alg) (qA:Ct A.ah vW): @Ru ⟨[20],[]⟩ X E A [(5,[od 0 [3],od 1 [13],od 2 [1],od 3 [15],od 4 [4],od 5 [16,17],od 6 [18],(7,([19],[1])),(8,([20],[1])),od 9 [14,21],od 10 [3],od 11 [22,23]])] (.v (.v (.seq (.v (.block (.loop ⟨[(1,.p 0 1),(2,.p 1 1),(3,.p 2 1),(4,.i)],[.s false .tab,.g [.nil],.g [.own 3],.rows true .atom]⟩ .u))) .u))) G7 Tryz.f52 [(103,⟨_,qA⟩)] (Ve A.al qA.pre qA.fn):=fun _=>by kernel_rfl
theorem amT (A:Alg) (qy:Ct A.ah vU) (qz:Ct A.ah vV) (qA:Ct A.ah vW): @Ru ⟨[38],[]⟩ X E A [(6,[od 0 [2],od 1 [21],od 2 [6],od 3 [22,23],od 4 [24],od 5 [3],od 6 [25,26]]),(10,[od 0 [2],od 1 [35],od 2 [3],(3,([37],[1])),(4,([38],[1])),od 5 [36,39],od 6 [2],od 7 [40,41]]),(11,[od 0 [2],od 1 [2],od 2 [43],od 3 [44],od 4 [45],(5,([4,42],[2])),od 6 [46]])] (.v (.v (.seq (.v (.block (.loop ⟨[(2,.p 1 1),(3,.p 2 4),(4,.p 3 1),(6,.i)],[.rows true .atom,.g [.own 0],.s false .atom,.g [.nil]]⟩ .u))) .u))) nZ Tryz.f53 [(101,⟨_,qy⟩),(102,⟨_,qz⟩),(103,⟨_,qA⟩)] (Vh A.al qy.pre qy.fn qz.pre qz.fn qA.pre qA.fn):=fun _=>by kernel_rfl
theorem amU (A:Alg): @Ru ay.z X E A [] .u G8 Tryz.f54 [] (Vi A.al):=fun _=>by kernel_rfl
theorem amV (A:Alg) (aQ:Ct A.ah bQ): @Ru ay.z X E A [] .u vX Tryz.f55 [(47,⟨_,aQ⟩)] (Vj A.al aQ.pre aQ.fn):=fun _=>by kernel_rfl
theorem amW (A:Alg): @Ru ay.z X E A [] (.v (.v (.seq (.v (.cut ⟨[(3,.i)],[]⟩ (.cond .u .u))) .u))) kP Tryz.f173 [] (Vk A.al):=fun _=>by kernel_rfl
theorem amX (A:Alg) (jO:Ct A.ah nY) (iA:Ct A.ah kP): @Ru ay.z X E A [(6,[od 0 [3],od 1 [17],od 2 [0],od 3 [7],od 4 [19,20],od 5 [21],od 6 [22],od 7 [18,23],od 8 [24]]),(12,[od 0 [0],od 1 [7],od 2 [37,38],od 3 [39],od 4 [40],od 5 [3],od 6 [42],od 7 [41,43],od 8 [44],od 9 [45]])] (.v (.v (.v (.seq (.v (.block (.loop ⟨[(0,.r false .mono),(3,.p 0 2),(5,.o 1),(6,.b),(7,.i)],[.s false .mono,.rows false .mono]⟩ (.v (.seq (.block (.v (.seq (.v (.cut ⟨[(0,.r false .mono),(3,.p 0 2),(5,.o 1),(6,.b),(7,.i),(8,.i)],[.s false .mono,.rows false .mono]⟩ (.cond .u .u))) (.v (.cut ⟨[(0,.r false .mono),(3,.p 0 2),(5,.o 1),(6,.b),(7,.i)],[.s false .mono,.rows false .mono]⟩ (.cond (.v (.v (.v (.cut ⟨[(0,.r false .mono),(3,.p 0 2),(5,.o 1),(6,.b),(7,.i)],[.s false .mono,.rows false .mono]⟩ (.cond .u .u))))) .u)))))) .u))))) (.seq (.v (.cut ⟨[(5,.o 0)],[.rows false .mono]⟩ (.cond .u .u))) .u))))) vY Tryz.f171 [(111,⟨_,jO⟩),(173,⟨_,iA⟩)] (Vm A.al jO.pre jO.fn iA.pre iA.fn):=fun _=>by kernel_rfl
theorem amY (A:Alg) (bA:Ct A.ah dQ): @Ru ay.z X E A [] (.v (.v (.seq (.v (.block (.loop ⟨[(0,.r false .mono),(2,.p 0 1),(4,.i)],[.g [.nil]]⟩ .u))) .u))) vZ Tryz.f172 [(60,⟨_,bA⟩)] (Vn A.al bA.pre bA.fn):=fun _=>by kernel_rfl
theorem amZ (A:Alg) (dN:Ct A.ah iq) (qB:Ct A.ah vY) (qC:Ct A.ah vZ): @Ru ay.z X E A [] (.v (.v (.v (.seq (.v (.block (.loop ⟨[(3,.p 0 1),(4,.p 1 1),(6,.r false .mono),(7,.i)],[.s false .poly,.g [.nil]]⟩ .u))) .u)))) G9 Tryz.f139 [(107,⟨_,dN⟩),(171,⟨_,qB⟩),(172,⟨_,qC⟩)] (Vo A.al dN.pre dN.fn qB.pre qB.fn qC.pre qC.fn):=fun _=>by kernel_rfl
theorem am0 (A:Alg) (dN:Ct A.ah iq) (iA:Ct A.ah kP) (bA:Ct A.ah dQ) (iw:Ct A.ah kM): @Ru ay.z X E A [] (.v (.v (.v (.seq (.v (.block (.loop ⟨[(1,.i),(2,.p 0 1),(4,.p 1 1),(5,.o 2),(6,.i)],[.s false .poly,.g [.nil],.rows false .mono]⟩ (.v (.seq (.block (.v (.v (.cut ⟨[(1,.i),(2,.p 0 1),(4,.p 1 1),(5,.o 2),(6,.i)],[.s false .poly,.g [.nil],.rows false .mono]⟩ (.cond .u .u))))) .u))))) .u)))) Hg Tryz.f140 [(107,⟨_,dN⟩),(173,⟨_,iA⟩),(60,⟨_,bA⟩),(99,⟨_,iw⟩)] (Vt A.al dN.pre dN.fn iA.pre iA.fn bA.pre bA.fn iw.pre iw.fn):=fun _=>by kernel_rfl
theorem am1 (A:Alg): @Ru ay.z X E A [(6,[od 0 [6],od 1 [0],od 2 [16],od 3 [15,17],od 4 [18],od 5 [0,19],od 6 [6,19],od 7 [19,20,21],od 8 [19,22],od 9 [1,19],od 10 [7,19],od 11 [19,24,25],od 12 [19,26],od 13 [19,23,27],od 14 [19,28]])] (.v (.v (.v (.seq (.v (.block (.loop ⟨[(0,.r false .i64),(1,.r false .i64),(5,.o 0),(6,.i),(7,.i)],[.rows true .i64]⟩ (.v (.seq (.block (.seq (.block (.loop ⟨[(0,.r false .i64),(1,.r false .i64),(5,.o 0),(6,.i),(7,.i)],[.rows true .i64]⟩ .u)) .u)) .u))))) .u)))) Hl Tryz.f174 [] (Vu A.al):=fun _=>by kernel_rfl
theorem am2 (A:Alg) (dN:Ct A.ah iq) (iA:Ct A.ah kP) (qB:Ct A.ah vY) (JI:Ct A.ah Hl) (qC:Ct A.ah vZ): @Ru ay.z X E A [(10,[od 0 [2],od 1 [34],od 2 [7],od 3 [35,36],od 4 [37],od 5 [38],od 6 [3],od 7 [40],od 8 [8],od 9 [41,42],od 10 [43],od 11 [44],od 12 [39,45],od 13 [46],od 14 [47]]),(12,[od 0 [6],od 1 [9],od 2 [2],od 3 [52],od 4 [7],od 5 [53,54],od 6 [55],od 7 [56],od 8 [3],od 9 [58],od 10 [8],od 11 [59,60],od 12 [61],od 13 [62],od 14 [57,63],od 15 [51,64],od 16 [50,65],od 17 [66]])] (.v (.v (.v (.seq (.v (.block (.loop ⟨[(2,.p 0 1),(3,.p 1 1),(4,.p 2 1),(6,.o 3),(7,.i)],[.s false .poly,.s false .poly,.g [.nil],.rows false .mono]⟩ (.v (.seq (.block (.v (.block (.loop ⟨[(2,.p 0 1),(3,.p 1 1),(4,.p 2 1),(6,.o 3),(7,.i),(8,.i)],[.s false .poly,.s false .poly,.g [.nil],.rows false .mono]⟩ (.v (.seq (.block (.v (.v (.cut ⟨[(2,.p 0 1),(3,.p 1 1),(4,.p 2 1),(6,.o 3),(7,.i),(8,.i)],[.s false .poly,.s false .poly,.g [.nil],.rows false .mono]⟩ (.cond .u .u))))) .u)))))) .u))))) .u)))) Ho Tryz.f141 [(107,⟨_,dN⟩),(173,⟨_,iA⟩),(171,⟨_,qB⟩),(174,⟨_,JI⟩),(172,⟨_,qC⟩)] (Vv A.al dN.pre dN.fn iA.pre iA.fn qB.pre qB.fn JI.pre JI.fn qC.pre qC.fn):=fun _=>by kernel_rfl
theorem am3 (A:Alg) (JJ:Ct A.ah Ho) (JK:Ct A.ah G9) (JL:Ct A.ah Hg): @Ru ay.z X E A [(5,[od 0 [4],od 1 [5],(2,([19],[0])),od 3 [18,20],od 4 [21],od 5 [21],od 6 [6,22],od 7 [23]])] .u Hq Tryz.f104 [(141,⟨_,JJ⟩),(139,⟨_,JK⟩),(140,⟨_,JL⟩)] (Vw A.al JJ.pre JJ.fn JK.pre JK.fn JL.pre JL.fn):=fun _=>by kernel_rfl
theorem am4 (A:Alg) (dN:Ct A.ah iq): @Ru ay.z X E A [] .u og Tryz.f108 [(107,⟨_,dN⟩)] (Vx A.al dN.pre dN.fn):=fun _=>by kernel_rfl
theorem am5 (A:Alg) (iA:Ct A.ah kP) (iw:Ct A.ah kM): @Ru ay.z X E A [] .u wm Tryz.f142 [(173,⟨_,iA⟩),(99,⟨_,iw⟩)] (Vy A.al iA.pre iA.fn iw.pre iw.fn):=fun _=>by kernel_rfl
theorem am6 (A:Alg) (bA:Ct A.ah dQ): @Ru ay.z X E A [] .u Hr Tryz.f143 [(60,⟨_,bA⟩)] (Vz A.al bA.pre bA.fn):=fun _=>by kernel_rfl
theorem am7 (A:Alg) (bR:Ct A.ah gB) (bA:Ct A.ah dQ) (qD:Ct A.ah wm) (qE:Ct A.ah vX) (jP:Ct A.ah og) (JM:Ct A.ah Hr): @Ru ay.z X E A [] .u Ht Tryz.f105 [(65,⟨_,bR⟩),(60,⟨_,bA⟩),(142,⟨_,qD⟩),(55,⟨_,qE⟩),(108,⟨_,jP⟩),(143,⟨_,JM⟩)] (VA A.al bR.pre bR.fn bA.pre bA.fn qD.pre qD.fn qE.pre qE.fn jP.pre jP.fn JM.pre JM.fn):=fun _=>by kernel_rfl
theorem am8 (A:Alg) (iy:Ct A.ah kN) (bR:Ct A.ah gB) (JN:Ct A.ah Hq) (JO:Ct A.ah Ht) (jQ:Ct A.ah nZ): @Ru ay.z X E A [(5,[od 0 [4],od 1 [10],(2,([8,36],[1])),od 3 [9,37]]),(12,[od 0 [13],od 1 [14],(2,([65],[0])),od 3 [8,64],od 4 [9,66]])] (.v (.v (.seq (.v (.cut ⟨[(1,.i),(4,.p 1 1),(6,.p 2 1),(7,.p 3 1),(8,.p 4 1),(9,.p 5 1),(10,.p 6 1),(11,.b)],[.rows true .atom,.g [.own 0],.s false .poly,.s false .poly,.g [.nil],.g [.nil],.g [.own 7],.rows true .mono]⟩ (.cond .u .u))) (.v (.v (.seq (.v (.cut ⟨[(4,.p 1 1),(8,.p 2 1),(9,.p 3 1),(12,.p 4 4)],[.rows true .atom,.g [.own 0],.g [.nil],.g [.nil],.g [.i,.i,.rows false .mono,.rows false .mono]]⟩ (.cond .u .u))) .u)))))) Hu Tryz.f56 [(50,⟨_,iy⟩),(65,⟨_,bR⟩),(104,⟨_,JN⟩),(105,⟨_,JO⟩),(53,⟨_,jQ⟩)] (VG A.al iy.pre iy.fn bR.pre bR.fn JN.pre JN.fn JO.pre JO.fn jQ.pre jQ.fn):=fun _=>by kernel_rfl
theorem am9 (A:Alg): @Ru ay.z X E A [] (.v (.v (.seq (.v (.block (.loop ⟨[(0,.r false .ev),(1,.i),(5,.i),(6,.i)],[]⟩ (.v (.seq (.block (.v (.cut ⟨[(0,.r false .ev),(1,.i),(5,.i),(6,.i)],[]⟩ (.cond .u .u)))) .u))))) .u))) Hw Tryz.f106 [] (VH A.al):=fun _=>by kernel_rfl
theorem ana (A:Alg) (iy:Ct A.ah kN) (jQ:Ct A.ah nZ) (JQ:Ct A.ah Hw): @Ru ay.z X E A [(5,[od 0 [9],od 1 [10],(2,([25],[0])),od 3 [6,24],od 4 [7,26]])] (.v (.v (.seq (.v (.cut ⟨[(3,.p 1 1),(6,.p 2 1),(7,.p 3 1),(8,.p 4 4)],[.rows true .atom,.g [.own 0],.g [.nil],.g [.nil],.g [.i,.i,.nil,.nil]]⟩ (.cond .u .u))) .u))) Hy Tryz.f57 [(50,⟨_,iy⟩),(53,⟨_,jQ⟩),(106,⟨_,JQ⟩)] (VI A.al iy.pre iy.fn jQ.pre jQ.fn JQ.pre JQ.fn):=fun _=>by kernel_rfl
theorem anb (A:Alg) (bA:Ct A.ah dQ): @Ru ay.z X E A [] (.v (.v (.seq (.v (.block (.loop ⟨[(0,.r false .poly),(3,.o 0),(4,.i)],[.rows true .poly]⟩ .u))) .u))) oh Tryz.f59 [(60,⟨_,bA⟩)] (VJ A.al bA.pre bA.fn):=fun _=>by kernel_rfl
theorem ane (A:Alg) (bA:Ct A.ah dQ) (jR:Ct A.ah oh): @Ru ay.z X E A [] (.v (.v (.seq (.v (.cut ⟨[(3,.r false .poly),(4,.p 0 5),(6,.p 1 1),(8,.p 2 5),(9,.p 3 5)],[.s false .iop,.s false .poly,.g [.i,.i,.nil,.nil,.nil],.g [.i,.i,.own 4,.nil,.nil],.rows true .mono]⟩ (.cond .u .u))) (.seq (.v (.cut ⟨[(3,.r false .poly),(4,.p 0 5),(8,.p 1 5),(9,.p 2 5)],[.s false .iop,.g [.i,.i,.nil,.nil,.nil],.g [.i,.i,.own 3,.own 4,.nil],.rows true .mono,.rows true .mono]⟩ (.cond .u .u))) (.seq (.v (.cut ⟨[(8,.p 0 5),(9,.p 1 5)],[.g [.i,.i,.nil,.nil,.nil],.g [.i,.i,.own 2,.own 3,.own 4],.rows true .mono,.rows true .mono,.rows true .poly]⟩ (.cond .u .u))) .u))))) Hz Tryz.f58 [(60,⟨_,bA⟩),(59,⟨_,jR⟩)] (VK A.al bA.pre bA.fn jR.pre jR.fn):=fun _=>by kernel_rfl
theorem anf (A:Alg): @Ru ay.z X E A [] .u HV Tryz.f61 [] (VL A.al):=fun _=>by kernel_rfl
theorem ang (A:Alg): @Ru ay.z X E A [] .u HZ Tryz.f62 [] (VN A.al):=fun _=>by kernel_rfl
theorem anh (A:Alg): @Ru ay.z X E A [] .u wo Tryz.f109 [] (VO A.al):=fun _=>by kernel_rfl
theorem ani (A:Alg) (jP:Ct A.ah og) (bR:Ct A.ah gB) (qF:Ct A.ah wo): @Ru ay.z X E A [] (.v (.v (.v (.v (.seq (.block (.seq (.v (.cut ⟨[(1,.i),(2,.p 0 6),(4,.p 1 6),(6,.b),(8,.b),(9,.b),(29,.b)],[.s false .sym,.g [.nil,.nil,.i,.nil,.nil,.i]]⟩ (.cond .u .u))) (.cond .u (.seq (.v (.cut ⟨[(1,.i),(2,.p 0 6),(4,.p 1 6),(54,.b)],[.s false .sym,.g [.nil,.nil,.i,.nil,.nil,.i]]⟩ (.cond .u .u))) .u)))) (.seq (.v (.cut ⟨[(2,.p 0 6),(4,.p 1 6)],[.s false .sym,.g [.nil,.nil,.i,.nil,.nil,.i]]⟩ (.cond .u .u))) .u)))))) H6 Tryz.f110 [(108,⟨_,jP⟩),(65,⟨_,bR⟩),(109,⟨_,qF⟩)] (VP A.al jP.pre jP.fn bR.pre bR.fn qF.pre qF.fn):=fun _=>by kernel_rfl
theorem anj (A:Alg) (jP:Ct A.ah og) (dN:Ct A.ah iq) (bA:Ct A.ah dQ) (qF:Ct A.ah wo) (JR:Ct A.ah H6) (jR:Ct A.ah oh): @Ru ⟨[53],[]⟩ X E A [(9,[od 0 [5],od 1 [36],od 2 [7],od 3 [38],od 4 [7],od 5 [40],od 6 [7],od 7 [42],od 8 [43],od 10 [7],od 11 [46],od 12 [47],od 14 [7],od 15 [50],(9,([44],[1,3,5,12,15])),(13,([48],[1,3,5,15])),(16,([51],[1,3,5])),od 17 [39,41,45,49,52],(18,([53],[1])),od 19 [37,54],od 20 [5],od 21 [55,56]])] (.v (.v (.v (.v (.seq (.v (.block (.loop ⟨[(1,.i),(2,.p 0 6),(4,.p 1 6),(5,.p 2 6),(6,.i)],[.s false .sym,.g [.nil,.nil,.i,.nil,.nil,.i],.g [.own 3,.rows false .poly,.i,.rows false .mono,.rows false .mono,.i],.rows true .ev]⟩ .u))) (.v (.v (.v (.seq (.v (.block (.v (.cut ⟨[(4,.p 0 6),(5,.p 1 6)],[.g [.nil,.nil,.i,.nil,.nil,.i],.g [.own 2,.own 3,.i,.own 4,.own 5,.i],.rows true .ev,.rows true .poly,.rows true .mono,.rows true .mono]⟩ (.cond .u (.seq (.v (.cut ⟨[(1,.i),(4,.p 0 6),(5,.p 1 6),(85,.b)],[.g [.nil,.nil,.i,.nil,.nil,.i],.g [.own 2,.own 3,.i,.own 4,.own 5,.i],.rows true .ev,.rows true .poly,.rows true .mono,.rows true .mono]⟩ (.cond .u .u))) .u)))))) .u))))))))) H7 Tryz.f63 [(108,⟨_,jP⟩),(107,⟨_,dN⟩),(60,⟨_,bA⟩),(109,⟨_,qF⟩),(110,⟨_,JR⟩),(59,⟨_,jR⟩)] (VQ A.al jP.pre jP.fn dN.pre dN.fn bA.pre bA.fn qF.pre qF.fn JR.pre JR.fn jR.pre jR.fn):=fun _=>by kernel_rfl
theorem ank (A:Alg) (bK:Ct A.ah fE) (iy:Ct A.ah kN) (qE:Ct A.ah vX) (JU:Ct A.ah H7) (qG:Ct A.ah vT) (JV:Ct A.ah G6) (bA:Ct A.ah dQ) (JW:Ct A.ah G7) (JX:Ct A.ah Hu) (jQ:Ct A.ah nZ) (JY:Ct A.ah Hy) (JZ:Ct A.ah Hz) (J2:Ct A.ah G8) (jR:Ct A.ah oh) (J3:Ct A.ah HV) (J4:Ct A.ah HZ): @Ru ⟨[116],[]⟩ X E A [(25,[od 0 [7],od 1 [110],od 2 [15],od 3 [16],od 4 [17],od 5 [9],(6,([112,113,114,115],[1])),(7,([116],[1])),od 8 [111,117],od 9 [7],od 10 [118,119]]),(40,[od 0 [6],od 1 [7],od 2 [3],od 3 [175],od 4 [3],od 5 [177],od 6 [176,178],(7,([174,179],[0])),od 8 [4,173],od 9 [5,180]])] (.v (.v (.v (.v (.v (.seq (.v (.block (.loop ⟨[(3,.p 0 7),(4,.p 1 1),(5,.p 2 6),(6,.p 3 1),(7,.p 4 6),(9,.o 5),(10,.i)],[.s false .blk,.g [.nil],.g [.nil,.nil,.i,.nil,.nil,.i],.g [.own 6],.g [.nil,.nil,.i,.nil,.nil,.i],.rows true .poly,.rows true .atom]⟩ .u))) (.v (.seq (.v (.block (.loop ⟨[(3,.p 0 7),(4,.p 1 1),(5,.p 2 6),(6,.p 3 1),(7,.p 4 6),(9,.o 5),(13,.o 6),(14,.i)],[.s false .blk,.g [.nil],.g [.nil,.nil,.i,.nil,.nil,.i],.g [.own 7],.g [.own 8,.nil,.i,.nil,.nil,.i],.rows false .poly,.rows false .poly,.rows true .atom,.rows true .ev]⟩ (.v (.seq (.block (.v (.v (.v (.v (.seq (.v (.block (.v (.cut ⟨[(3,.p 0 7),(4,.p 1 1),(5,.p 2 6),(6,.p 3 1),(7,.p 4 6),(9,.o 5),(13,.o 6),(14,.i),(18,.p 7 1)],[.s false .blk,.g [.nil],.g [.nil,.nil,.i,.nil,.nil,.i],.g [.own 8],.g [.own 9,.nil,.i,.nil,.nil,.i],.rows false .poly,.rows false .poly,.s false .poly,.rows true .atom,.rows true .ev]⟩ (.cond .u (.v (.cut ⟨[(3,.p 0 7),(4,.p 1 1),(5,.p 2 6),(6,.p 3 1),(7,.p 4 6),(9,.o 5),(13,.o 6),(14,.i),(18,.p 7 1)],[.s false .blk,.g [.nil],.g [.nil,.nil,.i,.nil,.nil,.i],.g [.own 8],.g [.own 9,.nil,.i,.nil,.nil,.i],.rows false .poly,.rows false .poly,.s false .poly,.rows true .atom,.rows true .ev]⟩ (.cond .u (.v (.cut ⟨[(3,.p 0 7),(4,.p 1 1),(5,.p 2 6),(6,.p 3 1),(7,.p 4 6),(9,.o 5),(13,.o 6),(14,.i),(18,.p 7 1)],[.s false .blk,.g [.nil],.g [.nil,.nil,.i,.nil,.nil,.i],.g [.own 8],.g [.own 9,.nil,.i,.nil,.nil,.i],.rows false .poly,.rows false .poly,.g [.own 10],.rows true .atom,.rows true .ev,.rows true .mono]⟩ (.cond .u (.v (.cut ⟨[(3,.p 0 7),(4,.p 1 1),(5,.p 2 6),(6,.p 3 1),(7,.p 4 6),(9,.o 5),(13,.o 6),(14,.i),(18,.p 7 1)],[.s false .blk,.g [.nil],.g [.nil,.nil,.i,.nil,.nil,.i],.g [.own 8],.g [.own 9,.nil,.i,.nil,.nil,.i],.rows false .poly,.rows false .poly,.g [.own 10],.rows true .atom,.rows true .ev,.rows true .mono]⟩ (.cond .u (.seq (.v (.cut ⟨[(3,.p 0 7),(4,.p 1 1),(5,.p 2 6),(6,.p 3 1),(7,.p 4 6),(9,.o 5),(13,.o 6),(14,.i),(15,.p 7 5),(16,.p 8 1),(17,.p 9 1),(18,.p 10 1)],[.s false .blk,.g [.nil],.g [.nil,.nil,.i,.nil,.nil,.i],.g [.own 11],.g [.own 12,.nil,.i,.nil,.nil,.i],.rows false .poly,.rows false .poly,.s false .iop,.s false .poly,.s false .poly,.g [.own 13],.rows true .atom,.rows true .ev,.rows true .mono]⟩ (.cond .u .u))) .u))))))))))))))) .u)))))) .u))))) .u)))))))) H8 Tryz.f25 [(22,⟨_,bK⟩),(50,⟨_,iy⟩),(55,⟨_,qE⟩),(63,⟨_,JU⟩),(24,⟨_,qG⟩),(51,⟨_,JV⟩),(60,⟨_,bA⟩),(52,⟨_,JW⟩),(56,⟨_,JX⟩),(53,⟨_,jQ⟩),(57,⟨_,JY⟩),(58,⟨_,JZ⟩),(54,⟨_,J2⟩),(59,⟨_,jR⟩),(61,⟨_,J3⟩),(62,⟨_,J4⟩)] (VR A.al bK.pre bK.fn iy.pre iy.fn qE.pre qE.fn JU.pre JU.fn qG.pre qG.fn JV.pre JV.fn bA.pre bA.fn JW.pre JW.fn JX.pre JX.fn jQ.pre jQ.fn JY.pre JY.fn JZ.pre JZ.fn J2.pre J2.fn jR.pre jR.fn J3.pre J3.fn J4.pre J4.fn):=fun _=>by kernel_rfl
theorem anl (A:Alg) (bR:Ct A.ah gB): @Ru ay.z X E A [(6,[od 0 [0],od 1 [5],od 2 [17,18],od 3 [19],od 4 [1],od 5 [5],od 6 [21,22],od 7 [23],od 8 [20,24],od 9 [25]])] (.v (.v (.seq (.v (.block (.loop ⟨[(0,.r false .poly),(1,.r false .poly),(5,.i)],[]⟩ .u))) .u))) wu Tryz.f64 [(65,⟨_,bR⟩)] (VW A.al bR.pre bR.fn):=fun _=>by kernel_rfl
theorem anm (A:Alg) (bR:Ct A.ah gB) (qH:Ct A.ah wu): @Ru ay.z X E A [] .u H9 Tryz.f66 [(65,⟨_,bR⟩),(64,⟨_,qH⟩)] (VX A.al bR.pre bR.fn qH.pre qH.fn):=fun _=>by kernel_rfl
theorem ano (A:Alg) (bR:Ct A.ah gB) (J5:Ct A.ah H9) (qH:Ct A.ah wu): @Ru ay.z X E A [(6,[od 0 [2],od 1 [58],od 2 [5],od 3 [59,60],od 4 [61],od 5 [3],od 6 [63],od 7 [5],od 8 [64,65],od 9 [66],od 10 [62,67],od 11 [68]])] (.v (.v (.seq (.v (.block (.loop ⟨[(2,.p 0 6),(3,.p 1 6),(5,.i)],[.s false .sym,.s false .sym]⟩ .u))) .u))) Ia Tryz.f26 [(65,⟨_,bR⟩),(66,⟨_,J5⟩),(64,⟨_,qH⟩)] (V3 A.al bR.pre bR.fn J5.pre J5.fn qH.pre qH.fn):=fun _=>by kernel_rfl
theorem anp (A:Alg) (bK:Ct A.ah fE) (J6:Ct A.ah GX) (qG:Ct A.ah vT) (J7:Ct A.ah H8) (J8:Ct A.ah Ia): @Ru ay.z X E A [] .u Ib Tryz.f7 [(22,⟨_,bK⟩),(23,⟨_,J6⟩),(24,⟨_,qG⟩),(25,⟨_,J7⟩),(26,⟨_,J8⟩)] (V4 A.al bK.pre bK.fn J6.pre J6.fn qG.pre qG.fn J7.pre J7.fn J8.pre J8.fn):=fun _=>by kernel_rfl
theorem au2 (A:Alg): @Ru ay.z X E A [] .u cB Tryz.f68 [] (acN A.al):=fun _=>by kernel_rfl
theorem au3 (A:Alg) (aW:Ct A.ah cB): @Ru ay.z X E A [] .u Ee Tryz.f75 [(68,⟨_,aW⟩)] (acO A.al aW.pre aW.fn):=fun _=>by kernel_rfl
theorem au4 (A:Alg) (aW:Ct A.ah cB): @Ru ay.z X E A [] .u lZ Tryz.f112 [(68,⟨_,aW⟩)] (acP A.al aW.pre aW.fn):=fun _=>by kernel_rfl
theorem au5 (A:Alg) (aW:Ct A.ah cB): @Ru ay.z X E A [] .u Ef Tryz.f113 [(68,⟨_,aW⟩)] (acQ A.al aW.pre aW.fn):=fun _=>by kernel_rfl
theorem au6 (A:Alg) (aW:Ct A.ah cB): @Ru ay.z X E A [] .u Eh Tryz.f114 [(68,⟨_,aW⟩)] (acR A.al aW.pre aW.fn):=fun _=>by kernel_rfl
theorem au7 (A:Alg) (aW:Ct A.ah cB): @Ru ay.z X E A [] .u QM Tryz.f145 [(68,⟨_,aW⟩)] (acS A.al aW.pre aW.fn):=fun _=>by kernel_rfl
theorem au8 (A:Alg) (RY:Ct A.ah QM) (aW:Ct A.ah cB): @Ru ay.z X E A [] .u Ei Tryz.f115 [(145,⟨_,RY⟩),(68,⟨_,aW⟩)] (acT A.al RY.pre RY.fn aW.pre aW.fn):=fun _=>by kernel_rfl
theorem au9 (A:Alg) (yX:Ct A.ah Ei) (yY:Ct A.ah Ee) (iN:Ct A.ah lZ) (aW:Ct A.ah cB) (yZ:Ct A.ah Eh) (y7:Ct A.ah Ef): @Ru ⟨[],[27,40]⟩ X E A [(5,[od 0 [],od 1 [5],od 2 [28],od 5 [5],od 6 [31],od 9 [5],od 10 [34],od 13 [5],od 14 [37],od 18 [5],od 19 [41],(3,([29],[6,10,14,19])),od 4 [27,30],(7,([32],[10,14,19])),od 8 [27,33],(11,([35],[14,19])),od 12 [27,36],(15,([38],[19])),od 16 [27,39],od 17 [27],od 20 [30,33,36,39,40,42],od 21 [43]])] .u QN Tryz.f69 [(115,⟨_,yX⟩),(75,⟨_,yY⟩),(112,⟨_,iN⟩),(68,⟨_,aW⟩),(114,⟨_,yZ⟩),(113,⟨_,y7⟩)] (acU A.al yX.pre yX.fn yY.pre yY.fn iN.pre iN.fn aW.pre aW.fn yZ.pre yZ.fn y7.pre y7.fn):=fun _=>by kernel_rfl
theorem ava (A:Alg): @Ru ay.z X E A [(1,[od 0 [1],od 1 [5],od 2 [6],od 3 [1],od 4 [8],od 5 [9],od 6 [1],od 7 [11],od 8 [12],od 9 [7],od 10 [10],od 11 [13]])] .u Ej Tryz.f81 [] (acZ A.al):=fun _=>by kernel_rfl
theorem avb (A:Alg) (y8:Ct A.ah Ej) (yX:Ct A.ah Ei) (iN:Ct A.ah lZ) (aW:Ct A.ah cB): @Ru ay.z X E A [] .u QO Tryz.f70 [(81,⟨_,y8⟩),(115,⟨_,yX⟩),(112,⟨_,iN⟩),(68,⟨_,aW⟩)] (ac0 A.al y8.pre y8.fn yX.pre yX.fn iN.pre iN.fn aW.pre aW.fn):=fun _=>by kernel_rfl
end Go.TX.Seat
