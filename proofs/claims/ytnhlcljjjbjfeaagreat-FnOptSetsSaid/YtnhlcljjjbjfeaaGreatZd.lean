/- Part 4 of a proof: what the last part needs. No condition. -/
import Derived.Test.YtnhlcljjjbjfeaaGreatZc
import Derived.Test.YtnhlcljjjbjfeaaGreatProg
import Derived.KernelRfl
set_option linter.all false
set_option linter.unusedSectionVars false
set_option linter.unusedVariables false
set_option linter.unusedSimpArgs false
namespace Go.TX.F
open Go Go.AE Go.TX
set_option maxRecDepth 100000
@[reducible] def Dz : Sig := ⟨[.c (.rows true .u8)], [], [.c (.pb 0 2 0)], [.box (.agg [.rows true .u8, .int .i64])]⟩
@[reducible] def fH : Sig := ⟨[.c (.pb 0 2 0), .c (.int .i64)], [.box (.agg [.rows true .u8, .int .i64])], [.c (.int .i64)], [.box (.agg [.rows true .u8, .int .i64])]⟩
@[reducible] def fJ : Sig := ⟨[.c (.int .i64), .c (.int .i64), .c (.int .i64)], [], [.c .bool], []⟩
@[reducible] def DC : Sig := ⟨[.c (.pb 0 2 0), .c (.int .i64)], [.box (.agg [.rows true .u8, .int .i64])], [.c .bool], [.box (.agg [.rows true .u8, .int .i64])]⟩
@[reducible] def DF : Sig := ⟨[.c (.int .i64)], [], [.c (.int .i64)], []⟩
@[reducible] def mI : Sig := ⟨[.c (.int .i64)], [], [.c .bool], []⟩
@[reducible] def DJ : Sig := ⟨[.c (.int .i64)], [], [.c .bool], []⟩
@[reducible] def tK : Sig := ⟨[.c (.rows false .iop), .c (.int .i64), .c (.int .i64)], [], [.c .bool], []⟩
@[reducible] def DK : Sig := ⟨[.c (.rows false .iop), .c (.int .i64), .c (.int .i64)], [], [.c .bool], []⟩
@[reducible] def DL : Sig := ⟨[.sv false .blk], [], [.c .bool], []⟩
@[reducible] def gJ : Sig := ⟨[.sv false .blk], [], [.c .bool], []⟩
@[reducible] def DN : Sig := ⟨[.c (.int .i64), .c (.int .i64), .c (.int .i64)], [], [.c (.int .i64)], []⟩
@[reducible] def mJ : Sig := ⟨[.sv false .blk], [], [.agg [.int .i64, .int .i64, .own 0, .int .i64, .int .i64, .int .i64, .int .i64]], [.rows true .iop]⟩
@[reducible] def tL : Sig := ⟨[.sv false .iop, .c (.rows false .i64)], [], [.sv true .iop], []⟩
@[reducible] def tN : Sig := ⟨[.sv false .blk], [], [.agg [.int .i64, .int .i64, .own 0, .int .i64, .int .i64, .int .i64, .int .i64]], [.rows true .iop]⟩
@[reducible] def tO : Sig := ⟨[.c (.rows false .iop), .c (.int .i64)], [], [.c (.int .i64), .c .bool], []⟩
@[reducible] def DR : Sig := ⟨[.sv false .blk, .c (.int .i64)], [], [.agg [.int .i64, .int .i64, .rows false .iop, .int .i64, .int .i64, .int .i64, .int .i64]], []⟩
@[reducible] def DT : Sig := ⟨[.sv false .blk], [], [.sv false .blk], []⟩
@[reducible] def DU : Sig := ⟨[.sv false .blk], [], [.sv false .blk], []⟩
@[reducible] def DV : Sig := ⟨[.c (.rows false .iop), .c (.int .i64)], [], [.c .bool], []⟩
@[reducible] def tQ : Sig := ⟨[.sv false .blk, .c (.rows false .bool)], [], [.agg [.int .i64, .int .i64, .own 0, .int .i64, .int .i64, .int .i64, .int .i64]], [.rows true .iop]⟩
@[reducible] def tT : Sig := ⟨[.sv false .blk], [], [.agg [.int .i64, .int .i64, .own 0, .int .i64, .int .i64, .int .i64, .int .i64]], [.rows true .iop]⟩
@[reducible] def DW : Sig := ⟨[.sv false .blk], [], [.c (.own 0)], [.rows true .bool]⟩
@[reducible] def DX : Sig := ⟨[.sv false .blk], [], [.agg [.int .i64, .int .i64, .own 0, .int .i64, .int .i64, .int .i64, .int .i64]], [.rows true .iop]⟩
@[reducible] def DY : Sig := ⟨[.sv false .blk], [], [.agg [.int .i64, .int .i64, .own 0, .int .i64, .int .i64, .int .i64, .int .i64]], [.rows true .iop]⟩
@[reducible] def DZ : Sig := ⟨[.c (.pb 0 2 0)], [.box (.agg [.rows true .u8, .int .i64])], [.agg [.int .i64, .int .i64, .int .i64, .int .i64]], [.box (.agg [.rows true .u8, .int .i64])]⟩
@[reducible] def D5 : Sig := ⟨[.sv false .ins], [], [.c .bool], []⟩
@[reducible] def tV : Sig := ⟨[.sv false .ins], [], [.c .bool], []⟩
@[reducible] def tX : Sig := ⟨[.c (.int .i64)], [], [.c .bool], []⟩
@[reducible] def tY : Sig := ⟨[.sv false .ins], [], [.c .bool], []⟩
@[reducible] def D6 : Sig := ⟨[.c (.pb 0 2 0)], [.box (.agg [.rows true .u8, .int .i64])], [.agg [.int .i64, .int .i64, .int .i64, .int .i64]], [.box (.agg [.rows true .u8, .int .i64])]⟩
@[reducible] def D7 : Sig := ⟨[.c (.pb 0 2 0)], [.box (.agg [.rows true .u8, .int .i64])], [.c (.own 1)], [.box (.agg [.rows true .u8, .int .i64]), .rows true .ins]⟩
@[reducible] def D8 : Sig := ⟨[.c (.int .i64), .c (.rows false .ins)], [], [.c .bool], []⟩
@[reducible] def iE : Sig := ⟨[.agg [.int .i64, .int .i64, .own 0, .int .i64, .int .i64, .int .i64, .int .i64], .sv false .iop], [.rows true .iop], [.agg [.int .i64, .int .i64, .own 1, .int .i64, .int .i64, .int .i64, .int .i64], .c (.int .i64)], [.gone, .rows true .iop]⟩
@[reducible] def tZ : Sig := ⟨[.agg [.int .i64, .int .i64, .own 0, .int .i64, .int .i64, .int .i64, .int .i64], .c (.int .i64), .c (.int .i64)], [.rows true .iop], [.agg [.int .i64, .int .i64, .own 1, .int .i64, .int .i64, .int .i64, .int .i64]], [.gone, .rows true .iop]⟩
@[reducible] def jF : Sig := ⟨[.agg [.int .i64, .int .i64, .own 0, .int .i64, .int .i64, .int .i64, .int .i64], .c (.int .i64)], [.rows true .iop], [.agg [.int .i64, .int .i64, .own 1, .int .i64, .int .i64, .int .i64, .int .i64], .c (.int .i64)], [.gone, .rows true .iop]⟩
@[reducible] def uf : Sig := ⟨[.agg [.int .i64, .int .i64, .own 0, .int .i64, .int .i64, .int .i64, .int .i64], .c (.int .i64), .c (.int .i64), .sv false .iop], [.rows true .iop], [.agg [.int .i64, .int .i64, .own 1, .int .i64, .int .i64, .int .i64, .int .i64], .c (.int .i64)], [.gone, .rows true .iop]⟩
@[reducible] def D9 : Sig := ⟨[.c (.int .i64)], [], [.c (.int .i64)], []⟩
@[reducible] def Ea : Sig := ⟨[.agg [.int .i64, .int .i64, .own 0, .int .i64, .int .i64, .int .i64, .int .i64], .sv false .ins, .c (.int .i64)], [.rows true .iop], [.agg [.int .i64, .int .i64, .own 1, .int .i64, .int .i64, .int .i64, .int .i64]], [.gone, .rows true .iop]⟩
@[reducible] def Eb : Sig := ⟨[.agg [.int .i64, .int .i64, .own 0, .int .i64, .int .i64, .int .i64, .int .i64], .sv false .ins], [.rows true .iop], [.agg [.int .i64, .int .i64, .own 1, .int .i64, .int .i64, .int .i64, .int .i64]], [.gone, .rows true .iop]⟩
@[reducible] def Ec : Sig := ⟨[.agg [.int .i64, .int .i64, .own 0, .int .i64, .int .i64, .int .i64, .int .i64], .sv false .ins, .c (.int .i64)], [.rows true .iop], [.agg [.int .i64, .int .i64, .own 1, .int .i64, .int .i64, .int .i64, .int .i64]], [.gone, .rows true .iop]⟩
@[reducible] def Ed : Sig := ⟨[.c (.int .i64), .c (.rows false .ins)], [], [.agg [.int .i64, .int .i64, .own 0, .int .i64, .int .i64, .int .i64, .int .i64]], [.rows true .iop]⟩
@[reducible] def Ee : Sig := ⟨[.c (.pb 0 2 0)], [.box (.agg [.rows true .u8, .int .i64])], [.agg [.int .i64, .int .i64, .own 1, .int .i64, .int .i64, .int .i64, .int .i64]], [.box (.agg [.rows true .u8, .int .i64]), .rows true .iop]⟩
@[reducible] def LK : Sig := ⟨[.c (.int .i64)], [], [.c .bool], []⟩
@[reducible] def Ef : Sig := ⟨[.c (.int .i64), .c (.int .i64)], [], [.c (.int .i64)], []⟩
@[reducible] def LM : Sig := ⟨[.c (.rows false .i64)], [], [.c (.int .i64)], []⟩
@[reducible] def LP : Sig := ⟨[.c (.rows false .i64), .c (.rows false .i64)], [], [.c (.int .i64)], []⟩
@[reducible] def nX : Sig := ⟨[.c (.rows false .i64), .c (.rows false .i64)], [], [.c (.int .i64)], []⟩
@[reducible] def bY : Sig := ⟨[.c (.int .i64), .c (.int .i64), .c (.int .i64)], [], [.c .bool], []⟩
@[reducible] def Eh : Sig := ⟨[.c (.int .i64), .c (.int .i64)], [], [.c .bool], []⟩
@[reducible] def Ei : Sig := ⟨[.c (.rows false .i64)], [], [.c .bool], []⟩
@[reducible] def LQ : Sig := ⟨[.c (.int .i64), .c (.pb 0 1 0)], [.box (.c (.int .i64))], [.c .bool], [.box (.c (.int .i64))]⟩
@[reducible] def Ej : Sig := ⟨[.c (.rows false .i64), .c (.fn 187 [(0, 1)])], [.box (.c (.int .i64))], [.c (.int .i64)], [.box (.c (.int .i64))]⟩
@[reducible] def El : Sig := ⟨[.c (.rows false .i64), .c (.fn 187 [(0, 1)])], [.box (.c (.int .i64))], [.c .bool], [.box (.c (.int .i64))]⟩
@[reducible] def AQ : Sig := ⟨[.sv false .poly, .c (.int .i64)], [], [.c .bool], []⟩
@[reducible] def LU : Sig := ⟨[.sv false .mono], [], [.c .bool], []⟩
@[reducible] def Em : Sig := ⟨[.c (.rows false .mono), .c (.fn 144 [])], [], [.c (.int .i64)], []⟩
@[reducible] def En : Sig := ⟨[.c (.rows false .mono), .c (.fn 144 [])], [], [.c .bool], []⟩
@[reducible] def iF : Sig := ⟨[.sv false .poly], [], [.c .bool], []⟩
@[reducible] def AU : Sig := ⟨[.sv false .poly], [], [.c (.int .i64), .c .bool], []⟩
@[reducible] def ug : Sig := ⟨[.sv false .poly, .sv false .poly], [], [.c (.int .i64)], []⟩
@[reducible] def AV : Sig := ⟨[.c (.rows false .i64)], [], [.c (.own 0)], [.rows true .i64]⟩
@[reducible] def uh : Sig := ⟨[.sv false .poly], [], [.agg [.own 0]], [.rows true .mono]⟩
@[reducible] def LW : Sig := ⟨[.c (.rows false .poly)], [], [.c (.own 0)], [.rows true .poly]⟩
@[reducible] def LY : Sig := ⟨[.sv false .sym], [], [.agg [.own 0, .own 1, .int .i64, .own 2, .own 3, .int .i64]], [.rows true .ev, .rows true .poly, .rows true .mono, .rows true .mono]⟩
@[reducible] def jl : Sig := ⟨[.sv false .poly, .sv false .poly], [], [.c .bool], []⟩
@[reducible] def jm : Sig := ⟨[.c (.int .i64)], [], [.c .bool], []⟩
@[reducible] def LZ : Sig := ⟨[.c (.int .i64), .c (.int .i64), .c (.int .i64)], [], [.c .bool], []⟩
@[reducible] def L6 : Sig := ⟨[.sv false .sym, .c (.int .i64)], [], [.sv true .sym], []⟩
@[reducible] def L8 : Sig := ⟨[], [], [.c .bool], []⟩
@[reducible] def Eo : Sig := ⟨[.c (.pb 0 2 0), .sv false .blk], [.box (.agg [.rows true .u8, .int .i64])], [.agg [.int .i64, .int .i64, .own 1, .int .i64, .int .i64, .int .i64, .int .i64]], [.box (.agg [.rows true .u8, .int .i64]), .rows true .iop]⟩
@[reducible] def Ep : Sig := ⟨[.c (.pb 0 2 0), .c (.int .i64)], [.box (.agg [.rows true .u8, .int .i64])], [.sv true .blk], [.box (.agg [.rows true .u8, .int .i64])]⟩
@[reducible] def AX : Sig := ⟨[.c (.int .i64)], [], [.c .bool], []⟩
@[reducible] def AY : Sig := ⟨[.c (.int .i64)], [], [.c .bool], []⟩
@[reducible] def AZ : Sig := ⟨[.sv false .atom, .c (.int .i64)], [], [.c .bool], []⟩
@[reducible] def L9 : Sig := ⟨[.sv false .atom, .sv false .atom], [], [.c .bool], []⟩
@[reducible] def Ma : Sig := ⟨[.sv false .atom, .c (.pb 0 4 0)], [.box (.sv false .atom)], [.c .bool], [.box (.sv false .atom)]⟩
@[reducible] def Er : Sig := ⟨[.c (.rows false .atom), .c (.fn 167 [(0, 4)])], [.box (.sv false .atom)], [.c (.int .i64)], [.box (.sv false .atom)]⟩
@[reducible] def A8 : Sig := ⟨[.sv false .tab, .sv false .atom], [], [.c (.int .i64)], []⟩
@[reducible] def Mc : Sig := ⟨[.sv false .tab], [], [.c .bool], []⟩
@[reducible] def uj : Sig := ⟨[.sv false .iop], [], [.c .bool, .c .bool, .c .bool, .c .bool], []⟩
@[reducible] def Md : Sig := ⟨[.sv false .iop], [], [.c .bool], []⟩
@[reducible] def A9 : Sig := ⟨[.sv false .blk, .c (.int .i64), .c (.int .i64)], [], [.c .bool], []⟩
@[reducible] def Me : Sig := ⟨[.sv false .blk, .c (.int .i64)], [], [.c .bool], []⟩
@[reducible] def um : Sig := ⟨[.sv false .blk], [], [.c .bool, .c .bool, .c .bool], []⟩
@[reducible] def Mf : Sig := ⟨[.sv false .blk], [], [.c .bool], []⟩
@[reducible] def uo : Sig := ⟨[.sv false .blk], [], [.c .bool], []⟩
@[reducible] def Mg : Sig := ⟨[.c (.rows true .atom)], [], [.c (.clip true .atom)], []⟩
@[reducible] def Ba : Sig := ⟨[.sv true .tab, .sv true .atom], [], [.sv true .tab, .c (.int .i64)], []⟩
@[reducible] def Bb : Sig := ⟨[.c (.int .i64)], [], [.agg [.own 0]], [.rows true .mono]⟩
@[reducible] def Bc : Sig := ⟨[.c (.pb 0 2 0), .c (.int .i64), .c (.int .i64)], [.box (.agg [.rows true .atom, .bool])], [.sv true .poly], [.box (.agg [.rows true .atom, .bool])]⟩
@[reducible] def Bd : Sig := ⟨[.c (.pb 0 2 0)], [.box (.agg [.rows true .atom, .bool])], [.c (.own 1)], [.box (.agg [.rows true .atom, .bool]), .rows true .poly]⟩
@[reducible] def Mh : Sig := ⟨[.sv false .iop], [], [.c .bool], []⟩
@[reducible] def Mi : Sig := ⟨[.c (.own 0)], [.rows true .poly], [.c (.own 1)], [.rows true .poly, .rows true .poly]⟩
@[reducible] def uw : Sig := ⟨[.c (.int .i64)], [], [.agg [.own 0]], [.rows true .mono]⟩
@[reducible] def uz : Sig := ⟨[.c (.int .i64)], [], [.c (.int .i64)], []⟩
@[reducible] def Mj : Sig := ⟨[.c (.int .i64), .c (.int .i64), .c (.int .i64)], [], [.c (.int .i64)], []⟩
@[reducible] def Bf : Sig := ⟨[.sv false .mono, .sv false .mono], [], [.c (.int .i64)], []⟩
@[reducible] def Es : Sig := ⟨[.c (.own 0), .c (.int .i64), .c (.int .i64), .c (.fn 224 [])], [.rows false .mono], [], [.rows false .mono]⟩
@[reducible] def Eu : Sig := ⟨[.c (.own 0), .c (.int .i64), .c (.int .i64), .c (.int .i64), .c (.fn 224 [])], [.rows false .mono], [], [.rows false .mono]⟩
@[reducible] def Ew : Sig := ⟨[.c (.own 0), .c (.int .i64), .c (.int .i64), .c (.int .i64), .c (.fn 224 [])], [.rows false .mono], [], [.rows false .mono]⟩
@[reducible] def mK : Sig := ⟨[.c (.own 0), .c (.int .i64), .c (.int .i64), .c (.int .i64), .c (.fn 224 [])], [.rows false .mono], [], [.rows false .mono]⟩
@[reducible] def Ey : Sig := ⟨[.c (.own 0), .c (.int .i64), .c (.fn 224 [])], [.rows false .mono], [], [.rows false .mono]⟩
@[reducible] def Ez : Sig := ⟨[.c (.own 0), .c (.fn 224 [])], [.rows false .mono], [], [.rows false .mono]⟩
@[reducible] def Bg : Sig := ⟨[.c (.own 0)], [.rows false .mono], [.agg [.own 1], .c .bool], [.rows false .mono, .rows true .mono]⟩
@[reducible] def EA : Sig := ⟨[.c (.nil), .c (.int .i64)], [], [.c (.own 0)], [.rows true .mono]⟩
@[reducible] def Mk : Sig := ⟨[.c (.rows false .poly)], [], [.c (.own 0)], [.rows false .mono]⟩
@[reducible] def Ml : Sig := ⟨[.sv false .poly, .sv false .poly], [], [.agg [.own 0], .c .bool], [.rows true .mono]⟩
@[reducible] def EB : Sig := ⟨[.c (.nil), .c (.int .i64)], [], [.c (.own 0)], [.rows true .i64]⟩
@[reducible] def Mq : Sig := ⟨[.c (.rows false .ints)], [], [.c (.own 0)], [.rows true .i64]⟩
@[reducible] def EC : Sig := ⟨[.c (.own 0), .c (.int .i64), .c (.int .i64)], [.rows true .i64], [], [.rows true .i64]⟩
@[reducible] def ED : Sig := ⟨[.c (.own 0), .c (.int .i64), .c (.int .i64)], [.rows true .i64], [], [.rows true .i64]⟩
@[reducible] def EF : Sig := ⟨[.c (.own 0), .c (.int .i64), .c (.int .i64)], [.rows true .i64], [], [.rows true .i64]⟩
@[reducible] def EG : Sig := ⟨[.c (.own 0), .c (.int .i64), .c (.int .i64)], [.rows true .i64], [.c (.int .i64), .c (.int .i64)], [.rows true .i64]⟩
@[reducible] def EH : Sig := ⟨[.c (.own 0), .c (.int .i64), .c (.int .i64)], [.rows true .i64], [], [.rows true .i64]⟩
@[reducible] def EI : Sig := ⟨[.c (.own 0), .c (.int .i64), .c (.int .i64)], [.rows true .i64], [.c .bool], [.rows true .i64]⟩
@[reducible] def EJ : Sig := ⟨[.c (.own 0), .c (.int .i64), .c (.int .i64), .c (.int .i64)], [.rows true .i64], [.c (.int .i64)], [.rows true .i64]⟩
@[reducible] def EK : Sig := ⟨[.c (.own 0), .c (.int .i64), .c (.int .i64), .c (.int .i64)], [.rows true .i64], [.c (.int .i64), .c .bool], [.rows true .i64]⟩
@[reducible] def oL : Sig := ⟨[.c (.own 0), .c (.int .i64), .c (.int .i64), .c (.int .i64)], [.rows true .i64], [], [.rows true .i64]⟩
@[reducible] def TM : Sig := ⟨[.c (.int .u64)], [], [.c (.int .i64)], []⟩
@[reducible] def EL : Sig := ⟨[.c (.own 0)], [.rows true .i64], [], [.rows true .i64]⟩
@[reducible] def Bh : Sig := ⟨[.sv false .poly, .sv false .poly], [], [.agg [.own 0], .c .bool], [.rows true .mono]⟩
@[reducible] def Mr : Sig := ⟨[.sv false .poly, .c (.int .i64)], [], [.agg [.own 0]], [.rows true .mono]⟩
@[reducible] def Ms : Sig := ⟨[.c (.int .i64), .sv true .poly, .sv true .poly], [], [.sv true .poly, .c .bool], []⟩
@[reducible] def Mt : Sig := ⟨[.sv true .tab, .c (.int .i64), .sv true .poly, .sv true .poly], [], [.sv true .tab, .sv true .poly, .c .bool], []⟩
@[reducible] def Bj : Sig := ⟨[.sv false .tab], [], [.agg [.own 0]], [.rows true .atom]⟩
@[reducible] def Mv : Sig := ⟨[.sv true .tab, .sv false .blk], [], [.sv true .tab, .sv true .sym], []⟩
@[reducible] def EM : Sig := ⟨[.c (.rows false .iop), .c (.rows false .iop)], [], [.c .bool], []⟩
@[reducible] def Mw : Sig := ⟨[.sv false .blk, .sv false .blk], [], [.c .bool], []⟩
@[reducible] def Mx : Sig := ⟨[], [], [.sv true .tab, .c (.rows true .poly)], []⟩
@[reducible] def MB : Sig := ⟨[.sv false .poly, .sv false .poly], [], [.c .bool], []⟩
@[reducible] def EN : Sig := ⟨[.c (.rows false .poly), .c (.rows false .poly), .c (.fn 191 [])], [], [.c .bool], []⟩
@[reducible] def Bn : Sig := ⟨[.c (.rows false .poly), .c (.rows false .poly)], [], [.c .bool], []⟩
@[reducible] def MC : Sig := ⟨[.sv false .ev, .sv false .ev], [], [.c .bool], []⟩
@[reducible] def EO : Sig := ⟨[.c (.rows false .ev), .c (.rows false .ev), .c (.fn 154 [])], [], [.c .bool], []⟩
@[reducible] def ME : Sig := ⟨[.sv false .sym, .sv false .sym], [], [.c .bool], []⟩
@[reducible] def WL : Sig := ⟨[.sv false .blk, .sv false .blk], [], [.c .bool], []⟩
@[reducible] def MF : Sig := ⟨[.sv false .blk, .sv false .blk], [], [.c .bool], []⟩
@[reducible] def EP : Sig := ⟨[.c (.rows true .u8)], [], [.sv true .blk], []⟩
@[reducible] def MG : Sig := ⟨[.c (.pb 0 7 0), .c (.rows false .i64)], [.box (.agg [.int .i64, .int .i64, .own 1, .int .i64, .int .i64, .int .i64, .int .i64]), .rows true .iop], [], [.box (.agg [.int .i64, .int .i64, .own 1, .int .i64, .int .i64, .int .i64, .int .i64]), .rows true .iop]⟩
@[reducible] def MH : Sig := ⟨[.sv false .blk, .c (.rows false .bool)], [], [.agg [.int .i64, .int .i64, .own 0, .int .i64, .int .i64, .int .i64, .int .i64]], [.rows true .iop]⟩
@[reducible] def MI : Sig := ⟨[.sv false .blk], [], [.sv false .blk], []⟩
@[reducible] def abU : Sig := ⟨[.c (.rows true .u8)], [], [.c .bool], []⟩
def Pv (A:Alg) (x:Tup A.ah [.l .u8]):Ot A Dz:=
 A.bind [.l .u8] (A.cond (A.cmp .gtr (A.len .u8 x.1) (A.lit 2000)) (A.chk (A.cmp .leq (A.lit 0) (A.lit 0))<|
 A.chk (A.cmp .leq (A.lit 0) (A.lit 2000))<|
 A.chk (A.cmp .leq (A.lit 2000) (A.len .u8 x.1))<|
 A.l1 (.l .u8) (A.sub .u8 x.1 (A.lit 0) (A.lit 2000)) fun x0=>
 A.ret _ (x0.1,()))<|
 A.ret _ (x.1,())) fun x0=>
 A.ret _ (x0.1,A.lit 0,())
def Pw (A:Alg) (x:Tup A.ah [.i,.l .u8,.i]):Ot A fH:=
 A.l1 .i (A.lit 0) fun x0=>
 A.l1 .i (A.arith .add .i64 x.2.2.1 (A.lit 1)) fun x1=>
 A.cond (A.ak (A.cmp .lss x.1 (A.lit 1)) (A.bl true) (A.cmp .eql (A.len .u8 x.2.1) (A.lit 0))) (A.l1 .i (A.lit 0) fun x2=>
 A.ret _ (x2.1,x.2.1,x1.1,()))<|
 A.l1 .i (A.arith .sub .i64 x1.1 (A.lit 1)) fun x2=>
 A.cond (A.cmp .lss x2.1 (A.len .u8 x.2.1)) (A.bd .u8 x.2.1 x2.1<|
 A.chk (A.cmp .neq x.1 (A.lit 0))<|
 A.l1 .i (A.arith .rem .i64 (A.conv .i64 (A.fI .u8 0 (A.get .u8 x.2.1 x2.1))) x.1) fun x3=>
 A.ret _ (x3.1,x.2.1,x1.1,()))<|
 A.chk (A.cmp .neq (A.len .u8 x.2.1) (A.lit 0))<|
 A.bd .u8 x.2.1 (A.arith .rem .i64 x2.1 (A.len .u8 x.2.1))<|
 A.chk (A.cmp .neq (A.len .u8 x.2.1) (A.lit 0))<|
 A.bd .u8 x.2.1 (A.arith .rem .i64 (A.arith .add .i64 (A.arith .mul .i64 x2.1 (A.lit 7)) (A.lit 3)) (A.len .u8 x.2.1))<|
 A.chk (A.cmp .neq (A.len .u8 x.2.1) (A.lit 0))<|
 A.l1 .i (A.arith .add .i64 (A.arith .add .i64 (A.arith .add .i64 (A.arith .mul .i64 (A.conv .i64 (A.fI .u8 0 (A.get .u8 x.2.1 (A.arith .rem .i64 x2.1 (A.len .u8 x.2.1))))) (A.lit 131)) (A.arith .mul .i64 (A.conv .i64 (A.fI .u8 0 (A.get .u8 x.2.1 (A.arith .rem .i64 (A.arith .add .i64 (A.arith .mul .i64 x2.1 (A.lit 7)) (A.lit 3)) (A.len .u8 x.2.1))))) (A.lit 1117))) (A.arith .mul .i64 x2.1 (A.lit 29))) (A.arith .mul .i64 (A.arith .quo .i64 x2.1 (A.len .u8 x.2.1)) (A.lit 53))) fun x3=>
 A.chk (A.cmp .neq (A.lit 64) (A.lit 0))<|
 A.l1 .i (A.arith .xor .i64 x3.1 (A.arith .quo .i64 x3.1 (A.lit 64))) fun x4=>
 A.chk (A.cmp .neq x.1 (A.lit 0))<|
 A.l1 .i (A.arith .rem .i64 x4.1 x.1) fun x5=>
 A.ret _ (x5.1,x.2.1,x1.1,())
def Px (A:Alg) (x:Tup A.ah [.i,.i,.i]):Ot A fJ:=
 A.l1 .b (A.bl false) fun x0=>
 A.rb (A.ak (A.cmp .geq x.1 x.2.1) (A.cmp .leq x.1 x.2.2.1) (A.bl false))
def Py (A:Alg) (aW:Pt A fH) (aX:Ft A fH) (x:Tup A.ah [.i,.l .u8,.i]):Ot A DC:=
 A.l1 .b (A.bl false) fun x0=>
 A.cl aW aX (x.1,x.2.1,x.2.2.1,()) fun x1=>
 A.l1 .b (A.cmp .eql x1.1 (A.arith .sub .i64 x.1 (A.lit 1))) fun x2=>
 A.ret _ (x2.1,x1.2.1,x1.2.2.1,())
def Pz (A:Alg) (x:Tup A.ah [.i]):Ot A DF:=
 A.l1 .i (A.lit 0) fun x0=>
 A.chk (A.cmp .neq (A.lit 65536) (A.lit 0))<|
 A.l1 .i (A.arith .rem .i64 x.1 (A.lit 65536)) fun x1=>
 A.bind [.i] (A.cond (A.cmp .lss x1.1 (A.lit 0)) (A.l1 .i (A.arith .add .i64 x1.1 (A.lit 65536)) fun x2=>
 A.ret _ (x2.1,()))<|
 A.ret _ (x1.1,())) fun x2=>
 A.l1 .i x2.1 fun x3=>
 A.ret _ (x3.1,())
def PD (A:Alg) (x:Tup A.ah [.i]):Ot A mI:=
 A.l1 .b (A.bl false) fun x0=>
 A.rb (A.ak (A.cmp .geq x.1 (A.lit 0)) (A.cmp .lss x.1 (A.lit 65536)) (A.bl false))
def PE (A:Alg) (fK:Pt A fJ) (fM:Ft A fJ) (x:Tup A.ah [.i]):Ot A DJ:=
 A.l1 .b (A.bl false) fun x0=>
 A.cl fK fM (x.1,A.lit 1,A.lit 4,()) fun x1=>
 A.rb (A.ak x1.1 (A.bl true) (A.cmp .eql x.1 (A.lit 6)))
def PG (A:Alg) (adF:Pt A DJ) (adG:Ft A DJ) (x:Tup A.ah [.l .iop,.i,.i]):Ot A tK:=
 A.l1 .b (A.bl false) fun x0=>
 A.chk (A.orB (A.aA (A.ak (A.cmp .geq x.2.1 (A.lit 0)) (A.cmp .lss x.2.1 x.2.2.1) (A.bl false))) (A.cmp .leq (A.lit 0) x.2.1))<|
 A.chk (A.orB (A.aA (A.ak (A.cmp .geq x.2.1 (A.lit 0)) (A.cmp .lss x.2.1 x.2.2.1) (A.bl false))) (A.cmp .lss x.2.1 (A.len .iop x.1)))<|
 A.cg (A.ak (A.cmp .geq x.2.1 (A.lit 0)) (A.cmp .lss x.2.1 x.2.2.1) (A.bl false)) adF adG (A.fI .iop 0 (A.get .iop x.1 x.2.1),()) fun x1=>
 A.rb (A.ak (A.ak (A.cmp .geq x.2.1 (A.lit 0)) (A.cmp .lss x.2.1 x.2.2.1) (A.bl false)) x1.1 (A.bl false))
def PI (A:Alg) (xO:Pt A mI) (xP:Ft A mI) (fK:Pt A fJ) (fM:Ft A fJ) (oM:Pt A tK) (oN:Ft A tK) (x:Tup A.ah [.l .iop,.i,.i]):Ot A DK:=
 A.l1 .b (A.bl false) fun x0=>
 A.bd .iop x.1 x.2.1<|
 A.l1 (.x .iop) (A.get .iop x.1 x.2.1) fun x1=>
 A.l1 .b (A.cmp .eql (A.fI .iop 0 x1.1) (A.lit 1)) fun x2=>
 A.cond x2.1 (A.cg (A.ak (A.cmp .eql (A.fI .iop 1 x1.1) (A.lit 0)) (A.cmp .eql (A.fI .iop 2 x1.1) (A.lit 0)) (A.bl false)) xO xP (A.fI .iop 3 x1.1,()) fun x3=>
 A.rb (A.ak (A.ak (A.ak (A.cmp .eql (A.fI .iop 1 x1.1) (A.lit 0)) (A.cmp .eql (A.fI .iop 2 x1.1) (A.lit 0)) (A.bl false)) x3.1 (A.bl false)) (A.cmp .eql (A.fI .iop 4 x1.1) (A.lit 0)) (A.bl false)))<|
 A.l1 .b (A.cmp .eql (A.fI .iop 0 x1.1) (A.lit 2)) fun x3=>
 A.cond x3.1 (A.cg (A.ak (A.cmp .eql (A.fI .iop 1 x1.1) (A.lit 0)) (A.cmp .eql (A.fI .iop 2 x1.1) (A.lit 0)) (A.bl false)) fK fM (A.fI .iop 3 x1.1,A.lit 0,A.lit 3,()) fun x4=>
 A.rb (A.ak (A.ak (A.ak (A.cmp .eql (A.fI .iop 1 x1.1) (A.lit 0)) (A.cmp .eql (A.fI .iop 2 x1.1) (A.lit 0)) (A.bl false)) x4.1 (A.bl false)) (A.cmp .eql (A.fI .iop 4 x1.1) (A.lit 0)) (A.bl false)))<|
 A.l1 .b (A.cmp .eql (A.fI .iop 0 x1.1) (A.lit 3)) fun x4=>
 A.cond x4.1 (A.cl oM oN (x.1,A.fI .iop 1 x1.1,x.2.1,()) fun x5=>
 A.cg x5.1 oM oN (x.1,A.fI .iop 2 x1.1,x.2.1,()) fun x6=>
 A.cg (A.ak x5.1 x6.1 (A.bl false)) fK fM (A.fI .iop 3 x1.1,A.lit 1,A.lit 5,()) fun x7=>
 A.rb (A.ak (A.ak (A.ak x5.1 x6.1 (A.bl false)) x7.1 (A.bl false)) (A.cmp .eql (A.fI .iop 4 x1.1) (A.lit 0)) (A.bl false)))<|
 A.l1 .b (A.cmp .eql (A.fI .iop 0 x1.1) (A.lit 4)) fun x5=>
 A.bind [.l .iop,.i,.i,.i,.b,.x .iop] (A.cond x5.1 (A.ret _ (x.1,x.2.1,x.2.2.1,A.fI .iop 0 x1.1,x5.1,x1.1,()))<|
 A.l1 .b (A.cmp .eql (A.fI .iop 0 x1.1) (A.lit 7)) fun x6=>
 A.ret _ (x.1,x.2.1,x.2.2.1,A.fI .iop 0 x1.1,x6.1,x1.1,())) fun x6=>
 A.cond x6.q.1 (A.cl oM oN (x6.1,A.fI .iop 1 x6.q.2.1,x6.2.1,()) fun x7=>
 A.cg (A.ak (A.ak x7.1 (A.cmp .eql (A.fI .iop 2 x6.q.2.1) (A.lit 0)) (A.bl false)) (A.cmp .eql (A.fI .iop 3 x6.q.2.1) (A.lit 0)) (A.bl false)) fK fM (A.fI .iop 4 x6.q.2.1,A.lit 0,A.arith .sub .i64 x6.2.2.1 (A.lit 1),()) fun x8=>
 A.rb (A.ak (A.ak (A.ak x7.1 (A.cmp .eql (A.fI .iop 2 x6.q.2.1) (A.lit 0)) (A.bl false)) (A.cmp .eql (A.fI .iop 3 x6.q.2.1) (A.lit 0)) (A.bl false)) x8.1 (A.bl false)))<|
 A.l1 .b (A.cmp .eql x6.2.2.2.1 (A.lit 5)) fun x7=>
 A.cond x7.1 (A.cl oM oN (x6.1,A.fI .iop 1 x6.q.2.1,x6.2.1,()) fun x8=>
 A.cg x8.1 oM oN (x6.1,A.fI .iop 2 x6.q.2.1,x6.2.1,()) fun x9=>
 A.cg (A.ak (A.ak x8.1 x9.1 (A.bl false)) (A.cmp .eql (A.fI .iop 3 x6.q.2.1) (A.lit 0)) (A.bl false)) fK fM (A.fI .iop 4 x6.q.2.1,A.lit 0,A.arith .sub .i64 x6.2.2.1 (A.lit 1),()) fun x10=>
 A.rb (A.ak (A.ak (A.ak x8.1 x9.1 (A.bl false)) (A.cmp .eql (A.fI .iop 3 x6.q.2.1) (A.lit 0)) (A.bl false)) x10.1 (A.bl false)))<|
 A.l1 .b (A.cmp .eql x6.2.2.2.1 (A.lit 6)) fun x8=>
 A.cond x8.1 (A.cg (A.ak (A.ak (A.cmp .eql (A.fI .iop 1 x6.q.2.1) (A.lit 0)) (A.cmp .eql (A.fI .iop 2 x6.q.2.1) (A.lit 0)) (A.bl false)) (A.cmp .eql (A.fI .iop 3 x6.q.2.1) (A.lit 0)) (A.bl false)) fK fM (A.fI .iop 4 x6.q.2.1,A.lit 0,A.arith .sub .i64 x6.2.2.1 (A.lit 1),()) fun x9=>
 A.rb (A.ak (A.ak (A.ak (A.cmp .eql (A.fI .iop 1 x6.q.2.1) (A.lit 0)) (A.cmp .eql (A.fI .iop 2 x6.q.2.1) (A.lit 0)) (A.bl false)) (A.cmp .eql (A.fI .iop 3 x6.q.2.1) (A.lit 0)) (A.bl false)) x9.1 (A.bl false)))<|
 A.l1 .b (A.cmp .eql x6.2.2.2.1 (A.lit 8)) fun x9=>
 A.cond x9.1 (A.cl oM oN (x6.1,A.fI .iop 1 x6.q.2.1,x6.2.1,()) fun x10=>
 A.cg (A.ak x10.1 (A.cmp .eql (A.fI .iop 2 x6.q.2.1) (A.lit 0)) (A.bl false)) fK fM (A.fI .iop 3 x6.q.2.1,A.lit 0,A.lit 3,()) fun x11=>
 A.rb (A.ak (A.ak (A.ak x10.1 (A.cmp .eql (A.fI .iop 2 x6.q.2.1) (A.lit 0)) (A.bl false)) x11.1 (A.bl false)) (A.cmp .eql (A.fI .iop 4 x6.q.2.1) (A.lit 0)) (A.bl false)))<|
 A.rb (A.bl false)
def PK (A:Alg) (xO:Pt A mI) (xP:Ft A mI) (oM:Pt A tK) (oN:Ft A tK) (x:Tup A.ah [.x .blk]):Ot A DL:=
 A.l1 .b (A.bl false) fun x0=>
 A.l1 .i (A.len .iop (A.fL .blk 2 .iop x.1)) fun x1=>
 A.l1 .b (A.cmp .eql (A.fI .blk 3 x.1) (A.lit 1)) fun x2=>
 A.cond x2.1 (A.cg (A.ak (A.cmp .eql (A.fI .blk 4 x.1) (A.lit 0)) (A.cmp .eql (A.fI .blk 5 x.1) (A.lit 0)) (A.bl false)) xO xP (A.fI .blk 6 x.1,()) fun x3=>
 A.rb (A.ak (A.ak (A.cmp .eql (A.fI .blk 4 x.1) (A.lit 0)) (A.cmp .eql (A.fI .blk 5 x.1) (A.lit 0)) (A.bl false)) x3.1 (A.bl false)))<|
 A.l1 .b (A.cmp .eql (A.fI .blk 3 x.1) (A.lit 2)) fun x3=>
 A.cond x3.1 (A.cl oM oN (A.fL .blk 2 .iop x.1,A.fI .blk 4 x.1,x1.1,()) fun x4=>
 A.rb (A.ak (A.ak x4.1 (A.cmp .eql (A.fI .blk 5 x.1) (A.lit 0)) (A.bl false)) (A.cmp .eql (A.fI .blk 6 x.1) (A.lit 0)) (A.bl false)))<|
 A.l1 .b (A.cmp .eql (A.fI .blk 3 x.1) (A.lit 3)) fun x4=>
 A.bind [.i,.b,.x .blk] (A.cond x4.1 (A.ret _ (x1.1,x4.1,x.1,()))<|
 A.l1 .b (A.cmp .eql (A.fI .blk 3 x.1) (A.lit 4)) fun x5=>
 A.ret _ (x1.1,x5.1,x.1,())) fun x5=>
 A.cond x5.2.1 (A.cl oM oN (A.fL .blk 2 .iop x5.2.2.1,A.fI .blk 4 x5.2.2.1,x5.1,()) fun x6=>
 A.cg x6.1 oM oN (A.fL .blk 2 .iop x5.2.2.1,A.fI .blk 5 x5.2.2.1,x5.1,()) fun x7=>
 A.cg (A.ak x6.1 x7.1 (A.bl false)) xO xP (A.fI .blk 6 x5.2.2.1,()) fun x8=>
 A.rb (A.ak (A.ak x6.1 x7.1 (A.bl false)) x8.1 (A.bl false)))<|
 A.rb (A.bl false)
def PL (A:Alg) (fK:Pt A fJ) (fM:Ft A fJ) (adH:Pt A DL) (adI:Ft A DL) (adJ:Pt A DK) (adK:Ft A DK) (x:Tup A.ah [.x .blk]):Ot A gJ:=
 A.l1 .b (A.bl false) fun x0=>
 A.cl fK fM (A.fI .blk 1 x.1,A.lit 1,A.lit 8,()) fun x1=>
 A.cg (A.aA (A.aA x1.1)) fK fM (A.fI .blk 0 x.1,A.lit 0,A.arith .sub .i64 (A.lit 64) (A.fI .blk 1 x.1),()) fun x2=>
 A.cond (A.ak (A.ak (A.aA x1.1) (A.bl true) (A.aA x2.1)) (A.bl true) (A.cmp .gtr (A.len .iop (A.fL .blk 2 .iop x.1)) (A.lit 48))) (A.rb (A.bl false))<|
 A.l1 .i (A.lit 0) fun x3=>
 A.iter [.i,.x .blk] (fun x4=>
 A.cond (A.cmp .lss x4.1 (A.len .iop (A.fL .blk 2 .iop x4.2.1))) (A.cl adJ adK (A.fL .blk 2 .iop x4.2.1,x4.1,A.fI .blk 1 x4.2.1,()) fun x5=>
 A.cond (A.aA x5.1) (A.l1 .b (A.bl false) fun x6=>
 A.inr _<|A.ret _ (x6.1,()))<|
 A.l1 .i (A.arith .add .i64 x4.1 (A.lit 1)) fun x6=>
 A.inl _ (x6.1,x4.2.1,()))<|
 A.inr _<|A.cl adH adI (x4.2.1,()) fun x5=>
 A.rb x5.1) (x3.1,x.1,())
def PN (A:Alg) (PO:Pt A DF) (PS:Ft A DF) (xO:Pt A mI) (xP:Ft A mI) (x:Tup A.ah [.i,.i,.i]):Ot A DN:=
 A.l1 .i (A.lit 0) fun x0=>
 A.cl xO xP (x.2.1,()) fun x1=>
 A.cg (A.aA (A.aA x1.1)) xO xP (x.2.2.1,()) fun x2=>
 A.cond (A.ak (A.aA x1.1) (A.bl true) (A.aA x2.1)) (A.l1 .i (A.lit 0) fun x3=>
 A.ret _ (x3.1,()))<|
 A.l1 .b (A.cmp .eql x.1 (A.lit 1)) fun x3=>
 A.cond x3.1 (A.cl PO PS (A.arith .add .i64 x.2.1 x.2.2.1,()) fun x4=>
 A.l1 .i x4.1 fun x5=>
 A.ret _ (x5.1,()))<|
 A.l1 .b (A.cmp .eql x.1 (A.lit 2)) fun x4=>
 A.cond x4.1 (A.cl PO PS (A.arith .sub .i64 x.2.1 x.2.2.1,()) fun x5=>
 A.l1 .i x5.1 fun x6=>
 A.ret _ (x6.1,()))<|
 A.l1 .b (A.cmp .eql x.1 (A.lit 3)) fun x5=>
 A.cond x5.1 (A.cl PO PS (A.arith .mul .i64 x.2.1 x.2.2.1,()) fun x6=>
 A.l1 .i x6.1 fun x7=>
 A.ret _ (x7.1,()))<|
 A.l1 .b (A.cmp .eql x.1 (A.lit 4)) fun x6=>
 A.cond x6.1 (A.l1 .i (A.arith .and .i64 x.2.1 x.2.2.1) fun x7=>
 A.ret _ (x7.1,()))<|
 A.l1 .b (A.cmp .eql x.1 (A.lit 5)) fun x7=>
 A.cond x7.1 (A.l1 .i (A.arith .xor .i64 x.2.1 x.2.2.1) fun x8=>
 A.ret _ (x8.1,()))<|
 A.l1 .i (A.lit 0) fun x8=>
 A.ret _ (x8.1,())
def PU (A:Alg) (x:Tup A.ah [.x .blk]):Ot A mJ:=
 A.l1 (.x .blk) x.1 fun x0=>
 A.l1 (.l .iop) (A.lst .iop []) fun x1=>
 A.chk (A.cmp .leq (A.addN (A.len .iop x1.1) (A.len .iop (A.fL .blk 2 .iop x.1))) (A.lit 1073741824))<|
 A.l1 (.l .iop) (A.app .iop x1.1 (A.fL .blk 2 .iop x.1)) fun x2=>
 A.ret _ (A.fI .blk 0 x0.1,A.fI .blk 1 x0.1,A.fI .blk 3 x0.1,A.fI .blk 4 x0.1,A.fI .blk 5 x0.1,A.fI .blk 6 x0.1,x2.1,())
def PW (A:Alg) (fK:Pt A fJ) (fM:Ft A fJ) (x:Tup A.ah [.x .iop,.l .i64]):Ot A tL:=
 A.l1 (.x .iop) x.1 fun x0=>
 A.cl fK fM (A.fI .iop 0 x.1,A.lit 3,A.lit 5,()) fun x1=>
 A.bind [.l .i64,.x .iop,.i,.i,.i,.i,.i,.x .iop] (A.cond (A.ak (A.ak x1.1 (A.bl true) (A.cmp .eql (A.fI .iop 0 x.1) (A.lit 7))) (A.bl true) (A.cmp .eql (A.fI .iop 0 x.1) (A.lit 8))) (A.bd .i64 x.2.1 (A.fI .iop 1 x.1)<|
 A.l1 .i (A.fI .i64 0 (A.get .i64 x.2.1 (A.fI .iop 1 x.1))) fun x2=>
 A.ret _ (x.2.1,x.1,A.lit 0,A.lit 0,A.lit 0,A.lit 0,A.lit 0,A.mkX .iop (A.fI .iop 0 x0.1,x2.1,A.fI .iop 2 x0.1,A.fI .iop 3 x0.1,A.fI .iop 4 x0.1,()),()))<|
 A.ret _ (x.2.1,x.1,A.lit 0,A.lit 0,A.lit 0,A.lit 0,A.lit 0,x0.1,())) fun x2=>
 A.bind [.i,.i,.i,.i,.i,.x .iop] (A.cond (A.ak (A.cmp .eql (A.fI .iop 0 x2.2.1) (A.lit 3)) (A.bl true) (A.cmp .eql (A.fI .iop 0 x2.2.1) (A.lit 5))) (A.bd .i64 x2.1 (A.fI .iop 2 x2.2.1)<|
 A.l1 .i (A.fI .i64 0 (A.get .i64 x2.1 (A.fI .iop 2 x2.2.1))) fun x3=>
 A.ret _ (x2.2.2.1,x2.2.2.2.1,x2.q.1,x2.q.2.1,x2.q.2.2.1,A.mkX .iop (A.fI .iop 0 x2.q.2.2.2.1,A.fI .iop 1 x2.q.2.2.2.1,x3.1,A.fI .iop 3 x2.q.2.2.2.1,A.fI .iop 4 x2.q.2.2.2.1,()),()))<|
 A.ret _ (x2.2.2.1,x2.2.2.2.1,x2.q.1,x2.q.2.1,x2.q.2.2.1,x2.q.2.2.2.1,())) fun x3=>
 A.l1 (.x .iop) x3.q.2.1 fun x4=>
 A.ret _ (x4.1,())
def PX (A:Alg) (mM:Pt A gJ) (mO:Ft A gJ) (PY:Pt A tL) (PZ:Ft A tL) (ER:Pt A mJ) (ET:Ft A mJ) (x:Tup A.ah [.x .blk]):Ot A tN:=
 A.cl mM mO (x.1,()) fun x0=>
 A.cond (A.aA x0.1) (A.ret _ (A.lit 0,A.lit 0,A.lit 0,A.lit 0,A.lit 0,A.lit 0,A.bQ .iop,()))<|
 A.cl ER ET (x.1,()) fun x1=>
 A.l1 (.l .i64) (A.lst .i64 []) fun x2=>
 A.l1 (.l .i64) (A.lst .i64 [A.mkX .i64 (A.lit (-1),()),A.mkX .i64 (A.lit (-1),()),A.mkX .i64 (A.lit (-1),()),A.mkX .i64 (A.lit (-1),())]) fun x3=>
 A.l1 .i (A.lit 0) fun x4=>
 A.iter [.i,.i,.i,.i,.i,.i,.i,.i,.i,.i,.i,.i,.i,.l .i64,.l .i64,.l .iop] (fun x5=>
 A.cond (A.cmp .lss x5.1 (A.len .iop x5.o.q.2.2.2.1)) (A.bd .iop x5.o.q.2.2.2.1 x5.1<|
 A.bd .iop x5.o.q.2.2.2.1 x5.1<|
 A.cl PY PZ (A.get .iop x5.o.q.2.2.2.1 x5.1,x5.o.q.2.1,()) fun x6=>
 A.l1 (.x .iop) x6.1 fun x7=>
 A.bd .iop x5.o.q.2.2.2.1 x5.1<|
 A.bd .iop x5.o.q.2.2.2.1 x5.1<|
 A.l1 (.x .iop) x7.1 fun x8=>
 A.l1 .i x5.1 fun x9=>
 A.chk (A.orB (A.aA (A.cmp .eql (A.fI .iop 0 x7.1) (A.lit 2))) (A.cmp .leq (A.lit 0) (A.fI .iop 3 x7.1)))<|
 A.chk (A.orB (A.aA (A.cmp .eql (A.fI .iop 0 x7.1) (A.lit 2))) (A.cmp .lss (A.fI .iop 3 x7.1) (A.len .i64 x5.o.q.2.2.1)))<|
 A.chk (A.orB (A.aA (A.cmp .eql (A.fI .iop 0 x7.1) (A.lit 2))) (A.cmp .leq (A.lit 0) (A.fI .iop 3 x7.1)))<|
 A.chk (A.orB (A.aA (A.cmp .eql (A.fI .iop 0 x7.1) (A.lit 2))) (A.cmp .lss (A.fI .iop 3 x7.1) (A.len .i64 x5.o.q.2.2.1)))<|
 A.bind [.i,.i,.i,.i,.i,.i,.i,.i,.i,.i,.i,.i,.i,.i,.l .i64,.l .i64,.x .iop,.l .iop] (A.cond (A.ak (A.cmp .eql (A.fI .iop 0 x7.1) (A.lit 2)) (A.cmp .geq (A.fI .i64 0 (A.get .i64 x5.o.q.2.2.1 (A.fI .iop 3 x7.1))) (A.lit 0)) (A.bl false)) (A.bd .i64 x5.o.q.2.2.1 (A.fI .iop 3 x7.1)<|
 A.bd .i64 x5.o.q.2.2.1 (A.fI .iop 3 x7.1)<|
 A.l1 .i (A.fI .i64 0 (A.get .i64 x5.o.q.2.2.1 (A.fI .iop 3 x7.1))) fun x10=>
 A.ret _ (x5.1,x10.1,x5.2.1,x5.2.2.1,x5.2.2.2.1,x5.q.1,x5.q.2.1,x5.q.2.2.1,x5.q.2.2.2.1,x5.o.1,x5.o.2.1,x5.o.2.2.1,x5.o.2.2.2.1,x5.o.q.1,x5.o.q.2.1,x5.o.q.2.2.1,x7.1,A.set .iop x5.o.q.2.2.2.1 x5.1 x8.1,()))<|
 A.ret _ (x5.1,x9.1,x5.2.1,x5.2.2.1,x5.2.2.2.1,x5.q.1,x5.q.2.1,x5.q.2.2.1,x5.q.2.2.2.1,x5.o.1,x5.o.2.1,x5.o.2.2.1,x5.o.2.2.2.1,x5.o.q.1,x5.o.q.2.1,x5.o.q.2.2.1,x7.1,A.set .iop x5.o.q.2.2.2.1 x5.1 x8.1,())) fun x10=>
 A.bind [.i,.i,.i,.i,.i,.i,.i,.i,.i,.i,.i,.i,.i,.i,.l .i64,.l .i64,.x .iop,.l .iop] (A.cond (A.cmp .eql (A.fI .iop 0 x10.o.o.1) (A.lit 2)) (A.bd .i64 x10.o.q.2.2.2.1 (A.fI .iop 3 x10.o.o.1)<|
 A.bd .i64 x10.o.q.2.2.2.1 (A.fI .iop 3 x10.o.o.1)<|
 A.l1 .i x10.2.1 fun x11=>
 A.ret _ (x10.1,x10.2.1,x10.2.2.1,x10.2.2.2.1,x10.q.1,x10.q.2.1,x10.q.2.2.1,x10.q.2.2.2.1,x10.o.1,x10.o.2.1,x10.o.2.2.1,x10.o.2.2.2.1,x10.o.q.1,x10.o.q.2.1,x10.o.q.2.2.1,A.set .i64 x10.o.q.2.2.2.1 (A.fI .iop 3 x10.o.o.1) (A.mkX .i64 (x11.1,())),x10.o.o.1,x10.o.o.2.1,()))<|
 A.ret _ (x10.1,x10.2.1,x10.2.2.1,x10.2.2.2.1,x10.q.1,x10.q.2.1,x10.q.2.2.1,x10.q.2.2.2.1,x10.o.1,x10.o.2.1,x10.o.2.2.1,x10.o.2.2.2.1,x10.o.q.1,x10.o.q.2.1,x10.o.q.2.2.1,x10.o.q.2.2.2.1,x10.o.o.1,x10.o.o.2.1,())) fun x11=>
 A.bind [.i,.i,.i,.i,.i,.i,.i,.i,.i,.i,.i,.i,.i,.i,.l .i64,.l .i64,.l .iop] (A.cond (A.cmp .eql (A.fI .iop 0 x11.o.o.1) (A.lit 8)) (A.bd .i64 x11.o.q.2.2.2.1 (A.fI .iop 3 x11.o.o.1)<|
 A.bd .i64 x11.o.q.2.2.2.1 (A.fI .iop 3 x11.o.o.1)<|
 A.l1 .i (A.fI .iop 1 x11.o.o.1) fun x12=>
 A.ret _ (x11.1,x11.2.1,x11.2.2.1,x11.2.2.2.1,x11.q.1,x11.q.2.1,x11.q.2.2.1,x11.q.2.2.2.1,x11.o.1,x11.o.2.1,x11.o.2.2.1,x11.o.2.2.2.1,x11.o.q.1,x11.o.q.2.1,x11.o.q.2.2.1,A.set .i64 x11.o.q.2.2.2.1 (A.fI .iop 3 x11.o.o.1) (A.mkX .i64 (x12.1,())),x11.o.o.2.1,()))<|
 A.ret _ (x11.1,x11.2.1,x11.2.2.1,x11.2.2.2.1,x11.q.1,x11.q.2.1,x11.q.2.2.1,x11.q.2.2.2.1,x11.o.1,x11.o.2.1,x11.o.2.2.1,x11.o.2.2.2.1,x11.o.q.1,x11.o.q.2.1,x11.o.q.2.2.1,x11.o.q.2.2.2.1,x11.o.o.2.1,())) fun x12=>
 A.l1 (.l .i64) (A.lst .i64 [A.mkX .i64 (x12.2.1,())]) fun x13=>
 A.chk (A.cmp .leq (A.addN (A.len .i64 x12.o.q.2.2.1) (A.len .i64 x13.1)) (A.lit 1073741824))<|
 A.l1 (.l .i64) (A.app .i64 x12.o.q.2.2.1 x13.1) fun x14=>
 A.l1 .i (A.arith .add .i64 x12.1 (A.lit 1)) fun x15=>
 A.inl _ (x15.1,x12.2.2.1,x12.2.2.2.1,x12.q.1,x12.q.2.1,x12.q.2.2.1,x12.q.2.2.2.1,x12.o.1,x12.o.2.1,x12.o.2.2.1,x12.o.2.2.2.1,x12.o.q.1,x12.o.q.2.1,x14.1,x12.o.q.2.2.2.1,x12.o.o.1,()))<|
 A.inr _<|A.bind [.i,.i,.i,.i,.i,.i,.i,.i,.i,.i,.i,.i,.l .i64,.l .iop] (A.cond (A.cmp .neq x5.o.2.1 (A.lit 1)) (A.bd .i64 x5.o.q.2.1 x5.o.2.2.1<|
 A.bd .i64 x5.o.q.2.1 x5.o.2.2.1<|
 A.l1 .i (A.fI .i64 0 (A.get .i64 x5.o.q.2.1 x5.o.2.2.1)) fun x6=>
 A.ret _ (x5.2.1,x5.2.2.1,x5.2.2.2.1,x5.q.1,x5.q.2.1,x5.q.2.2.1,x5.q.2.2.2.1,x5.o.1,x5.o.2.1,x6.1,x5.o.2.2.2.1,x5.o.q.1,x5.o.q.2.1,x5.o.q.2.2.2.1,()))<|
 A.ret _ (x5.2.1,x5.2.2.1,x5.2.2.2.1,x5.q.1,x5.q.2.1,x5.q.2.2.1,x5.q.2.2.2.1,x5.o.1,x5.o.2.1,x5.o.2.2.1,x5.o.2.2.2.1,x5.o.q.1,x5.o.q.2.1,x5.o.q.2.2.2.1,())) fun x6=>
 A.bind [.i,.i,.i,.i,.i,.i,.i,.i,.i,.i,.i,.i,.l .iop] (A.cond (A.ak (A.cmp .eql x6.o.1 (A.lit 3)) (A.bl true) (A.cmp .eql x6.o.1 (A.lit 4))) (A.bd .i64 x6.o.q.1 x6.o.2.2.1<|
 A.bd .i64 x6.o.q.1 x6.o.2.2.1<|
 A.l1 .i (A.fI .i64 0 (A.get .i64 x6.o.q.1 x6.o.2.2.1)) fun x7=>
 A.ret _ (x6.1,x6.2.1,x6.2.2.1,x6.2.2.2.1,x6.q.1,x6.q.2.1,x6.q.2.2.1,x6.q.2.2.2.1,x6.o.1,x6.o.2.1,x7.1,x6.o.2.2.2.1,x6.o.q.2.1,()))<|
 A.ret _ (x6.1,x6.2.1,x6.2.2.1,x6.2.2.2.1,x6.q.1,x6.q.2.1,x6.q.2.2.1,x6.q.2.2.2.1,x6.o.1,x6.o.2.1,x6.o.2.2.1,x6.o.2.2.2.1,x6.o.q.2.1,())) fun x7=>
 A.ret _ (x7.q.2.2.1,x7.q.2.2.2.1,x7.o.1,x7.o.2.1,x7.o.2.2.1,x7.o.2.2.2.1,x7.o.q.1,())) (x4.1,A.lit 0,A.lit 0,A.lit 0,A.lit 0,A.lit 0,A.lit 0,x1.1,x1.2.1,x1.2.2.1,x1.2.2.2.1,x1.q.1,x1.q.2.1,x2.1,x3.1,x1.q.2.2.1,())
def P5 (A:Alg) (x:Tup A.ah [.l .iop,.i]):Ot A tO:=
 A.l1 .i (A.lit 0) fun x0=>
 A.l1 .b (A.bl false) fun x1=>
 A.chk (A.orB (A.aA (A.aA (A.ak (A.cmp .lss x.2.1 (A.lit 0)) (A.bl true) (A.cmp .geq x.2.1 (A.len .iop x.1))))) (A.cmp .leq (A.lit 0) x.2.1))<|
 A.chk (A.orB (A.aA (A.aA (A.ak (A.cmp .lss x.2.1 (A.lit 0)) (A.bl true) (A.cmp .geq x.2.1 (A.len .iop x.1))))) (A.cmp .lss x.2.1 (A.len .iop x.1)))<|
 A.cond (A.ak (A.ak (A.cmp .lss x.2.1 (A.lit 0)) (A.bl true) (A.cmp .geq x.2.1 (A.len .iop x.1))) (A.bl true) (A.cmp .neq (A.fI .iop 0 (A.get .iop x.1 x.2.1)) (A.lit 1))) (A.l1 .i (A.lit 0) fun x2=>
 A.l1 .b (A.bl false) fun x3=>
 A.ret _ (x2.1,x3.1,()))<|
 A.bd .iop x.1 x.2.1<|
 A.l1 .i (A.fI .iop 3 (A.get .iop x.1 x.2.1)) fun x2=>
 A.l1 .b (A.bl true) fun x3=>
 A.ret _ (x2.1,x3.1,())
def P6 (A:Alg) (x:Tup A.ah [.x .blk,.i]):Ot A DR:=
 A.l1 .i (A.lit 1) fun x0=>
 A.l1 .i (A.lit 0) fun x1=>
 A.l1 .i (A.lit 0) fun x2=>
 A.l1 .i x.2.1 fun x3=>
 A.ret _ (A.fI .blk 0 x.1,A.fI .blk 1 x.1,A.fL .blk 2 .iop x.1,x0.1,x1.1,x2.1,x3.1,())
def P7 (A:Alg) (P8:Pt A DR) (P9:Ft A DR) (EU:Pt A tO) (EW:Ft A tO) (x:Tup A.ah [.x .blk]):Ot A DT:=
 A.cl EU EW (A.fL .blk 2 .iop x.1,A.fI .blk 4 x.1,()) fun x0=>
 A.l1 .i x0.1 fun x1=>
 A.l1 .b x0.2.1 fun x2=>
 A.cl EU EW (A.fL .blk 2 .iop x.1,A.fI .blk 5 x.1,()) fun x3=>
 A.l1 .i x3.1 fun x4=>
 A.l1 .b x3.2.1 fun x5=>
 A.l1 .b (A.ak (A.cmp .eql (A.fI .blk 3 x.1) (A.lit 2)) x2.1 (A.bl false)) fun x6=>
 A.cond x6.1 (A.cl P8 P9 (x.1,x1.1,()) fun x7=>
 A.ret _ (A.mkX .blk (x7.1,x7.2.1,x7.2.2.1,x7.2.2.2.1,x7.q.1,x7.q.2.1,x7.q.2.2.1,()),()))<|
 A.l1 .b (A.ak (A.ak (A.ak (A.cmp .eql (A.fI .blk 3 x.1) (A.lit 3)) x2.1 (A.bl false)) x5.1 (A.bl false)) (A.cmp .eql x1.1 x4.1) (A.bl false)) fun x7=>
 A.bind [.b,.b,.b,.x .blk,.i,.i,.i,.i,.i,.i] (A.cond x7.1 (A.ret _ (x2.1,x5.1,x7.1,x.1,A.lit 0,A.lit 0,A.lit 0,A.lit 0,A.lit 0,A.lit 0,()))<|
 A.l1 .b (A.ak (A.ak (A.ak (A.cmp .eql (A.fI .blk 3 x.1) (A.lit 4)) x2.1 (A.bl false)) x5.1 (A.bl false)) (A.cmp .lss x1.1 x4.1) (A.bl false)) fun x8=>
 A.ret _ (x2.1,x5.1,x8.1,x.1,A.lit 0,A.lit 0,A.lit 0,A.lit 0,A.lit 0,A.lit 0,())) fun x8=>
 A.cond x8.2.2.1 (A.cl P8 P9 (x8.2.2.2.1,A.fI .blk 6 x8.2.2.2.1,()) fun x9=>
 A.ret _ (A.mkX .blk (x9.1,x9.2.1,x9.2.2.1,x9.2.2.2.1,x9.q.1,x9.q.2.1,x9.q.2.2.1,()),()))<|
 A.l1 .b (A.ak (A.ak (A.ak (A.cmp .eql (A.fI .blk 3 x8.2.2.2.1) (A.lit 3)) (A.bl true) (A.cmp .eql (A.fI .blk 3 x8.2.2.2.1) (A.lit 4))) x8.1 (A.bl false)) x8.2.1 (A.bl false)) fun x9=>
 A.cond x9.1 (A.cl P8 P9 (x8.2.2.2.1,A.arith .add .i64 (A.fI .blk 0 x8.2.2.2.1) (A.fI .blk 1 x8.2.2.2.1),()) fun x10=>
 A.ret _ (A.mkX .blk (x10.1,x10.2.1,x10.2.2.1,x10.2.2.2.1,x10.q.1,x10.q.2.1,x10.q.2.2.1,()),()))<|
 A.l1 (.x .blk) x8.2.2.2.1 fun x10=>
 A.ret _ (x10.1,())
def Qa (A:Alg) (mM:Pt A gJ) (mO:Ft A gJ) (adL:Pt A DN) (adM:Ft A DN) (adN:Pt A DT) (adO:Ft A DT) (EU:Pt A tO) (EW:Ft A tO) (ER:Pt A mJ) (ET:Ft A mJ) (x:Tup A.ah [.x .blk]):Ot A DU:=
 A.cl mM mO (x.1,()) fun x0=>
 A.cond (A.aA x0.1) (A.ret _ (A.mkX .blk (A.lit 0,A.lit 0,A.bQ .iop,A.lit 0,A.lit 0,A.lit 0,A.lit 0,()),()))<|
 A.cl ER ET (x.1,()) fun x1=>
 A.l1 .i (A.lit 0) fun x2=>
 A.iter [.i,.i,.i,.i,.i,.i,.i,.i,.i,.i,.i,.i,.i,.l .iop] (fun x3=>
 A.cond (A.cmp .lss x3.1 (A.len .iop x3.o.q.2.1)) (A.bd .iop x3.o.q.2.1 x3.1<|
 A.bd .iop x3.o.q.2.1 x3.1<|
 A.l1 (.x .iop) (A.get .iop x3.o.q.2.1 x3.1) fun x4=>
 A.cl EU EW (x3.o.q.2.1,A.fI .iop 1 x4.1,()) fun x5=>
 A.l1 .i x5.1 fun x6=>
 A.l1 .b x5.2.1 fun x7=>
 A.cl EU EW (x3.o.q.2.1,A.fI .iop 2 x4.1,()) fun x8=>
 A.l1 .i x8.1 fun x9=>
 A.l1 .b x8.2.1 fun x10=>
 A.bind [.i,.i,.i,.i,.i,.i,.i,.i,.i,.i,.i,.i,.i,.l .iop] (A.cond (A.ak (A.ak (A.cmp .eql (A.fI .iop 0 x4.1) (A.lit 3)) x7.1 (A.bl false)) x10.1 (A.bl false)) (A.cl adL adM (A.fI .iop 3 x4.1,x6.1,x9.1,()) fun x11=>
 A.bd .iop x3.o.q.2.1 x3.1<|
 A.bd .iop x3.o.q.2.1 x3.1<|
 A.ret _ (x3.1,x3.2.1,x3.2.2.1,x3.2.2.2.1,x3.q.1,x3.q.2.1,x3.q.2.2.1,x3.q.2.2.2.1,x3.o.1,x3.o.2.1,x3.o.2.2.1,x3.o.2.2.2.1,x3.o.q.1,A.set .iop x3.o.q.2.1 x3.1 (A.mkX .iop (A.lit 1,A.lit 0,A.lit 0,x11.1,A.lit 0,())),()))<|
 A.ret _ (x3.1,x3.2.1,x3.2.2.1,x3.2.2.2.1,x3.q.1,x3.q.2.1,x3.q.2.2.1,x3.q.2.2.2.1,x3.o.1,x3.o.2.1,x3.o.2.2.1,x3.o.2.2.2.1,x3.o.q.1,x3.o.q.2.1,())) fun x11=>
 A.l1 .i (A.arith .add .i64 x11.1 (A.lit 1)) fun x12=>
 A.inl _ (x12.1,x11.2.1,x11.2.2.1,x11.2.2.2.1,x11.q.1,x11.q.2.1,x11.q.2.2.1,x11.q.2.2.2.1,x11.o.1,x11.o.2.1,x11.o.2.2.1,x11.o.2.2.2.1,x11.o.q.1,x11.o.q.2.1,()))<|
 A.inr _<|A.cl adN adO (A.mkX .blk (x3.q.2.2.2.1,x3.o.1,x3.o.q.2.1,x3.o.2.1,x3.o.2.2.1,x3.o.2.2.2.1,x3.o.q.1,()),()) fun x4=>
 A.l1 (.x .blk) x4.1 fun x5=>
 A.ret _ (x5.1,())) (x2.1,A.lit 0,A.lit 0,A.lit 0,A.lit 0,A.lit 0,A.lit 0,x1.1,x1.2.1,x1.2.2.1,x1.2.2.2.1,x1.q.1,x1.q.2.1,x1.q.2.2.1,())
def Qb (A:Alg) (x:Tup A.ah [.l .iop,.i]):Ot A DV:=
 A.l1 .b (A.bl false) fun x0=>
 A.l1 .i (A.arith .add .i64 x.2.1 (A.lit 1)) fun x1=>
 A.iter [.l .iop,.i,.i] (fun x2=>
 A.cond (A.cmp .lss x2.2.2.1 (A.len .iop x2.1)) (A.bd .iop x2.1 x2.2.2.1<|
 A.chk (A.orB (A.aA (A.aA (A.cmp .eql (A.fI .iop 0 (A.get .iop x2.1 x2.2.2.1)) (A.lit 4)))) (A.cmp .leq (A.lit 0) x2.2.2.1))<|
 A.chk (A.orB (A.aA (A.aA (A.cmp .eql (A.fI .iop 0 (A.get .iop x2.1 x2.2.2.1)) (A.lit 4)))) (A.cmp .lss x2.2.2.1 (A.len .iop x2.1)))<|
 A.chk (A.orB (A.aA (A.aA (A.ak (A.cmp .eql (A.fI .iop 0 (A.get .iop x2.1 x2.2.2.1)) (A.lit 4)) (A.bl true) (A.cmp .eql (A.fI .iop 0 (A.get .iop x2.1 x2.2.2.1)) (A.lit 5))))) (A.cmp .leq (A.lit 0) x2.2.2.1))<|
 A.chk (A.orB (A.aA (A.aA (A.ak (A.cmp .eql (A.fI .iop 0 (A.get .iop x2.1 x2.2.2.1)) (A.lit 4)) (A.bl true) (A.cmp .eql (A.fI .iop 0 (A.get .iop x2.1 x2.2.2.1)) (A.lit 5))))) (A.cmp .lss x2.2.2.1 (A.len .iop x2.1)))<|
 A.chk (A.orB (A.aA (A.mq (A.aA (A.ak (A.cmp .eql (A.fI .iop 0 (A.get .iop x2.1 x2.2.2.1)) (A.lit 4)) (A.bl true) (A.cmp .eql (A.fI .iop 0 (A.get .iop x2.1 x2.2.2.1)) (A.lit 5)))) (A.cmp .eql (A.fI .iop 0 (A.get .iop x2.1 x2.2.2.1)) (A.lit 2)))) (A.cmp .leq (A.lit 0) x2.2.2.1))<|
 A.chk (A.orB (A.aA (A.mq (A.aA (A.ak (A.cmp .eql (A.fI .iop 0 (A.get .iop x2.1 x2.2.2.1)) (A.lit 4)) (A.bl true) (A.cmp .eql (A.fI .iop 0 (A.get .iop x2.1 x2.2.2.1)) (A.lit 5)))) (A.cmp .eql (A.fI .iop 0 (A.get .iop x2.1 x2.2.2.1)) (A.lit 2)))) (A.cmp .lss x2.2.2.1 (A.len .iop x2.1)))<|
 A.chk (A.orB (A.aA (A.mq (A.aA (A.ak (A.cmp .eql (A.fI .iop 0 (A.get .iop x2.1 x2.2.2.1)) (A.lit 4)) (A.bl true) (A.cmp .eql (A.fI .iop 0 (A.get .iop x2.1 x2.2.2.1)) (A.lit 5)))) (A.cmp .eql (A.fI .iop 0 (A.get .iop x2.1 x2.2.2.1)) (A.lit 2)))) (A.cmp .leq (A.lit 0) x2.2.1))<|
 A.chk (A.orB (A.aA (A.mq (A.aA (A.ak (A.cmp .eql (A.fI .iop 0 (A.get .iop x2.1 x2.2.2.1)) (A.lit 4)) (A.bl true) (A.cmp .eql (A.fI .iop 0 (A.get .iop x2.1 x2.2.2.1)) (A.lit 5)))) (A.cmp .eql (A.fI .iop 0 (A.get .iop x2.1 x2.2.2.1)) (A.lit 2)))) (A.cmp .lss x2.2.1 (A.len .iop x2.1)))<|
 A.cond (A.ak (A.ak (A.cmp .eql (A.fI .iop 0 (A.get .iop x2.1 x2.2.2.1)) (A.lit 4)) (A.bl true) (A.cmp .eql (A.fI .iop 0 (A.get .iop x2.1 x2.2.2.1)) (A.lit 5))) (A.bl true) (A.ak (A.cmp .eql (A.fI .iop 0 (A.get .iop x2.1 x2.2.2.1)) (A.lit 2)) (A.cmp .eql (A.fI .iop 3 (A.get .iop x2.1 x2.2.2.1)) (A.fI .iop 3 (A.get .iop x2.1 x2.2.1))) (A.bl false))) (A.l1 .b (A.bl false) fun x3=>
 A.inr _<|A.ret _ (x3.1,()))<|
 A.bd .iop x2.1 x2.2.2.1<|
 A.chk (A.orB (A.aA (A.cmp .eql (A.fI .iop 0 (A.get .iop x2.1 x2.2.2.1)) (A.lit 8))) (A.cmp .leq (A.lit 0) x2.2.2.1))<|
 A.chk (A.orB (A.aA (A.cmp .eql (A.fI .iop 0 (A.get .iop x2.1 x2.2.2.1)) (A.lit 8))) (A.cmp .lss x2.2.2.1 (A.len .iop x2.1)))<|
 A.chk (A.orB (A.aA (A.cmp .eql (A.fI .iop 0 (A.get .iop x2.1 x2.2.2.1)) (A.lit 8))) (A.cmp .leq (A.lit 0) x2.2.1))<|
 A.chk (A.orB (A.aA (A.cmp .eql (A.fI .iop 0 (A.get .iop x2.1 x2.2.2.1)) (A.lit 8))) (A.cmp .lss x2.2.1 (A.len .iop x2.1)))<|
 A.cond (A.ak (A.cmp .eql (A.fI .iop 0 (A.get .iop x2.1 x2.2.2.1)) (A.lit 8)) (A.cmp .eql (A.fI .iop 3 (A.get .iop x2.1 x2.2.2.1)) (A.fI .iop 3 (A.get .iop x2.1 x2.2.1))) (A.bl false)) (A.l1 .b (A.bl true) fun x3=>
 A.inr _<|A.ret _ (x3.1,()))<|
 A.l1 .i (A.arith .add .i64 x2.2.2.1 (A.lit 1)) fun x3=>
 A.inl _ (x2.1,x2.2.1,x3.1,()))<|
 A.inr _<|A.rb (A.bl false)) (x.1,x.2.1,x1.1,())
def Qc (A:Alg) (PY:Pt A tL) (PZ:Ft A tL) (x:Tup A.ah [.x .blk,.l .bool]):Ot A tQ:=
 A.l1 (.l .iop) (A.lst .iop []) fun x0=>
 A.l1 (.l .i64) (A.lst .i64 []) fun x1=>
 A.l1 .i (A.lit 0) fun x2=>
 A.iter [.l .bool,.i,.x .blk,.i,.i,.i,.i,.i,.i,.l .iop,.l .i64] (fun x3=>
 A.cond (A.cmp .lss x3.2.1 (A.len .iop (A.fL .blk 2 .iop x3.2.2.1))) (A.l1 (.l .i64) (A.lst .i64 [A.mkX .i64 (A.len .iop x3.o.2.1,())]) fun x4=>
 A.chk (A.cmp .leq (A.addN (A.len .i64 x3.o.2.2.1) (A.len .i64 x4.1)) (A.lit 1073741824))<|
 A.l1 (.l .i64) (A.app .i64 x3.o.2.2.1 x4.1) fun x5=>
 A.bd .bool x3.1 x3.2.1<|
 A.bind [.l .bool,.i,.x .blk,.i,.i,.i,.i,.i,.i,.l .iop,.l .i64] (A.cond (A.fB .bool 0 (A.get .bool x3.1 x3.2.1)) (A.bd .iop (A.fL .blk 2 .iop x3.2.2.1) x3.2.1<|
 A.cl PY PZ (A.get .iop (A.fL .blk 2 .iop x3.2.2.1) x3.2.1,x5.1,()) fun x6=>
 A.l1 (.l .iop) (A.lst .iop [x6.1]) fun x7=>
 A.chk (A.cmp .leq (A.addN (A.len .iop x3.o.2.1) (A.len .iop x7.1)) (A.lit 1073741824))<|
 A.l1 (.l .iop) (A.app .iop x3.o.2.1 x7.1) fun x8=>
 A.ret _ (x3.1,x3.2.1,x3.2.2.1,x3.2.2.2.1,x3.q.1,x3.q.2.1,x3.q.2.2.1,x3.q.2.2.2.1,x3.o.1,x8.1,x5.1,()))<|
 A.ret _ (x3.1,x3.2.1,x3.2.2.1,x3.2.2.2.1,x3.q.1,x3.q.2.1,x3.q.2.2.1,x3.q.2.2.2.1,x3.o.1,x3.o.2.1,x5.1,())) fun x6=>
 A.l1 .i (A.arith .add .i64 x6.2.1 (A.lit 1)) fun x7=>
 A.inl _ (x6.1,x7.1,x6.2.2.1,x6.2.2.2.1,x6.q.1,x6.q.2.1,x6.q.2.2.1,x6.q.2.2.2.1,x6.o.1,x6.o.2.1,x6.o.2.2.1,()))<|
 A.inr _<|A.l1 (.x .blk) x3.2.2.1 fun x4=>
 A.bind [.x .blk,.i,.i,.i,.i,.i,.i,.l .i64,.i,.i,.i,.i,.i,.i,.l .iop] (A.cond (A.cmp .neq (A.fI .blk 3 x3.2.2.1) (A.lit 1)) (A.bd .i64 x3.o.2.2.1 (A.fI .blk 4 x3.2.2.1)<|
 A.bd .i64 x3.o.2.2.1 (A.fI .blk 4 x3.2.2.1)<|
 A.l1 .i (A.fI .i64 0 (A.get .i64 x3.o.2.2.1 (A.fI .blk 4 x3.2.2.1))) fun x5=>
 A.ret _ (x3.2.2.1,x3.2.2.2.1,x3.q.1,x3.q.2.1,x3.q.2.2.1,x3.q.2.2.2.1,x3.o.1,x3.o.2.2.1,A.fI .blk 0 x4.1,A.fI .blk 1 x4.1,A.fI .blk 3 x4.1,x5.1,A.fI .blk 5 x4.1,A.fI .blk 6 x4.1,x3.o.2.1,()))<|
 A.ret _ (x3.2.2.1,x3.2.2.2.1,x3.q.1,x3.q.2.1,x3.q.2.2.1,x3.q.2.2.2.1,x3.o.1,x3.o.2.2.1,A.fI .blk 0 x4.1,A.fI .blk 1 x4.1,A.fI .blk 3 x4.1,A.fI .blk 4 x4.1,A.fI .blk 5 x4.1,A.fI .blk 6 x4.1,x3.o.2.1,())) fun x5=>
 A.bind [.i,.i,.i,.i,.i,.i,.i,.i,.i,.i,.i,.i,.l .iop] (A.cond (A.ak (A.cmp .eql (A.fI .blk 3 x5.1) (A.lit 3)) (A.bl true) (A.cmp .eql (A.fI .blk 3 x5.1) (A.lit 4))) (A.bd .i64 x5.q.2.2.2.1 (A.fI .blk 5 x5.1)<|
 A.bd .i64 x5.q.2.2.2.1 (A.fI .blk 5 x5.1)<|
 A.l1 .i (A.fI .i64 0 (A.get .i64 x5.q.2.2.2.1 (A.fI .blk 5 x5.1))) fun x6=>
 A.ret _ (x5.2.1,x5.2.2.1,x5.2.2.2.1,x5.q.1,x5.q.2.1,x5.q.2.2.1,x5.o.1,x5.o.2.1,x5.o.2.2.1,x5.o.2.2.2.1,x6.1,x5.o.q.2.1,x5.o.q.2.2.1,()))<|
 A.ret _ (x5.2.1,x5.2.2.1,x5.2.2.2.1,x5.q.1,x5.q.2.1,x5.q.2.2.1,x5.o.1,x5.o.2.1,x5.o.2.2.1,x5.o.2.2.2.1,x5.o.q.1,x5.o.q.2.1,x5.o.q.2.2.1,())) fun x6=>
 A.ret _ (x6.q.2.2.1,x6.q.2.2.2.1,x6.o.1,x6.o.2.1,x6.o.2.2.1,x6.o.2.2.2.1,x6.o.q.1,())) (x.2.1,x2.1,x.1,A.lit 0,A.lit 0,A.lit 0,A.lit 0,A.lit 0,A.lit 0,x0.1,x1.1,())
def Qd (A:Alg) (mM:Pt A gJ) (mO:Ft A gJ) (Qe:Pt A tQ) (Qf:Ft A tQ) (adP:Pt A DV) (adQ:Ft A DV) (x:Tup A.ah [.x .blk]):Ot A tT:=
 A.cl mM mO (x.1,()) fun x0=>
 A.cond (A.aA x0.1) (A.ret _ (A.lit 0,A.lit 0,A.lit 0,A.lit 0,A.lit 0,A.lit 0,A.bQ .iop,()))<|
 A.l1 (.l .bool) (A.lst .bool []) fun x1=>
 A.l1 .i (A.lit 0) fun x2=>
 A.iter [.i,.x .blk,.i,.i,.i,.i,.i,.i,.l .bool] (fun x3=>
 A.cond (A.cmp .lss x3.1 (A.len .iop (A.fL .blk 2 .iop x3.2.1))) (A.bd .iop (A.fL .blk 2 .iop x3.2.1) x3.1<|
 A.cg (A.aA (A.cmp .neq (A.fI .iop 0 (A.get .iop (A.fL .blk 2 .iop x3.2.1) x3.1)) (A.lit 8))) adP adQ (A.fL .blk 2 .iop x3.2.1,x3.1,()) fun x4=>
 A.l1 (.l .bool) (A.lst .bool [A.mkX .bool (A.ak (A.cmp .neq (A.fI .iop 0 (A.get .iop (A.fL .blk 2 .iop x3.2.1) x3.1)) (A.lit 8)) (A.bl true) (A.aA x4.1),())]) fun x5=>
 A.chk (A.cmp .leq (A.addN (A.len .bool x3.o.1) (A.len .bool x5.1)) (A.lit 1073741824))<|
 A.l1 (.l .bool) (A.app .bool x3.o.1 x5.1) fun x6=>
 A.l1 .i (A.arith .add .i64 x3.1 (A.lit 1)) fun x7=>
 A.inl _ (x7.1,x3.2.1,x3.2.2.1,x3.2.2.2.1,x3.q.1,x3.q.2.1,x3.q.2.2.1,x3.q.2.2.2.1,x6.1,()))<|
 A.inr _<|A.cl Qe Qf (x3.2.1,x3.o.1,()) fun x4=>
 A.ret _ (x4.1,x4.2.1,x4.2.2.1,x4.2.2.2.1,x4.q.1,x4.q.2.1,x4.q.2.2.1,())) (x2.1,x.1,A.lit 0,A.lit 0,A.lit 0,A.lit 0,A.lit 0,A.lit 0,x1.1,())
def Qg (A:Alg) (mM:Pt A gJ) (mO:Ft A gJ) (fK:Pt A fJ) (fM:Ft A fJ) (x:Tup A.ah [.x .blk]):Ot A DW:=
 A.l1 (.l .bool) (A.lst .bool []) fun x0=>
 A.cl mM mO (x.1,()) fun x1=>
 A.cond (A.aA x1.1) (A.ret _ (x0.1,()))<|
 A.l1 .i (A.lit 0) fun x2=>
 A.iter [.i,.x .blk,.l .bool] (fun x3=>
 A.cond (A.cmp .lss x3.1 (A.len .iop (A.fL .blk 2 .iop x3.2.1))) (A.bd .iop (A.fL .blk 2 .iop x3.2.1) x3.1<|
 A.l1 (.l .bool) (A.lst .bool [A.mkX .bool (A.cmp .geq (A.fI .iop 0 (A.get .iop (A.fL .blk 2 .iop x3.2.1) x3.1)) (A.lit 4),())]) fun x4=>
 A.chk (A.cmp .leq (A.addN (A.len .bool x3.2.2.1) (A.len .bool x4.1)) (A.lit 1073741824))<|
 A.l1 (.l .bool) (A.app .bool x3.2.2.1 x4.1) fun x5=>
 A.l1 .i (A.arith .add .i64 x3.1 (A.lit 1)) fun x6=>
 A.inl _ (x6.1,x3.2.1,x5.1,()))<|
 A.inr _<|A.bind [.x .blk,.l .bool] (A.cond (A.cmp .neq (A.fI .blk 3 x3.2.1) (A.lit 1)) (A.bd .bool x3.2.2.1 (A.fI .blk 4 x3.2.1)<|
 A.bd .bool x3.2.2.1 (A.fI .blk 4 x3.2.1)<|
 A.l1 .b (A.bl true) fun x4=>
 A.ret _ (x3.2.1,A.set .bool x3.2.2.1 (A.fI .blk 4 x3.2.1) (A.mkX .bool (x4.1,())),()))<|
 A.ret _ (x3.2.1,x3.2.2.1,())) fun x4=>
 A.bind [.x .blk,.l .bool] (A.cond (A.ak (A.cmp .eql (A.fI .blk 3 x4.1) (A.lit 3)) (A.bl true) (A.cmp .eql (A.fI .blk 3 x4.1) (A.lit 4))) (A.bd .bool x4.2.1 (A.fI .blk 5 x4.1)<|
 A.bd .bool x4.2.1 (A.fI .blk 5 x4.1)<|
 A.l1 .b (A.bl true) fun x5=>
 A.ret _ (x4.1,A.set .bool x4.2.1 (A.fI .blk 5 x4.1) (A.mkX .bool (x5.1,())),()))<|
 A.ret _ (x4.1,x4.2.1,())) fun x5=>
 A.l1 .i (A.arith .sub .i64 (A.len .iop (A.fL .blk 2 .iop x5.1)) (A.lit 1)) fun x6=>
 A.iter [.i,.x .blk,.l .bool] (fun x7=>
 A.cond (A.cmp .geq x7.1 (A.lit 0)) (A.jM [.i,.x .blk,.l .bool] (A.bd .iop (A.fL .blk 2 .iop x7.2.1) x7.1<|
 A.l1 (.x .iop) (A.get .iop (A.fL .blk 2 .iop x7.2.1) x7.1) fun x8=>
 A.bd .bool x7.2.2.1 x7.1<|
 A.bd .bool x7.2.2.1 x7.1<|
 A.cond (A.aA (A.fB .bool 0 (A.get .bool x7.2.2.1 x7.1))) (A.inl _ (x7.1,x7.2.1,x7.2.2.1,()))<|
 A.cl fK fM (A.fI .iop 0 x8.1,A.lit 3,A.lit 5,()) fun x9=>
 A.bind [.i,.x .blk,.l .bool,.x .iop] (A.cond (A.ak (A.ak x9.1 (A.bl true) (A.cmp .eql (A.fI .iop 0 x8.1) (A.lit 7))) (A.bl true) (A.cmp .eql (A.fI .iop 0 x8.1) (A.lit 8))) (A.bd .bool x7.2.2.1 (A.fI .iop 1 x8.1)<|
 A.bd .bool x7.2.2.1 (A.fI .iop 1 x8.1)<|
 A.l1 .b (A.bl true) fun x10=>
 A.ret _ (x7.1,x7.2.1,A.set .bool x7.2.2.1 (A.fI .iop 1 x8.1) (A.mkX .bool (x10.1,())),x8.1,()))<|
 A.ret _ (x7.1,x7.2.1,x7.2.2.1,x8.1,())) fun x10=>
 A.bind [.i,.x .blk,.l .bool] (A.cond (A.ak (A.cmp .eql (A.fI .iop 0 x10.2.2.2.1) (A.lit 3)) (A.bl true) (A.cmp .eql (A.fI .iop 0 x10.2.2.2.1) (A.lit 5))) (A.bd .bool x10.2.2.1 (A.fI .iop 2 x10.2.2.2.1)<|
 A.bd .bool x10.2.2.1 (A.fI .iop 2 x10.2.2.2.1)<|
 A.l1 .b (A.bl true) fun x11=>
 A.ret _ (x10.1,x10.2.1,A.set .bool x10.2.2.1 (A.fI .iop 2 x10.2.2.2.1) (A.mkX .bool (x11.1,())),()))<|
 A.ret _ (x10.1,x10.2.1,x10.2.2.1,())) fun x11=>
 A.inl _ (x11.1,x11.2.1,x11.2.2.1,())) fun x8=>
 A.l1 .i (A.arith .sub .i64 x8.1 (A.lit 1)) fun x9=>
 A.inl _ (x9.1,x8.2.1,x8.2.2.1,()))<|
 A.inr _<|A.ret _ (x7.2.2.1,())) (x6.1,x5.1,x5.2.1,())) (x2.1,x.1,x0.1,())
def Qh (A:Alg) (mM:Pt A gJ) (mO:Ft A gJ) (adR:Pt A DW) (adS:Ft A DW) (Qe:Pt A tQ) (Qf:Ft A tQ) (x:Tup A.ah [.x .blk]):Ot A DX:=
 A.cl mM mO (x.1,()) fun x0=>
 A.cond (A.aA x0.1) (A.ret _ (A.lit 0,A.lit 0,A.lit 0,A.lit 0,A.lit 0,A.lit 0,A.bQ .iop,()))<|
 A.cl adR adS (x.1,()) fun x1=>
 A.cl Qe Qf (x.1,x1.1,()) fun x2=>
 A.ret _ (x2.1,x2.2.1,x2.2.2.1,x2.2.2.2.1,x2.q.1,x2.q.2.1,x2.q.2.2.1,())
def Qi (A:Alg) (adT:Pt A DU) (adU:Ft A DU) (Qj:Pt A tN) (Qk:Ft A tN) (WM:Pt A DX) (WO:Ft A DX) (Ql:Pt A tT) (Qm:Ft A tT) (x:Tup A.ah [.x .blk]):Ot A DY:=
 A.cl Qj Qk (x.1,()) fun x0=>
 A.cl adT adU (A.mkX .blk (x0.1,x0.2.1,x0.q.2.2.1,x0.2.2.1,x0.2.2.2.1,x0.q.1,x0.q.2.1,()),()) fun x1=>
 A.cl WM WO (x1.1,()) fun x2=>
 A.cl Ql Qm (A.mkX .blk (x2.1,x2.2.1,x2.q.2.2.1,x2.2.2.1,x2.2.2.2.1,x2.q.1,x2.q.2.1,()),()) fun x3=>
 A.cl WM WO (A.mkX .blk (x3.1,x3.2.1,x3.q.2.2.1,x3.2.2.1,x3.2.2.2.1,x3.q.1,x3.q.2.1,()),()) fun x4=>
 A.ret _ (x4.1,x4.2.1,x4.2.2.1,x4.2.2.2.1,x4.q.1,x4.q.2.1,x4.q.2.2.1,())
def Qn (A:Alg) (aW:Pt A fH) (aX:Ft A fH) (x:Tup A.ah [.l .u8,.i]):Ot A DZ:=
 A.cl aW aX (A.lit 4,x.1,x.2.1,()) fun x0=>
 A.l1 .i x0.1 fun x1=>
 A.cl aW aX (A.lit 4,x0.2.1,x0.2.2.1,()) fun x2=>
 A.l1 .i x2.1 fun x3=>
 A.cl aW aX (A.lit 14,x2.2.1,x2.2.2.1,()) fun x4=>
 A.l1 .b (A.cmp .eql x4.1 (A.lit 0)) fun x5=>
 A.bind [.i,.i,.i,.b,.l .u8,.i,.i,.i,.i,.i] (A.cond x5.1 (A.ret _ (x1.1,x3.1,x4.1,x5.1,x4.2.1,x4.2.2.1,A.lit 0,A.lit 0,A.lit 0,A.lit 0,()))<|
 A.l1 .b (A.cmp .eql x4.1 (A.lit 1)) fun x6=>
 A.ret _ (x1.1,x3.1,x4.1,x6.1,x4.2.1,x4.2.2.1,A.lit 0,A.lit 0,A.lit 0,A.lit 0,())) fun x6=>
 A.cond x6.2.2.2.1 (A.cl aW aX (A.lit 64,x6.q.1,x6.q.2.1,()) fun x7=>
 A.cl aW aX (A.lit 256,x7.2.1,x7.2.2.1,()) fun x8=>
 A.l1 (.l .i64) (A.lst .i64 [A.mkX .i64 (A.lit 0,()),A.mkX .i64 (A.lit 1,()),A.mkX .i64 (A.lit 2,()),A.mkX .i64 (x7.1,()),A.mkX .i64 (x8.1,()),A.mkX .i64 (A.lit 255,())]) fun x9=>
 A.cl aW aX (A.lit 6,x8.2.1,x8.2.2.1,()) fun x10=>
 A.bd .i64 x9.1 x10.1<|
 A.bd .i64 x9.1 x10.1<|
 A.ret _ (A.lit 1,x6.1,A.lit 0,A.fI .i64 0 (A.get .i64 x9.1 x10.1),x10.2.1,x10.2.2.1,()))<|
 A.l1 .b (A.cmp .eql x6.2.2.1 (A.lit 2)) fun x7=>
 A.cond x7.1 (A.ret _ (A.lit 2,x6.1,x6.2.1,A.lit 0,x6.q.1,x6.q.2.1,()))<|
 A.l1 .b (A.cmp .eql x6.2.2.1 (A.lit 3)) fun x8=>
 A.bind [.i,.i,.i,.b,.l .u8,.i,.i,.i,.i,.i] (A.cond x8.1 (A.ret _ (x6.1,x6.2.1,x6.2.2.1,x8.1,x6.q.1,x6.q.2.1,x6.q.2.2.1,x6.q.2.2.2.1,x6.o.1,x6.o.2.1,()))<|
 A.l1 .b (A.cmp .eql x6.2.2.1 (A.lit 4)) fun x9=>
 A.bind [.i,.i,.i,.b,.l .u8,.i,.i,.i,.i,.i] (A.cond x9.1 (A.ret _ (x6.1,x6.2.1,x6.2.2.1,x9.1,x6.q.1,x6.q.2.1,x6.q.2.2.1,x6.q.2.2.2.1,x6.o.1,x6.o.2.1,()))<|
 A.l1 .b (A.cmp .eql x6.2.2.1 (A.lit 5)) fun x10=>
 A.ret _ (x6.1,x6.2.1,x6.2.2.1,x10.1,x6.q.1,x6.q.2.1,x6.q.2.2.1,x6.q.2.2.2.1,x6.o.1,x6.o.2.1,())) fun x10=>
 A.ret _ (x10.1,x10.2.1,x10.2.2.1,x10.2.2.2.1,x10.q.1,x10.q.2.1,x10.q.2.2.1,x10.q.2.2.2.1,x10.o.1,x10.o.2.1,())) fun x9=>
 A.cond x9.2.2.2.1 (A.cl aW aX (A.lit 5,x9.q.1,x9.q.2.1,()) fun x10=>
 A.cl aW aX (A.lit 4,x10.2.1,x10.2.2.1,()) fun x11=>
 A.ret _ (A.arith .add .i64 (A.lit 3) x10.1,x9.1,x9.2.1,x11.1,x11.2.1,x11.2.2.1,()))<|
 A.l1 .b (A.cmp .eql x9.2.2.1 (A.lit 6)) fun x10=>
 A.cond x10.1 (A.cl aW aX (A.lit 16,x9.q.1,x9.q.2.1,()) fun x11=>
 A.l1 (.l .i64) (A.lst .i64 [A.mkX .i64 (A.lit 0,()),A.mkX .i64 (A.lit 1,()),A.mkX .i64 (A.lit 8,()),A.mkX .i64 (A.lit 15,()),A.mkX .i64 (x11.1,())]) fun x12=>
 A.cl aW aX (A.lit 5,x11.2.1,x11.2.2.1,()) fun x13=>
 A.bd .i64 x12.1 x13.1<|
 A.bd .i64 x12.1 x13.1<|
 A.ret _ (A.lit 8,x9.1,x9.2.1,A.fI .i64 0 (A.get .i64 x12.1 x13.1),x13.2.1,x13.2.2.1,()))<|
 A.l1 .b (A.cmp .eql x9.2.2.1 (A.lit 7)) fun x11=>
 A.bind [.i,.i,.i,.b,.l .u8,.i,.i,.i,.i,.i] (A.cond x11.1 (A.ret _ (x9.1,x9.2.1,x9.2.2.1,x11.1,x9.q.1,x9.q.2.1,x9.q.2.2.1,x9.q.2.2.2.1,x9.o.1,x9.o.2.1,()))<|
 A.l1 .b (A.cmp .eql x9.2.2.1 (A.lit 8)) fun x12=>
 A.ret _ (x9.1,x9.2.1,x9.2.2.1,x12.1,x9.q.1,x9.q.2.1,x9.q.2.2.1,x9.q.2.2.2.1,x9.o.1,x9.o.2.1,())) fun x12=>
 A.cond x12.2.2.2.1 (A.cl aW aX (A.lit 2,x12.q.1,x12.q.2.1,()) fun x13=>
 A.cl aW aX (A.lit 64,x13.2.1,x13.2.2.1,()) fun x14=>
 A.l1 (.l .i64) (A.lst .i64 [A.mkX .i64 (A.lit 0,()),A.mkX .i64 (A.lit 1,()),A.mkX .i64 (x14.1,()),A.mkX .i64 (A.lit 63,()),A.mkX .i64 (A.lit 64,()),A.mkX .i64 (A.lit 255,())]) fun x15=>
 A.cl aW aX (A.lit 6,x14.2.1,x14.2.2.1,()) fun x16=>
 A.bd .i64 x15.1 x16.1<|
 A.bd .i64 x15.1 x16.1<|
 A.ret _ (A.arith .add .i64 (A.lit 9) x13.1,x12.1,x12.2.1,A.fI .i64 0 (A.get .i64 x15.1 x16.1),x16.2.1,x16.2.2.1,()))<|
 A.l1 .b (A.cmp .eql x12.2.2.1 (A.lit 9)) fun x13=>
 A.cond x13.1 (A.cl aW aX (A.lit 2,x12.q.1,x12.q.2.1,()) fun x14=>
 A.cl aW aX (A.lit 20,x14.2.1,x14.2.2.1,()) fun x15=>
 A.cl aW aX (A.lit 64,x15.2.1,x15.2.2.1,()) fun x16=>
 A.l1 (.l .i64) (A.lst .i64 [A.mkX .i64 (x15.1,()),A.mkX .i64 (x16.1,()),A.mkX .i64 (A.lit 200,())]) fun x17=>
 A.cl aW aX (A.lit 3,x16.2.1,x16.2.2.1,()) fun x18=>
 A.bd .i64 x17.1 x18.1<|
 A.bd .i64 x17.1 x18.1<|
 A.ret _ (A.arith .add .i64 (A.lit 11) x14.1,x12.1,x12.2.1,A.fI .i64 0 (A.get .i64 x17.1 x18.1),x18.2.1,x18.2.2.1,()))<|
 A.l1 .b (A.cmp .eql x12.2.2.1 (A.lit 10)) fun x14=>
 A.cond x14.1 (A.cl aW aX (A.lit 2,x12.q.1,x12.q.2.1,()) fun x15=>
 A.ret _ (A.arith .add .i64 (A.lit 14) x15.1,x12.1,A.lit 0,A.lit 0,x15.2.1,x15.2.2.1,()))<|
 A.l1 .b (A.cmp .eql x12.2.2.1 (A.lit 11)) fun x15=>
 A.cond x15.1 (A.cl aW aX (A.lit 4,x12.q.1,x12.q.2.1,()) fun x16=>
 A.ret _ (A.lit 0,A.lit 0,A.lit 0,x16.1,x16.2.1,x16.2.2.1,()))<|
 A.l1 .b (A.cmp .eql x12.2.2.1 (A.lit 12)) fun x16=>
 A.cond x16.1 (A.ret _ (A.lit 13,A.lit 0,x12.2.1,A.lit 0,x12.q.1,x12.q.2.1,()))<|
 A.ret _ (A.lit 14,x12.1,A.lit 0,A.lit 0,x12.q.1,x12.q.2.1,())
def Qo (A:Alg) (x:Tup A.ah [.x .ins]):Ot A D5:=
 A.l1 .b (A.bl false) fun x0=>
 A.l1 .b (A.cmp .eql (A.fI .ins 0 x.1) (A.lit 0)) fun x1=>
 A.cond x1.1 (A.rb (A.ak (A.ak (A.cmp .eql (A.fI .ins 1 x.1) (A.lit 0)) (A.cmp .eql (A.fI .ins 2 x.1) (A.lit 0)) (A.bl false)) (A.cmp .leq (A.fI .ins 3 x.1) (A.lit 3)) (A.bl false)))<|
 A.l1 .b (A.cmp .eql (A.fI .ins 0 x.1) (A.lit 1)) fun x2=>
 A.cond x2.1 (A.rb (A.cmp .eql (A.fI .ins 2 x.1) (A.lit 0)))<|
 A.l1 .b (A.cmp .eql (A.fI .ins 0 x.1) (A.lit 2)) fun x3=>
 A.cond x3.1 (A.rb (A.cmp .eql (A.fI .ins 3 x.1) (A.lit 0)))<|
 A.l1 .b (A.cmp .eql (A.fI .ins 0 x.1) (A.lit 3)) fun x4=>
 A.bind [.i,.b,.x .ins] (A.cond x4.1 (A.ret _ (A.fI .ins 0 x.1,x4.1,x.1,()))<|
 A.l1 .b (A.cmp .eql (A.fI .ins 0 x.1) (A.lit 4)) fun x5=>
 A.bind [.i,.b,.x .ins] (A.cond x5.1 (A.ret _ (A.fI .ins 0 x.1,x5.1,x.1,()))<|
 A.l1 .b (A.cmp .eql (A.fI .ins 0 x.1) (A.lit 5)) fun x6=>
 A.bind [.i,.b,.x .ins] (A.cond x6.1 (A.ret _ (A.fI .ins 0 x.1,x6.1,x.1,()))<|
 A.l1 .b (A.cmp .eql (A.fI .ins 0 x.1) (A.lit 6)) fun x7=>
 A.bind [.i,.b,.x .ins] (A.cond x7.1 (A.ret _ (A.fI .ins 0 x.1,x7.1,x.1,()))<|
 A.l1 .b (A.cmp .eql (A.fI .ins 0 x.1) (A.lit 7)) fun x8=>
 A.ret _ (A.fI .ins 0 x.1,x8.1,x.1,())) fun x8=>
 A.ret _ (x8.1,x8.2.1,x8.2.2.1,())) fun x7=>
 A.ret _ (x7.1,x7.2.1,x7.2.2.1,())) fun x6=>
 A.ret _ (x6.1,x6.2.1,x6.2.2.1,())) fun x5=>
 A.cond x5.2.1 (A.rb (A.cmp .lss (A.fI .ins 3 x5.2.2.1) (A.lit 4)))<|
 A.l1 .b (A.cmp .eql x5.1 (A.lit 8)) fun x6=>
 A.cond x6.1 (A.rb (A.cmp .lss (A.fI .ins 3 x5.2.2.1) (A.lit 16)))<|
 A.l1 .b (A.cmp .eql x5.1 (A.lit 13)) fun x7=>
 A.cond x7.1 (A.rb (A.ak (A.cmp .eql (A.fI .ins 1 x5.2.2.1) (A.lit 0)) (A.cmp .eql (A.fI .ins 3 x5.2.2.1) (A.lit 0)) (A.bl false)))<|
 A.l1 .b (A.cmp .eql x5.1 (A.lit 14)) fun x8=>
 A.bind [.b,.x .ins] (A.cond x8.1 (A.ret _ (x8.1,x5.2.2.1,()))<|
 A.l1 .b (A.cmp .eql x5.1 (A.lit 15)) fun x9=>
 A.ret _ (x9.1,x5.2.2.1,())) fun x9=>
 A.cond x9.1 (A.rb (A.ak (A.cmp .eql (A.fI .ins 2 x9.2.1) (A.lit 0)) (A.cmp .eql (A.fI .ins 3 x9.2.1) (A.lit 0)) (A.bl false)))<|
 A.rb (A.bl true)
def Qp (A:Alg) (fK:Pt A fJ) (fM:Ft A fJ) (adV:Pt A D5) (adW:Ft A D5) (x:Tup A.ah [.x .ins]):Ot A tV:=
 A.l1 .b (A.bl false) fun x0=>
 A.cl fK fM (A.fI .ins 0 x.1,A.lit 0,A.lit 15,()) fun x1=>
 A.cg x1.1 fK fM (A.fI .ins 1 x.1,A.lit 0,A.lit 3,()) fun x2=>
 A.cg (A.ak x1.1 x2.1 (A.bl false)) fK fM (A.fI .ins 2 x.1,A.lit 0,A.lit 3,()) fun x3=>
 A.cg (A.ak (A.ak x1.1 x2.1 (A.bl false)) x3.1 (A.bl false)) fK fM (A.fI .ins 3 x.1,A.lit 0,A.lit 255,()) fun x4=>
 A.cg (A.ak (A.ak (A.ak x1.1 x2.1 (A.bl false)) x3.1 (A.bl false)) x4.1 (A.bl false)) adV adW (x.1,()) fun x5=>
 A.rb (A.ak (A.ak (A.ak (A.ak x1.1 x2.1 (A.bl false)) x3.1 (A.bl false)) x4.1 (A.bl false)) x5.1 (A.bl false))
def Qq (A:Alg) (x:Tup A.ah [.i]):Ot A tX:=
 A.l1 .b (A.bl false) fun x0=>
 A.rb (A.ak (A.ak (A.cmp .eql x.1 (A.lit 11)) (A.bl true) (A.cmp .eql x.1 (A.lit 12))) (A.bl true) (A.cmp .eql x.1 (A.lit 13)))
def Qr (A:Alg) (Qs:Pt A tX) (Qt:Ft A tX) (Qu:Pt A tV) (Qv:Ft A tV) (x:Tup A.ah [.x .ins]):Ot A tY:=
 A.l1 .b (A.bl false) fun x0=>
 A.cl Qu Qv (x.1,()) fun x1=>
 A.cg (A.ak x1.1 (A.cmp .neq (A.fI .ins 0 x.1) (A.lit 0)) (A.bl false)) Qs Qt (A.fI .ins 0 x.1,()) fun x2=>
 A.rb (A.ak (A.ak x1.1 (A.cmp .neq (A.fI .ins 0 x.1) (A.lit 0)) (A.bl false)) (A.aA x2.1) (A.bl false))
def Qw (A:Alg) (adX:Pt A DZ) (adY:Ft A DZ) (aW:Pt A fH) (aX:Ft A fH) (Qx:Pt A tY) (Qy:Ft A tY) (x:Tup A.ah [.l .u8,.i]):Ot A D6:=
 A.cl adX adY (x.1,x.2.1,()) fun x0=>
 A.cl Qx Qy (A.mkX .ins (x0.1,x0.2.1,x0.2.2.1,x0.2.2.2.1,()),()) fun x1=>
 A.cond (A.aA x1.1) (A.cl aW aX (A.lit 4,x0.q.1,x0.q.2.1,()) fun x2=>
 A.ret _ (A.lit 3,x0.2.1,x0.2.2.1,x2.1,x2.2.1,x2.2.2.1,()))<|
 A.ret _ (x0.1,x0.2.1,x0.2.2.1,x0.2.2.2.1,x0.q.1,x0.q.2.1,())
def Qz (A:Alg) (WQ:Pt A D6) (WR:Ft A D6) (aW:Pt A fH) (aX:Ft A fH) (x:Tup A.ah [.l .u8,.i]):Ot A D7:=
 A.l1 (.l .ins) (A.lst .ins []) fun x0=>
 A.cl aW aX (A.lit 8,x.1,x.2.1,()) fun x1=>
 A.l1 .i x1.1 fun x2=>
 A.iter [.i,.l .u8,.i,.l .ins] (fun x3=>
 A.cond (A.cmp .gtr x3.1 (A.lit 0)) (A.cl WQ WR (x3.2.1,x3.2.2.1,()) fun x4=>
 A.l1 (.l .ins) (A.lst .ins [A.mkX .ins (x4.1,x4.2.1,x4.2.2.1,x4.2.2.2.1,())]) fun x5=>
 A.chk (A.cmp .leq (A.addN (A.len .ins x3.2.2.2.1) (A.len .ins x5.1)) (A.lit 1073741824))<|
 A.l1 (.l .ins) (A.app .ins x3.2.2.2.1 x5.1) fun x6=>
 A.l1 .i (A.arith .sub .i64 x3.1 (A.lit 1)) fun x7=>
 A.inl _ (x7.1,x4.q.1,x4.q.2.1,x6.1,()))<|
 A.inr _<|A.cl aW aX (A.lit 3,x3.2.1,x3.2.2.1,()) fun x4=>
 A.l1 .b (A.cmp .eql x4.1 (A.lit 0)) fun x5=>
 A.cond x5.1 (A.cl aW aX (A.lit 2,x4.2.1,x4.2.2.1,()) fun x6=>
 A.cl aW aX (A.lit 4,x6.2.1,x6.2.2.1,()) fun x7=>
 A.cl aW aX (A.lit 4,x7.2.1,x7.2.2.1,()) fun x8=>
 A.cl aW aX (A.lit 64,x8.2.1,x8.2.2.1,()) fun x9=>
 A.l1 (.l .ins) (A.lst .ins [A.mkX .ins (A.arith .add .i64 (A.lit 11) x6.1,x7.1,x8.1,x9.1,())]) fun x10=>
 A.chk (A.cmp .leq (A.addN (A.len .ins x3.2.2.2.1) (A.len .ins x10.1)) (A.lit 1073741824))<|
 A.l1 (.l .ins) (A.app .ins x3.2.2.2.1 x10.1) fun x11=>
 A.ret _ (x9.2.1,x9.2.2.1,x11.1,()))<|
 A.l1 .b (A.cmp .eql x4.1 (A.lit 1)) fun x6=>
 A.cond x6.1 (A.cl aW aX (A.lit 4,x4.2.1,x4.2.2.1,()) fun x7=>
 A.l1 (.l .ins) (A.lst .ins [A.mkX .ins (A.lit 13,A.lit 0,x7.1,A.lit 0,())]) fun x8=>
 A.chk (A.cmp .leq (A.addN (A.len .ins x3.2.2.2.1) (A.len .ins x8.1)) (A.lit 1073741824))<|
 A.l1 (.l .ins) (A.app .ins x3.2.2.2.1 x8.1) fun x9=>
 A.ret _ (x7.2.1,x7.2.2.1,x9.1,()))<|
 A.cl WQ WR (x4.2.1,x4.2.2.1,()) fun x7=>
 A.l1 (.l .ins) (A.lst .ins [A.mkX .ins (x7.1,x7.2.1,x7.2.2.1,x7.2.2.2.1,())]) fun x8=>
 A.chk (A.cmp .leq (A.addN (A.len .ins x3.2.2.2.1) (A.len .ins x8.1)) (A.lit 1073741824))<|
 A.l1 (.l .ins) (A.app .ins x3.2.2.2.1 x8.1) fun x9=>
 A.ret _ (x7.q.1,x7.q.2.1,x9.1,())) (x2.1,x1.2.1,x1.2.2.1,x0.1,())
def QA (A:Alg) (Qs:Pt A tX) (Qt:Ft A tX) (Qu:Pt A tV) (Qv:Ft A tV) (fK:Pt A fJ) (fM:Ft A fJ) (Qx:Pt A tY) (Qy:Ft A tY) (x:Tup A.ah [.i,.l .ins]):Ot A D8:=
 A.l1 .b (A.bl false) fun x0=>
 A.cl fK fM (A.len .ins x.2.1,A.lit 1,A.lit 8,()) fun x1=>
 A.cg (A.aA (A.aA x1.1)) fK fM (x.1,A.lit 0,A.arith .sub .i64 (A.lit 64) (A.len .ins x.2.1),()) fun x2=>
 A.cond (A.ak (A.aA x1.1) (A.bl true) (A.aA x2.1)) (A.rb (A.bl false))<|
 A.l1 .i (A.lit 0) fun x3=>
 A.iter [.l .ins,.i] (fun x4=>
 A.cond (A.cmp .lss x4.2.1 (A.len .ins x4.1)) (A.bd .ins x4.1 x4.2.1<|
 A.cl Qx Qy (A.get .ins x4.1 x4.2.1,()) fun x5=>
 A.chk (A.orB (A.aA (A.mq (A.aA x5.1) (A.aA (A.cmp .lss x4.2.1 (A.arith .sub .i64 (A.len .ins x4.1) (A.lit 1)))))) (A.cmp .leq (A.lit 0) x4.2.1))<|
 A.chk (A.orB (A.aA (A.mq (A.aA x5.1) (A.aA (A.cmp .lss x4.2.1 (A.arith .sub .i64 (A.len .ins x4.1) (A.lit 1)))))) (A.cmp .lss x4.2.1 (A.len .ins x4.1)))<|
 A.cg (A.mq (A.aA x5.1) (A.aA (A.cmp .lss x4.2.1 (A.arith .sub .i64 (A.len .ins x4.1) (A.lit 1))))) Qu Qv (A.get .ins x4.1 x4.2.1,()) fun x6=>
 A.chk (A.orB (A.aA (A.mq (A.aA x5.1) (A.aA (A.ak (A.cmp .lss x4.2.1 (A.arith .sub .i64 (A.len .ins x4.1) (A.lit 1))) (A.bl true) (A.aA x6.1))))) (A.cmp .leq (A.lit 0) x4.2.1))<|
 A.chk (A.orB (A.aA (A.mq (A.aA x5.1) (A.aA (A.ak (A.cmp .lss x4.2.1 (A.arith .sub .i64 (A.len .ins x4.1) (A.lit 1))) (A.bl true) (A.aA x6.1))))) (A.cmp .lss x4.2.1 (A.len .ins x4.1)))<|
 A.cg (A.mq (A.aA x5.1) (A.aA (A.ak (A.cmp .lss x4.2.1 (A.arith .sub .i64 (A.len .ins x4.1) (A.lit 1))) (A.bl true) (A.aA x6.1)))) Qs Qt (A.fI .ins 0 (A.get .ins x4.1 x4.2.1),()) fun x7=>
 A.cond (A.ak (A.aA x5.1) (A.ak (A.ak (A.cmp .lss x4.2.1 (A.arith .sub .i64 (A.len .ins x4.1) (A.lit 1))) (A.bl true) (A.aA x6.1)) (A.bl true) (A.aA x7.1)) (A.bl false)) (A.l1 .b (A.bl false) fun x8=>
 A.inr _<|A.ret _ (x8.1,()))<|
 A.l1 .i (A.arith .add .i64 x4.2.1 (A.lit 1)) fun x8=>
 A.inl _ (x4.1,x8.1,()))<|
 A.inr _<|A.rb (A.bl true)) (x.2.1,x3.1,())
def QB (A:Alg) (x:Tup A.ah [.i,.i,.i,.i,.i,.i,.x .iop,.l .iop]):Ot A iE:=
 A.l1 .i (A.lit 0) fun x0=>
 A.l1 (.l .iop) (A.lst .iop [x.q.2.2.1]) fun x1=>
 A.chk (A.cmp .leq (A.addN (A.len .iop x.q.2.2.2.1) (A.len .iop x1.1)) (A.lit 1073741824))<|
 A.l1 (.l .iop) (A.app .iop x.q.2.2.2.1 x1.1) fun x2=>
 A.l1 .i (A.arith .sub .i64 (A.len .iop x2.1) (A.lit 1)) fun x3=>
 A.ret _ (x.1,x.2.1,x.2.2.1,x.2.2.2.1,x.q.1,x.q.2.1,x3.1,x2.1,())
def QC (A:Alg) (jV:Pt A iE) (jW:Ft A iE) (x:Tup A.ah [.i,.i,.i,.i,.i,.i,.i,.i,.l .iop]):Ot A tZ:=
 A.cl jV jW (x.1,x.2.1,x.2.2.1,x.2.2.2.1,x.q.1,x.q.2.1,A.mkX .iop (A.lit 8,x.q.2.2.2.1,A.lit 0,x.q.2.2.1,A.lit 0,()),x.o.1,()) fun x0=>
 A.l1 .i x0.q.2.2.1 fun x1=>
 A.ret _ (x0.1,x0.2.1,x0.2.2.1,x0.2.2.2.1,x0.q.1,x0.q.2.1,x0.q.2.2.2.1,())
def QD (A:Alg) (jV:Pt A iE) (jW:Ft A iE) (x:Tup A.ah [.i,.i,.i,.i,.i,.i,.i,.l .iop]):Ot A jF:=
 A.l1 .i (A.lit 0) fun x0=>
 A.cl jV jW (x.1,x.2.1,x.2.2.1,x.2.2.2.1,x.q.1,x.q.2.1,A.mkX .iop (A.lit 2,A.lit 0,A.lit 0,x.q.2.2.1,A.lit 0,()),x.q.2.2.2.1,()) fun x1=>
 A.l1 .i x1.q.2.2.1 fun x2=>
 A.ret _ (x1.1,x1.2.1,x1.2.2.1,x1.2.2.2.1,x1.q.1,x1.q.2.1,x2.1,x1.q.2.2.2.1,())
def QE (A:Alg) (oO:Pt A jF) (oP:Ft A jF) (jV:Pt A iE) (jW:Ft A iE) (x:Tup A.ah [.i,.i,.i,.i,.i,.i,.i,.i,.x .iop,.l .iop]):Ot A uf:=
 A.l1 .i (A.lit 0) fun x0=>
 A.cl oO oP (x.1,x.2.1,x.2.2.1,x.2.2.2.1,x.q.1,x.q.2.1,x.q.2.2.2.1,x.o.2.1,()) fun x1=>
 A.l1 .i x1.q.2.2.1 fun x2=>
 A.cl jV jW (x1.1,x1.2.1,x1.2.2.1,x1.2.2.2.1,x1.q.1,x1.q.2.1,x.o.1,x1.q.2.2.2.1,()) fun x3=>
 A.l1 .i x3.q.2.2.1 fun x4=>
 A.cl jV jW (x3.1,x3.2.1,x3.2.2.1,x3.2.2.2.1,x3.q.1,x3.q.2.1,A.mkX .iop (A.lit 3,x2.1,x4.1,x.q.2.2.1,A.lit 0,()),x3.q.2.2.2.1,()) fun x5=>
 A.l1 .i x5.q.2.2.1 fun x6=>
 A.ret _ (x5.1,x5.2.1,x5.2.2.1,x5.2.2.2.1,x5.q.1,x5.q.2.1,x6.1,x5.q.2.2.2.1,())
def QF (A:Alg) (x:Tup A.ah [.i]):Ot A D9:=
 A.l1 .i (A.lit 0) fun x0=>
 A.l1 .i (A.lit 1) fun x1=>
 A.l1 .i (A.lit 0) fun x2=>
 A.iter [.i,.i,.i] (fun x3=>
 A.cond (A.cmp .lss x3.2.2.1 x3.1) (A.l1 .i (A.arith .add .i64 x3.2.1 x3.2.1) fun x4=>
 A.l1 .i (A.arith .add .i64 x3.2.2.1 (A.lit 1)) fun x5=>
 A.inl _ (x3.1,x4.1,x5.1,()))<|
 A.inr _<|A.l1 .i x3.2.1 fun x4=>
 A.ret _ (x4.1,())) (x.1,x1.1,x2.1,())
def QG (A:Alg) (oO:Pt A jF) (oP:Ft A jF) (jV:Pt A iE) (jW:Ft A iE) (JF:Pt A uf) (JG:Ft A uf) (xQ:Pt A tZ) (xR:Ft A tZ) (x:Tup A.ah [.i,.i,.i,.i,.i,.i,.x .ins,.i,.l .iop]):Ot A Ea:=
 A.cl JF JG (x.1,x.2.1,x.2.2.1,x.2.2.2.1,x.q.1,x.q.2.1,A.lit 1,A.fI .ins 2 x.q.2.2.1,A.mkX .iop (A.lit 1,A.lit 0,A.lit 0,A.fI .ins 3 x.q.2.2.1,A.lit 0,()),x.o.1,()) fun x0=>
 A.l1 .i x0.q.2.2.1 fun x1=>
 A.cond (A.cmp .eql (A.fI .ins 0 x.q.2.2.1) (A.lit 9)) (A.cl jV jW (x0.1,x0.2.1,x0.2.2.1,x0.2.2.2.1,x0.q.1,x0.q.2.1,A.mkX .iop (A.lit 4,x1.1,A.lit 0,A.lit 0,x.q.2.2.2.1,()),x0.q.2.2.2.1,()) fun x2=>
 A.l1 .i x2.q.2.2.1 fun x3=>
 A.cl xQ xR (x2.1,x2.2.1,x2.2.2.1,x2.2.2.2.1,x2.q.1,x2.q.2.1,A.fI .ins 1 x.q.2.2.1,x3.1,x2.q.2.2.2.1,()) fun x4=>
 A.ret _ (x4.1,x4.2.1,x4.2.2.1,x4.2.2.2.1,x4.q.1,x4.q.2.1,x4.q.2.2.1,()))<|
 A.cl oO oP (x0.1,x0.2.1,x0.2.2.1,x0.2.2.2.1,x0.q.1,x0.q.2.1,A.fI .ins 1 x.q.2.2.1,x0.q.2.2.2.1,()) fun x2=>
 A.l1 .i x2.q.2.2.1 fun x3=>
 A.cl jV jW (x2.1,x2.2.1,x2.2.2.1,x2.2.2.2.1,x2.q.1,x2.q.2.1,A.mkX .iop (A.lit 5,x1.1,x3.1,A.lit 0,x.q.2.2.2.1,()),x2.q.2.2.2.1,()) fun x4=>
 A.l1 .i x4.q.2.2.1 fun x5=>
 A.ret _ (x4.1,x4.2.1,x4.2.2.1,x4.2.2.2.1,x4.q.1,x4.q.2.1,x4.q.2.2.2.1,())
def QH (A:Alg) (oO:Pt A jF) (oP:Ft A jF) (x:Tup A.ah [.i,.i,.i,.i,.i,.i,.x .ins,.l .iop]):Ot A Eb:=
 A.cond (A.cmp .eql (A.fI .ins 0 x.q.2.2.1) (A.lit 13)) (A.cl oO oP (x.1,x.2.1,x.2.2.1,x.2.2.2.1,x.q.1,x.q.2.1,A.fI .ins 2 x.q.2.2.1,x.q.2.2.2.1,()) fun x0=>
 A.l1 .i x0.q.2.2.1 fun x1=>
 A.l1 .i (A.lit 2) fun x2=>
 A.l1 .i x1.1 fun x3=>
 A.l1 .i (A.lit 0) fun x4=>
 A.ret _ (x0.1,x0.2.1,x2.1,x3.1,x0.q.1,x4.1,x0.q.2.2.2.1,()))<|
 A.cl oO oP (x.1,x.2.1,x.2.2.1,x.2.2.2.1,x.q.1,x.q.2.1,A.fI .ins 1 x.q.2.2.1,x.q.2.2.2.1,()) fun x0=>
 A.l1 .i x0.q.2.2.1 fun x1=>
 A.cl oO oP (x0.1,x0.2.1,x0.2.2.1,x0.2.2.2.1,x0.q.1,x0.q.2.1,A.fI .ins 2 x.q.2.2.1,x0.q.2.2.2.1,()) fun x2=>
 A.l1 .i x2.q.2.2.1 fun x3=>
 A.l1 .i (A.lit 3) fun x4=>
 A.bind [.i,.i,.x .ins,.i,.i,.i,.i,.i,.i,.i,.i,.i,.i,.i,.i,.l .iop] (A.cond (A.cmp .eql (A.fI .ins 0 x.q.2.2.1) (A.lit 12)) (A.l1 .i (A.lit 4) fun x5=>
 A.ret _ (x1.1,x3.1,x.q.2.2.1,A.lit 0,A.lit 0,A.lit 0,A.lit 0,A.lit 0,A.lit 0,x2.1,x2.2.1,x5.1,x2.2.2.2.1,x2.q.1,x2.q.2.1,x2.q.2.2.2.1,()))<|
 A.ret _ (x1.1,x3.1,x.q.2.2.1,A.lit 0,A.lit 0,A.lit 0,A.lit 0,A.lit 0,A.lit 0,x2.1,x2.2.1,x4.1,x2.2.2.2.1,x2.q.1,x2.q.2.1,x2.q.2.2.2.1,())) fun x5=>
 A.l1 .i x5.1 fun x6=>
 A.l1 .i x5.2.1 fun x7=>
 A.l1 .i (A.fI .ins 3 x5.2.2.1) fun x8=>
 A.ret _ (x5.o.2.1,x5.o.2.2.1,x5.o.2.2.2.1,x6.1,x7.1,x8.1,x5.o.q.2.2.2.1,())
def QI (A:Alg) (oO:Pt A jF) (oP:Ft A jF) (adZ:Pt A Eb) (ad1:Ft A Eb) (jV:Pt A iE) (jW:Ft A iE) (ad2:Pt A Ea) (ad3:Ft A Ea) (JF:Pt A uf) (JG:Ft A uf) (xQ:Pt A tZ) (xR:Ft A tZ) (ad4:Pt A D9) (ad5:Ft A D9) (x:Tup A.ah [.i,.i,.i,.i,.i,.i,.x .ins,.i,.l .iop]):Ot A Ec:=
 A.l1 .b (A.cmp .eql (A.fI .ins 0 x.q.2.2.1) (A.lit 1)) fun x0=>
 A.cond x0.1 (A.cl jV jW (x.1,x.2.1,x.2.2.1,x.2.2.2.1,x.q.1,x.q.2.1,A.mkX .iop (A.lit 1,A.lit 0,A.lit 0,A.fI .ins 3 x.q.2.2.1,A.lit 0,()),x.o.1,()) fun x1=>
 A.l1 .i x1.q.2.2.1 fun x2=>
 A.cl xQ xR (x1.1,x1.2.1,x1.2.2.1,x1.2.2.2.1,x1.q.1,x1.q.2.1,A.fI .ins 1 x.q.2.2.1,x2.1,x1.q.2.2.2.1,()) fun x3=>
 A.ret _ (x3.1,x3.2.1,x3.2.2.1,x3.2.2.2.1,x3.q.1,x3.q.2.1,x3.q.2.2.1,()))<|
 A.l1 .b (A.cmp .eql (A.fI .ins 0 x.q.2.2.1) (A.lit 2)) fun x1=>
 A.cond x1.1 (A.cl oO oP (x.1,x.2.1,x.2.2.1,x.2.2.2.1,x.q.1,x.q.2.1,A.fI .ins 2 x.q.2.2.1,x.o.1,()) fun x2=>
 A.l1 .i x2.q.2.2.1 fun x3=>
 A.cl xQ xR (x2.1,x2.2.1,x2.2.2.1,x2.2.2.2.1,x2.q.1,x2.q.2.1,A.fI .ins 1 x.q.2.2.1,x3.1,x2.q.2.2.2.1,()) fun x4=>
 A.ret _ (x4.1,x4.2.1,x4.2.2.1,x4.2.2.2.1,x4.q.1,x4.q.2.1,x4.q.2.2.1,()))<|
 A.l1 .b (A.cmp .eql (A.fI .ins 0 x.q.2.2.1) (A.lit 8)) fun x2=>
 A.cond x2.1 (A.cl ad4 ad5 (A.fI .ins 3 x.q.2.2.1,()) fun x3=>
 A.cl JF JG (x.1,x.2.1,x.2.2.1,x.2.2.2.1,x.q.1,x.q.2.1,A.lit 3,A.fI .ins 2 x.q.2.2.1,A.mkX .iop (A.lit 1,A.lit 0,A.lit 0,x3.1,A.lit 0,()),x.o.1,()) fun x4=>
 A.l1 .i x4.q.2.2.1 fun x5=>
 A.cl xQ xR (x4.1,x4.2.1,x4.2.2.1,x4.2.2.2.1,x4.q.1,x4.q.2.1,A.fI .ins 1 x.q.2.2.1,x5.1,x4.q.2.2.2.1,()) fun x6=>
 A.ret _ (x6.1,x6.2.1,x6.2.2.1,x6.2.2.2.1,x6.q.1,x6.q.2.1,x6.q.2.2.1,()))<|
 A.l1 .b (A.cmp .eql (A.fI .ins 0 x.q.2.2.1) (A.lit 9)) fun x3=>
 A.bind [.i,.i,.b,.l .iop,.i,.i,.i,.i,.i,.i,.x .ins,.i,.i,.i,.i,.i,.i] (A.cond x3.1 (A.ret _ (x.q.2.2.2.1,A.fI .ins 0 x.q.2.2.1,x3.1,x.o.1,x.1,x.2.1,x.2.2.1,x.2.2.2.1,x.q.1,x.q.2.1,x.q.2.2.1,A.lit 0,A.lit 0,A.lit 0,A.lit 0,A.lit 0,A.lit 0,()))<|
 A.l1 .b (A.cmp .eql (A.fI .ins 0 x.q.2.2.1) (A.lit 10)) fun x4=>
 A.ret _ (x.q.2.2.2.1,A.fI .ins 0 x.q.2.2.1,x4.1,x.o.1,x.1,x.2.1,x.2.2.1,x.2.2.2.1,x.q.1,x.q.2.1,x.q.2.2.1,A.lit 0,A.lit 0,A.lit 0,A.lit 0,A.lit 0,A.lit 0,())) fun x4=>
 A.cond x4.2.2.1 (A.cl ad2 ad3 (x4.q.1,x4.q.2.1,x4.q.2.2.1,x4.q.2.2.2.1,x4.o.1,x4.o.2.1,x4.o.2.2.1,x4.1,x4.2.2.2.1,()) fun x5=>
 A.ret _ (x5.1,x5.2.1,x5.2.2.1,x5.2.2.2.1,x5.q.1,x5.q.2.1,x5.q.2.2.1,()))<|
 A.l1 .b (A.cmp .eql x4.2.1 (A.lit 14)) fun x5=>
 A.cond x5.1 (A.cl oO oP (x4.q.1,x4.q.2.1,x4.q.2.2.1,x4.q.2.2.2.1,x4.o.1,x4.o.2.1,A.fI .ins 1 x4.o.2.2.1,x4.2.2.2.1,()) fun x6=>
 A.l1 .i x6.q.2.2.1 fun x7=>
 A.cl jV jW (x6.1,x6.2.1,x6.2.2.1,x6.2.2.2.1,x6.q.1,x6.q.2.1,A.mkX .iop (A.lit 7,x7.1,A.lit 0,A.lit 0,x4.1,()),x6.q.2.2.2.1,()) fun x8=>
 A.l1 .i x8.q.2.2.1 fun x9=>
 A.ret _ (x8.1,x8.2.1,x8.2.2.1,x8.2.2.2.1,x8.q.1,x8.q.2.1,x8.q.2.2.2.1,()))<|
 A.l1 .b (A.cmp .eql x4.2.1 (A.lit 15)) fun x6=>
 A.cond x6.1 (A.cl jV jW (x4.q.1,x4.q.2.1,x4.q.2.2.1,x4.q.2.2.2.1,x4.o.1,x4.o.2.1,A.mkX .iop (A.lit 6,A.lit 0,A.lit 0,A.lit 0,x4.1,()),x4.2.2.2.1,()) fun x7=>
 A.l1 .i x7.q.2.2.1 fun x8=>
 A.cl xQ xR (x7.1,x7.2.1,x7.2.2.1,x7.2.2.2.1,x7.q.1,x7.q.2.1,A.fI .ins 1 x4.o.2.2.1,x8.1,x7.q.2.2.2.1,()) fun x9=>
 A.ret _ (x9.1,x9.2.1,x9.2.2.1,x9.2.2.2.1,x9.q.1,x9.q.2.1,x9.q.2.2.1,()))<|
 A.l1 .b (A.cmp .eql x4.2.1 (A.lit 11)) fun x7=>
 A.bind [.b,.l .iop,.i,.i,.i,.i,.i,.i,.x .ins,.i,.i,.i,.i,.i,.i] (A.cond x7.1 (A.ret _ (x7.1,x4.2.2.2.1,x4.q.1,x4.q.2.1,x4.q.2.2.1,x4.q.2.2.2.1,x4.o.1,x4.o.2.1,x4.o.2.2.1,x4.o.2.2.2.1,x4.o.q.1,x4.o.q.2.1,x4.o.q.2.2.1,x4.o.q.2.2.2.1,x4.o.o.1,()))<|
 A.l1 .b (A.cmp .eql x4.2.1 (A.lit 12)) fun x8=>
 A.bind [.b,.l .iop,.i,.i,.i,.i,.i,.i,.x .ins,.i,.i,.i,.i,.i,.i] (A.cond x8.1 (A.ret _ (x8.1,x4.2.2.2.1,x4.q.1,x4.q.2.1,x4.q.2.2.1,x4.q.2.2.2.1,x4.o.1,x4.o.2.1,x4.o.2.2.1,x4.o.2.2.2.1,x4.o.q.1,x4.o.q.2.1,x4.o.q.2.2.1,x4.o.q.2.2.2.1,x4.o.o.1,()))<|
 A.l1 .b (A.cmp .eql x4.2.1 (A.lit 13)) fun x9=>
 A.ret _ (x9.1,x4.2.2.2.1,x4.q.1,x4.q.2.1,x4.q.2.2.1,x4.q.2.2.2.1,x4.o.1,x4.o.2.1,x4.o.2.2.1,x4.o.2.2.2.1,x4.o.q.1,x4.o.q.2.1,x4.o.q.2.2.1,x4.o.q.2.2.2.1,x4.o.o.1,())) fun x9=>
 A.ret _ (x9.1,x9.2.1,x9.2.2.1,x9.2.2.2.1,x9.q.1,x9.q.2.1,x9.q.2.2.1,x9.q.2.2.2.1,x9.o.1,x9.o.2.1,x9.o.2.2.1,x9.o.2.2.2.1,x9.o.q.1,x9.o.q.2.1,x9.o.q.2.2.1,())) fun x8=>
 A.cond x8.1 (A.cl adZ ad1 (x8.2.2.1,x8.2.2.2.1,x8.q.1,x8.q.2.1,x8.q.2.2.1,x8.q.2.2.2.1,x8.o.1,x8.2.1,()) fun x9=>
 A.ret _ (x9.1,x9.2.1,x9.2.2.1,x9.2.2.2.1,x9.q.1,x9.q.2.1,x9.q.2.2.1,()))<|
 A.cl JF JG (x8.2.2.1,x8.2.2.2.1,x8.q.1,x8.q.2.1,x8.q.2.2.1,x8.q.2.2.2.1,A.arith .add .i64 (A.arith .sub .i64 (A.fI .ins 0 x8.o.1) (A.lit 3)) (A.lit 1),A.fI .ins 2 x8.o.1,A.mkX .iop (A.lit 2,A.lit 0,A.lit 0,A.fI .ins 3 x8.o.1,A.lit 0,()),x8.2.1,()) fun x9=>
 A.l1 .i x9.q.2.2.1 fun x10=>
 A.cl xQ xR (x9.1,x9.2.1,x9.2.2.1,x9.2.2.2.1,x9.q.1,x9.q.2.1,A.fI .ins 1 x8.o.1,x10.1,x9.q.2.2.2.1,()) fun x11=>
 A.ret _ (x11.1,x11.2.1,x11.2.2.1,x11.2.2.2.1,x11.q.1,x11.q.2.1,x11.q.2.2.1,())
def QJ (A:Alg) (ad6:Pt A D8) (ad7:Ft A D8) (ad8:Pt A Ec) (ad9:Ft A Ec) (x:Tup A.ah [.i,.l .ins]):Ot A Ed:=
 A.cl ad6 ad7 (x.1,x.2.1,()) fun x0=>
 A.cond (A.aA x0.1) (A.ret _ (A.lit 0,A.lit 0,A.lit 0,A.lit 0,A.lit 0,A.lit 0,A.bQ .iop,()))<|
 A.l1 .i (A.lit 0) fun x1=>
 A.iter [.l .ins,.i,.i,.i,.i,.i,.i,.i,.i,.i,.i,.i,.i,.i,.l .iop] (fun x2=>
 A.cond (A.cmp .lss x2.2.1 (A.len .ins x2.1)) (A.bd .ins x2.1 x2.2.1<|
 A.cl ad8 ad9 (x2.o.1,x2.o.2.1,x2.o.2.2.1,x2.o.2.2.2.1,x2.o.q.1,x2.o.q.2.1,A.get .ins x2.1 x2.2.1,x2.2.1,x2.o.q.2.2.1,()) fun x3=>
 A.l1 .i (A.arith .add .i64 x2.2.1 (A.lit 1)) fun x4=>
 A.inl _ (x2.1,x4.1,x2.2.2.1,x2.2.2.2.1,x2.q.1,x2.q.2.1,x2.q.2.2.1,x2.q.2.2.2.1,x3.1,x3.2.1,x3.2.2.1,x3.2.2.2.1,x3.q.1,x3.q.2.1,x3.q.2.2.1,()))<|
 A.inr _<|A.ret _ (x2.o.1,x2.o.2.1,x2.o.2.2.1,x2.o.2.2.2.1,x2.o.q.1,x2.o.q.2.1,x2.o.q.2.2.1,())) (x.2.1,x1.1,A.lit 0,A.lit 0,A.lit 0,A.lit 0,A.lit 0,A.lit 0,x.1,A.len .ins x.2.1,A.lit 1,A.lit 0,A.lit 0,A.arith .add .i64 x.1 (A.len .ins x.2.1),A.bQ .iop,())
def QK (A:Alg) (aea:Pt A Ed) (aeb:Ft A Ed) (aec:Pt A DY) (aed:Ft A DY) (Qj:Pt A tN) (Qk:Ft A tN) (aW:Pt A fH) (aX:Ft A fH) (aee:Pt A D7) (aef:Ft A D7) (x:Tup A.ah [.l .u8,.i]):Ot A Ee:=
 A.cl aee aef (x.1,x.2.1,()) fun x0=>
 A.cl aW aX (A.lit 50,x0.1,x0.2.1,()) fun x1=>
 A.l1 (.l .i64) (A.lst .i64 [A.mkX .i64 (A.lit 0,()),A.mkX .i64 (A.lit 1,()),A.mkX .i64 (x1.1,()),A.mkX .i64 (A.arith .sub .i64 (A.lit 64) (A.len .ins x0.2.2.1),())]) fun x2=>
 A.cl aW aX (A.lit 4,x1.2.1,x1.2.2.1,()) fun x3=>
 A.bd .i64 x2.1 x3.1<|
 A.bd .i64 x2.1 x3.1<|
 A.cl aea aeb (A.fI .i64 0 (A.get .i64 x2.1 x3.1),x0.2.2.1,()) fun x4=>
 A.cl aW aX (A.lit 5,x3.2.1,x3.2.2.1,()) fun x5=>
 A.l1 .b (A.cmp .eql x5.1 (A.lit 0)) fun x6=>
 A.cond x6.1 (A.cl aec aed (A.mkX .blk (x4.1,x4.2.1,x4.q.2.2.1,x4.2.2.1,x4.2.2.2.1,x4.q.1,x4.q.2.1,()),()) fun x7=>
 A.ret _ (x7.1,x7.2.1,x7.2.2.1,x7.2.2.2.1,x7.q.1,x7.q.2.1,x5.2.1,x5.2.2.1,x7.q.2.2.1,()))<|
 A.l1 .b (A.cmp .eql x5.1 (A.lit 1)) fun x7=>
 A.cond x7.1 (A.cl Qj Qk (A.mkX .blk (x4.1,x4.2.1,x4.q.2.2.1,x4.2.2.1,x4.2.2.2.1,x4.q.1,x4.q.2.1,()),()) fun x8=>
 A.ret _ (x8.1,x8.2.1,x8.2.2.1,x8.2.2.2.1,x8.q.1,x8.q.2.1,x5.2.1,x5.2.2.1,x8.q.2.2.1,()))<|
 A.ret _ (x4.1,x4.2.1,x4.2.2.1,x4.2.2.2.1,x4.q.1,x4.q.2.1,x5.2.1,x5.2.2.1,x4.q.2.2.1,())
def aeg (A:Alg) (x:Tup A.ah [.i]):Ot A LK:=
 A.l1 .b (A.bl false) fun x0=>
 A.rb (A.cmp .neq x.1 x.1)
def aeh (A:Alg) (WS:Pt A LK) (WT:Ft A LK) (x:Tup A.ah [.i,.i]):Ot A Ef:=
 A.l1 .i (A.lit 0) fun x0=>
 A.cl WS WT (x.1,()) fun x1=>
 A.l1 .b x1.1 fun x2=>
 A.cl WS WT (x.2.1,()) fun x3=>
 A.l1 .b x3.1 fun x4=>
 A.cond x2.1 (A.cond x4.1 (A.l1 .i (A.lit 0) fun x5=>
 A.ret _ (x5.1,()))<|
 A.l1 .i (A.lit (-1)) fun x5=>
 A.ret _ (x5.1,()))<|
 A.cond x4.1 (A.l1 .i (A.lit 1) fun x5=>
 A.ret _ (x5.1,()))<|
 A.cond (A.cmp .lss x.1 x.2.1) (A.l1 .i (A.lit (-1)) fun x5=>
 A.ret _ (x5.1,()))<|
 A.cond (A.cmp .gtr x.1 x.2.1) (A.l1 .i (A.lit 1) fun x5=>
 A.ret _ (x5.1,()))<|
 A.l1 .i (A.lit 0) fun x5=>
 A.ret _ (x5.1,())
def aei (A:Alg) (x:Tup A.ah [.l .i64]):Ot A LM:=
 A.l1 .i (A.lit 0) fun x0=>
 A.l1 .i (A.lit 0) fun x1=>
 A.iter [.i,.l .i64,.i,.i] (fun x2=>
 A.cond (A.cmp .lss x2.2.2.2.1 x2.2.2.1) (A.bd .i64 x2.2.1 x2.2.2.2.1<|
 A.l1 .i (A.fI .i64 0 (A.get .i64 x2.2.1 x2.2.2.2.1)) fun x3=>
 A.cond (A.cmp .neq x3.1 x2.1) (A.l1 .i x3.1 fun x4=>
 A.inr _<|A.ret _ (x4.1,()))<|
 A.inl _ (x2.1,x2.2.1,x2.2.2.1,A.arith .add .i64 x2.2.2.2.1 (A.lit 1),()))<|
 A.inr _<|A.l1 .i x2.1 fun x3=>
 A.ret _ (x3.1,())) (x1.1,x.1,A.len .i64 x.1,A.lit 0,())
def WU (A:Alg) (Vm:Pt A Ef) (Vn:Ft A Ef) (x:Tup A.ah [.l .i64,.l .i64]):Ot A LP:=
 A.l1 .i (A.lit 0) fun x0=>
 A.iter [.l .i64,.l .i64,.l .i64,.i,.i] (fun x1=>
 A.cond (A.cmp .lss x1.q.1 x1.2.2.2.1) (A.bd .i64 x1.2.2.1 x1.q.1<|
 A.l1 .i x1.q.1 fun x2=>
 A.l1 .i (A.fI .i64 0 (A.get .i64 x1.2.2.1 x1.q.1)) fun x3=>
 A.cond (A.cmp .geq x2.1 (A.len .i64 x1.2.1)) (A.l1 .i (A.lit 1) fun x4=>
 A.inr _<|A.ret _ (x4.1,()))<|
 A.bd .i64 x1.2.1 x2.1<|
 A.l1 .i (A.fI .i64 0 (A.get .i64 x1.2.1 x2.1)) fun x4=>
 A.cl Vm Vn (x3.1,x4.1,()) fun x5=>
 A.l1 .i x5.1 fun x6=>
 A.cond (A.cmp .neq x6.1 (A.lit 0)) (A.l1 .i x6.1 fun x7=>
 A.inr _<|A.ret _ (x7.1,()))<|
 A.inl _ (x1.1,x1.2.1,x1.2.2.1,x1.2.2.2.1,A.arith .add .i64 x1.q.1 (A.lit 1),()))<|
 A.inr _<|A.cond (A.cmp .lss (A.len .i64 x1.1) (A.len .i64 x1.2.1)) (A.l1 .i (A.lit (-1)) fun x2=>
 A.ret _ (x2.1,()))<|
 A.l1 .i (A.lit 0) fun x2=>
 A.ret _ (x2.1,())) (x.1,x.2.1,x.1,A.len .i64 x.1,A.lit 0,())
def WW (A:Alg) (aej:Pt A LM) (aek:Ft A LM) (Vm:Pt A Ef) (Vn:Ft A Ef) (aj7:Pt A LP) (aj8:Ft A LP) (x:Tup A.ah [.l .i64,.l .i64]):Ot A nX:=
 A.l1 .i (A.lit 0) fun x0=>
 A.cl Vm Vn (A.len .i64 x.1,A.len .i64 x.2.1,()) fun x1=>
 A.cl aj7 aj8 (x.1,x.2.1,()) fun x2=>
 A.l1 (.l .i64) (A.lst .i64 [A.mkX .i64 (x1.1,()),A.mkX .i64 (x2.1,())]) fun x3=>
 A.cl aej aek (x3.1,()) fun x4=>
 A.l1 .i x4.1 fun x5=>
 A.ret _ (x5.1,())
def WX (A:Alg) (x:Tup A.ah [.i,.i,.i]):Ot A bY:=
 A.l1 .b (A.bl false) fun x0=>
 A.rb (A.ak (A.cmp .leq x.2.1 x.1) (A.cmp .leq x.1 x.2.2.1) (A.bl false))
def ael (A:Alg) (WS:Pt A LK) (WT:Ft A LK) (x:Tup A.ah [.i,.i]):Ot A Eh:=
 A.l1 .b (A.bl false) fun x0=>
 A.cl WS WT (x.1,()) fun x1=>
 A.cg x1.1 WS WT (x.2.1,()) fun x2=>
 A.rb (A.ak (A.ak x1.1 (A.aA x2.1) (A.bl false)) (A.bl true) (A.cmp .lss x.1 x.2.1))
def QL (A:Alg) (WY:Pt A Eh) (WZ:Ft A Eh) (x:Tup A.ah [.l .i64]):Ot A Ei:=
 A.l1 .b (A.bl false) fun x0=>
 A.l1 .i (A.arith .sub .i64 (A.len .i64 x.1) (A.lit 1)) fun x1=>
 A.iter [.l .i64,.i] (fun x2=>
 A.cond (A.cmp .gtr x2.2.1 (A.lit 0)) (A.bd .i64 x2.1 x2.2.1<|
 A.bd .i64 x2.1 (A.arith .sub .i64 x2.2.1 (A.lit 1))<|
 A.cl WY WZ (A.fI .i64 0 (A.get .i64 x2.1 x2.2.1),A.fI .i64 0 (A.get .i64 x2.1 (A.arith .sub .i64 x2.2.1 (A.lit 1))),()) fun x3=>
 A.cond x3.1 (A.l1 .b (A.bl false) fun x4=>
 A.inr _<|A.ret _ (x4.1,()))<|
 A.l1 .i (A.arith .sub .i64 x2.2.1 (A.lit 1)) fun x4=>
 A.inl _ (x2.1,x4.1,()))<|
 A.inr _<|A.rb (A.bl true)) (x.1,x1.1,())
def W9 (A:Alg) (x:Tup A.ah [.i,.i]):Ot A LQ:=
 A.l1 .b (A.bl false) fun x0=>
 A.l1 .b (A.cmp .geq x.1 x.2.1) fun x1=>
 A.ret _ (x1.1,x.2.1,())
def QM (A:Alg) (aj9:Pt A LQ) (akb:Ft A LQ) (x:Tup A.ah [.l .i64,.i]):Ot A Ej:=
 A.l1 .i (A.lit 0) fun x0=>
 A.iter [.l .i64,.i,.i,.i] (fun x1=>
 A.cond (A.cmp .lss x1.2.2.1 x1.2.1) (A.l1 .i x1.2.2.1 fun x2=>
 A.bd .i64 x1.1 x2.1<|
 A.cl aj9 akb (A.fI .i64 0 (A.get .i64 x1.1 x2.1),x1.2.2.2.1,()) fun x3=>
 A.cond x3.1 (A.l1 .i x2.1 fun x4=>
 A.inr _<|A.ret _ (x4.1,x3.2.1,()))<|
 A.inl _ (x1.1,x1.2.1,A.arith .add .i64 x1.2.2.1 (A.lit 1),x3.2.1,()))<|
 A.inr _<|A.l1 .i (A.lit (-1)) fun x2=>
 A.ret _ (x2.1,x1.2.2.2.1,())) (x.1,A.len .i64 x.1,A.lit 0,x.2.1,())
def QN (A:Alg) (aem:Pt A Ej) (aen:Ft A Ej) (x:Tup A.ah [.l .i64,.i]):Ot A El:=
 A.l1 .b (A.bl false) fun x0=>
 A.cl aem aen (x.1,x.2.1,()) fun x1=>
 A.l1 .b (A.cmp .geq x1.1 (A.lit 0)) fun x2=>
 A.ret _ (x2.1,x1.2.1,())
def Xa (A:Alg) (aeo:Pt A El) (aep:Ft A El) (x:Tup A.ah [.x .poly,.i]):Ot A AQ:=
 A.l1 .b (A.bl false) fun x0=>
 A.iter [.l .mono,.i,.i,.i] (fun x1=>
 A.cond (A.cmp .lss x1.2.2.1 x1.2.1) (A.bd .mono x1.1 x1.2.2.1<|
 A.l1 (.x .mono) (A.get .mono x1.1 x1.2.2.1) fun x2=>
 A.cl aeo aep (A.fL .mono 1 .i64 x2.1,x1.2.2.2.1,()) fun x3=>
 A.cond x3.1 (A.l1 .b (A.bl false) fun x4=>
 A.inr _<|A.ret _ (x4.1,()))<|
 A.inl _ (x1.1,x1.2.1,A.arith .add .i64 x1.2.2.1 (A.lit 1),x3.2.1,()))<|
 A.inr _<|A.rb (A.bl true)) (A.fL .poly 0 .mono x.1,A.len .mono (A.fL .poly 0 .mono x.1),A.lit 0,x.2.1,())
def Xb (A:Alg) (x:Tup A.ah [.x .mono]):Ot A LU:=
 A.l1 .b (A.bl false) fun x0=>
 A.chk (A.orB (A.aA (A.cmp .gtr (A.len .i64 (A.fL .mono 1 .i64 x.1)) (A.lit 0))) (A.cmp .leq (A.lit 0) (A.lit 0)))<|
 A.chk (A.orB (A.aA (A.cmp .gtr (A.len .i64 (A.fL .mono 1 .i64 x.1)) (A.lit 0))) (A.cmp .lss (A.lit 0) (A.len .i64 (A.fL .mono 1 .i64 x.1))))<|
 A.rb (A.ak (A.cmp .gtr (A.len .i64 (A.fL .mono 1 .i64 x.1)) (A.lit 0)) (A.cmp .lss (A.fI .i64 0 (A.get .i64 (A.fL .mono 1 .i64 x.1) (A.lit 0))) (A.lit 0)) (A.bl false))
def QO (A:Alg) (akc:Pt A LU) (akd:Ft A LU) (x:Tup A.ah [.l .mono]):Ot A Em:=
 A.l1 .i (A.lit 0) fun x0=>
 A.iter [.l .mono,.i,.i] (fun x1=>
 A.cond (A.cmp .lss x1.2.2.1 x1.2.1) (A.l1 .i x1.2.2.1 fun x2=>
 A.bd .mono x1.1 x2.1<|
 A.cl akc akd (A.get .mono x1.1 x2.1,()) fun x3=>
 A.cond x3.1 (A.l1 .i x2.1 fun x4=>
 A.inr _<|A.ret _ (x4.1,()))<|
 A.inl _ (x1.1,x1.2.1,A.arith .add .i64 x1.2.2.1 (A.lit 1),()))<|
 A.inr _<|A.l1 .i (A.lit (-1)) fun x2=>
 A.ret _ (x2.1,())) (x.1,A.len .mono x.1,A.lit 0,())
def QS (A:Alg) (aer:Pt A Em) (aes:Ft A Em) (x:Tup A.ah [.l .mono]):Ot A En:=
 A.l1 .b (A.bl false) fun x0=>
 A.cl aer aes (x.1,()) fun x1=>
 A.rb (A.cmp .geq x1.1 (A.lit 0))
def Xc (A:Alg) (gq:Pt A bY) (gu:Ft A bY) (TN:Pt A AQ) (TP:Ft A AQ) (aeu:Pt A Ei) (aev:Ft A Ei) (EX:Pt A nX) (EY:Ft A nX) (aew:Pt A En) (aex:Ft A En) (x:Tup A.ah [.x .poly]):Ot A iF:=
 A.l1 .b (A.bl false) fun x0=>
 A.iter [.l .mono,.i,.i,.x .poly] (fun x1=>
 A.cond (A.cmp .lss x1.2.2.1 x1.2.1) (A.bd .mono x1.1 x1.2.2.1<|
 A.l1 .i x1.2.2.1 fun x2=>
 A.l1 (.x .mono) (A.get .mono x1.1 x1.2.2.1) fun x3=>
 A.cl gq gu (A.fI .mono 0 x3.1,A.lit 1,A.lit 65535,()) fun x4=>
 A.cg (A.aA (A.ak (A.aA x4.1) (A.bl true) (A.cmp .gtr (A.len .i64 (A.fL .mono 1 .i64 x3.1)) (A.lit 4)))) aeu aev (A.fL .mono 1 .i64 x3.1,()) fun x5=>
 A.chk (A.orB (A.aA (A.mq (A.aA (A.ak (A.ak (A.aA x4.1) (A.bl true) (A.cmp .gtr (A.len .i64 (A.fL .mono 1 .i64 x3.1)) (A.lit 4))) (A.bl true) (A.aA x5.1))) (A.cmp .gtr x2.1 (A.lit 0)))) (A.cmp .leq (A.lit 0) (A.arith .sub .i64 x2.1 (A.lit 1))))<|
 A.chk (A.orB (A.aA (A.mq (A.aA (A.ak (A.ak (A.aA x4.1) (A.bl true) (A.cmp .gtr (A.len .i64 (A.fL .mono 1 .i64 x3.1)) (A.lit 4))) (A.bl true) (A.aA x5.1))) (A.cmp .gtr x2.1 (A.lit 0)))) (A.cmp .lss (A.arith .sub .i64 x2.1 (A.lit 1)) (A.len .mono (A.fL .poly 0 .mono x1.2.2.2.1))))<|
 A.cg (A.mq (A.aA (A.ak (A.ak (A.aA x4.1) (A.bl true) (A.cmp .gtr (A.len .i64 (A.fL .mono 1 .i64 x3.1)) (A.lit 4))) (A.bl true) (A.aA x5.1))) (A.cmp .gtr x2.1 (A.lit 0))) EX EY (A.fL .mono 1 .i64 (A.get .mono (A.fL .poly 0 .mono x1.2.2.2.1) (A.arith .sub .i64 x2.1 (A.lit 1))),A.fL .mono 1 .i64 x3.1,()) fun x6=>
 A.cond (A.ak (A.ak (A.ak (A.aA x4.1) (A.bl true) (A.cmp .gtr (A.len .i64 (A.fL .mono 1 .i64 x3.1)) (A.lit 4))) (A.bl true) (A.aA x5.1)) (A.bl true) (A.ak (A.cmp .gtr x2.1 (A.lit 0)) (A.cmp .geq x6.1 (A.lit 0)) (A.bl false))) (A.l1 .b (A.bl false) fun x7=>
 A.inr _<|A.ret _ (x7.1,()))<|
 A.inl _ (x1.1,x1.2.1,A.arith .add .i64 x1.2.2.1 (A.lit 1),x1.2.2.2.1,()))<|
 A.inr _<|A.cg (A.cmp .leq (A.len .mono (A.fL .poly 0 .mono x1.2.2.2.1)) (A.lit 12)) TN TP (x1.2.2.2.1,A.lit 200,()) fun x2=>
 A.cg (A.ak (A.cmp .leq (A.len .mono (A.fL .poly 0 .mono x1.2.2.2.1)) (A.lit 12)) x2.1 (A.bl false)) aew aex (A.fL .poly 0 .mono x1.2.2.2.1,()) fun x3=>
 A.rb (A.ak (A.ak (A.cmp .leq (A.len .mono (A.fL .poly 0 .mono x1.2.2.2.1)) (A.lit 12)) x2.1 (A.bl false)) (A.aA x3.1) (A.bl false))) (A.fL .poly 0 .mono x.1,A.len .mono (A.fL .poly 0 .mono x.1),A.lit 0,x.1,())
def Xd (A:Alg) (kL:Pt A iF) (kM:Ft A iF) (x:Tup A.ah [.x .poly]):Ot A AU:=
 A.l1 .i (A.lit 0) fun x0=>
 A.l1 .b (A.bl false) fun x1=>
 A.cl kL kM (x.1,()) fun x2=>
 A.l1 .b (A.aA x2.1) fun x3=>
 A.cond x3.1 (A.l1 .i (A.lit 0) fun x4=>
 A.l1 .b (A.bl false) fun x5=>
 A.ret _ (x4.1,x5.1,()))<|
 A.l1 .b (A.cmp .eql (A.len .mono (A.fL .poly 0 .mono x.1)) (A.lit 0)) fun x4=>
 A.cond x4.1 (A.l1 .i (A.lit 0) fun x5=>
 A.l1 .b (A.bl true) fun x6=>
 A.ret _ (x5.1,x6.1,()))<|
 A.chk (A.orB (A.aA (A.cmp .eql (A.len .mono (A.fL .poly 0 .mono x.1)) (A.lit 1))) (A.cmp .leq (A.lit 0) (A.lit 0)))<|
 A.chk (A.orB (A.aA (A.cmp .eql (A.len .mono (A.fL .poly 0 .mono x.1)) (A.lit 1))) (A.cmp .lss (A.lit 0) (A.len .mono (A.fL .poly 0 .mono x.1))))<|
 A.l1 .b (A.ak (A.cmp .eql (A.len .mono (A.fL .poly 0 .mono x.1)) (A.lit 1)) (A.cmp .eql (A.len .i64 (A.fL .mono 1 .i64 (A.get .mono (A.fL .poly 0 .mono x.1) (A.lit 0)))) (A.lit 0)) (A.bl false)) fun x5=>
 A.cond x5.1 (A.bd .mono (A.fL .poly 0 .mono x.1) (A.lit 0)<|
 A.l1 .i (A.fI .mono 0 (A.get .mono (A.fL .poly 0 .mono x.1) (A.lit 0))) fun x6=>
 A.l1 .b (A.bl true) fun x7=>
 A.ret _ (x6.1,x7.1,()))<|
 A.l1 .i (A.lit 0) fun x6=>
 A.l1 .b (A.bl false) fun x7=>
 A.ret _ (x6.1,x7.1,())
def Xe (A:Alg) (aej:Pt A LM) (aek:Ft A LM) (Vm:Pt A Ef) (Vn:Ft A Ef) (EX:Pt A nX) (EY:Ft A nX) (x:Tup A.ah [.x .poly,.x .poly]):Ot A ug:=
 A.l1 .i (A.lit 0) fun x0=>
 A.cl Vm Vn (A.len .mono (A.fL .poly 0 .mono x.1),A.len .mono (A.fL .poly 0 .mono x.2.1),()) fun x1=>
 A.l1 .i x1.1 fun x2=>
 A.cond (A.cmp .neq x2.1 (A.lit 0)) (A.l1 .i x2.1 fun x3=>
 A.ret _ (x3.1,()))<|
 A.iter [.l .mono,.i,.i,.x .poly] (fun x3=>
 A.cond (A.cmp .lss x3.2.2.1 x3.2.1) (A.bd .mono x3.1 x3.2.2.1<|
 A.l1 .i x3.2.2.1 fun x4=>
 A.l1 (.x .mono) (A.get .mono x3.1 x3.2.2.1) fun x5=>
 A.bd .mono (A.fL .poly 0 .mono x3.2.2.2.1) x4.1<|
 A.bd .mono (A.fL .poly 0 .mono x3.2.2.2.1) x4.1<|
 A.cl EX EY (A.fL .mono 1 .i64 x5.1,A.fL .mono 1 .i64 (A.get .mono (A.fL .poly 0 .mono x3.2.2.2.1) x4.1),()) fun x6=>
 A.cl Vm Vn (A.fI .mono 0 x5.1,A.fI .mono 0 (A.get .mono (A.fL .poly 0 .mono x3.2.2.2.1) x4.1),()) fun x7=>
 A.cl aej aek (A.lst .i64 [A.mkX .i64 (x6.1,()),A.mkX .i64 (x7.1,())],()) fun x8=>
 A.l1 .i x8.1 fun x9=>
 A.cond (A.cmp .neq x9.1 (A.lit 0)) (A.l1 .i x9.1 fun x10=>
 A.inr _<|A.ret _ (x10.1,()))<|
 A.inl _ (x3.1,x3.2.1,A.arith .add .i64 x3.2.2.1 (A.lit 1),x3.2.2.2.1,()))<|
 A.inr _<|A.l1 .i (A.lit 0) fun x4=>
 A.ret _ (x4.1,())) (A.fL .poly 0 .mono x.1,A.len .mono (A.fL .poly 0 .mono x.1),A.lit 0,x.2.1,())
def Xf (A:Alg) (x:Tup A.ah [.l .i64]):Ot A AV:=
 A.chk (A.cmp .leq (A.len .i64 x.1) (A.lit 1073741824))<|
 A.l1 (.l .i64) x.1 fun x0=>
 A.ret _ (x0.1,())
def Xg (A:Alg) (Xh:Pt A AV) (Xi:Ft A AV) (x:Tup A.ah [.x .poly]):Ot A uh:=
 A.iter [.l .mono,.i,.i,.l .mono] (fun x0=>
 A.cond (A.cmp .lss x0.2.2.1 x0.2.1) (A.bd .mono x0.1 x0.2.2.1<|
 A.l1 (.x .mono) (A.get .mono x0.1 x0.2.2.1) fun x1=>
 A.cl Xh Xi (A.fL .mono 1 .i64 x1.1,()) fun x2=>
 A.l1 (.l .mono) (A.lst .mono [A.mkX .mono (A.fI .mono 0 x1.1,x2.1,())]) fun x3=>
 A.chk (A.cmp .leq (A.addN (A.len .mono x0.2.2.2.1) (A.len .mono x3.1)) (A.lit 1073741824))<|
 A.l1 (.l .mono) (A.app .mono x0.2.2.2.1 x3.1) fun x4=>
 A.inl _ (x0.1,x0.2.1,A.arith .add .i64 x0.2.2.1 (A.lit 1),x4.1,()))<|
 A.inr _<|A.ret _ (x0.2.2.2.1,())) (A.fL .poly 0 .mono x.1,A.len .mono (A.fL .poly 0 .mono x.1),A.lit 0,A.bQ .mono,())
def Xj (A:Alg) (yX:Pt A uh) (yY:Ft A uh) (x:Tup A.ah [.l .poly]):Ot A LW:=
 A.iter [.l .poly,.i,.i,.l .poly] (fun x0=>
 A.cond (A.cmp .lss x0.2.2.1 x0.2.1) (A.bd .poly x0.1 x0.2.2.1<|
 A.l1 (.x .poly) (A.get .poly x0.1 x0.2.2.1) fun x1=>
 A.cl yX yY (x1.1,()) fun x2=>
 A.l1 (.l .poly) (A.lst .poly [A.mkX .poly (x2.1,())]) fun x3=>
 A.chk (A.cmp .leq (A.addN (A.len .poly x0.2.2.2.1) (A.len .poly x3.1)) (A.lit 1073741824))<|
 A.l1 (.l .poly) (A.app .poly x0.2.2.2.1 x3.1) fun x4=>
 A.inl _ (x0.1,x0.2.1,A.arith .add .i64 x0.2.2.1 (A.lit 1),x4.1,()))<|
 A.inr _<|A.ret _ (x0.2.2.2.1,())) (x.1,A.len .poly x.1,A.lit 0,A.bQ .poly,())
def Xk (A:Alg) (yX:Pt A uh) (yY:Ft A uh) (abV:Pt A LW) (abW:Ft A LW) (x:Tup A.ah [.x .sym]):Ot A LY:=
 A.cl abV abW (A.fL .sym 1 .poly x.1,()) fun x0=>
 A.cl yX yY (A.mkX .poly (A.fL .sym 3 .mono x.1,()),()) fun x1=>
 A.cl yX yY (A.mkX .poly (A.fL .sym 4 .mono x.1,()),()) fun x2=>
 A.iter [.l .ev,.i,.i,.i,.i,.i,.i,.l .ev,.l .poly,.l .mono,.l .mono] (fun x3=>
 A.cond (A.cmp .lss x3.2.2.1 x3.2.1) (A.bd .ev x3.1 x3.2.2.1<|
 A.l1 (.x .ev) (A.get .ev x3.1 x3.2.2.1) fun x4=>
 A.cl yX yY (A.mkX .poly (A.fL .ev 2 .mono x4.1,()),()) fun x5=>
 A.cl yX yY (A.mkX .poly (A.fL .ev 3 .mono x4.1,()),()) fun x6=>
 A.cl abV abW (A.fL .ev 4 .poly x4.1,()) fun x7=>
 A.l1 (.l .ev) (A.lst .ev [A.mkX .ev (A.fI .ev 0 x4.1,A.fI .ev 1 x4.1,x5.1,x6.1,x7.1,())]) fun x8=>
 A.chk (A.cmp .leq (A.addN (A.len .ev x3.q.2.2.2.1) (A.len .ev x8.1)) (A.lit 1073741824))<|
 A.l1 (.l .ev) (A.app .ev x3.q.2.2.2.1 x8.1) fun x9=>
 A.inl _ (x3.1,x3.2.1,A.arith .add .i64 x3.2.2.1 (A.lit 1),x3.2.2.2.1,x3.q.1,x3.q.2.1,x3.q.2.2.1,x9.1,x3.o.1,x3.o.2.1,x3.o.2.2.1,()))<|
 A.inr _<|A.ret _ (x3.q.2.1,x3.q.2.2.1,x3.q.2.2.2.1,x3.o.1,x3.o.2.1,x3.o.2.2.1,())) (A.fL .sym 0 .ev x.1,A.len .ev (A.fL .sym 0 .ev x.1),A.lit 0,A.lit 0,A.lit 0,A.fI .sym 2 x.1,A.fI .sym 5 x.1,A.bQ .ev,x0.1,x1.1,x2.1,())
def Xl (A:Alg) (MJ:Pt A ug) (MK:Ft A ug) (x:Tup A.ah [.x .poly,.x .poly]):Ot A jl:=
 A.l1 .b (A.bl false) fun x0=>
 A.cl MJ MK (x.1,x.2.1,()) fun x1=>
 A.rb (A.cmp .eql x1.1 (A.lit 0))
def Xm (A:Alg) (gq:Pt A bY) (gu:Ft A bY) (x:Tup A.ah [.i]):Ot A jm:=
 A.l1 .b (A.bl false) fun x0=>
 A.cl gq gu (x.1,A.lit 0,A.lit 65535,()) fun x1=>
 A.rb x1.1
def Xo (A:Alg) (qw:Pt A jm) (qx:Ft A jm) (x:Tup A.ah [.i,.i,.i]):Ot A LZ:=
 A.l1 .b (A.bl false) fun x0=>
 A.cl qw qx (x.2.1,()) fun x1=>
 A.cg x1.1 qw qx (x.2.2.1,()) fun x2=>
 A.rb (A.ak (A.ak x1.1 x2.1 (A.bl false)) (A.ak (A.ak (A.cmp .eql x.1 (A.lit 1)) (A.cmp .eql x.2.1 x.2.2.1) (A.bl false)) (A.bl true) (A.ak (A.cmp .eql x.1 (A.lit 2)) (A.cmp .lss x.2.1 x.2.2.1) (A.bl false))) (A.bl false))
def Xp (A:Alg) (ML:Pt A AU) (MN:Ft A AU) (kL:Pt A iF) (kM:Ft A iF) (MJ:Pt A ug) (MK:Ft A ug) (ake:Pt A LY) (akf:Ft A LY) (lF:Pt A jl) (lG:Ft A jl) (akg:Pt A LZ) (akh:Ft A LZ) (x:Tup A.ah [.x .sym,.i]):Ot A L6:=
 A.cl kL kM (A.mkX .poly (A.fL .sym 3 .mono x.1,()),()) fun x0=>
 A.cg (A.aA (A.aA x0.1)) kL kM (A.mkX .poly (A.fL .sym 4 .mono x.1,()),()) fun x1=>
 A.cond (A.ak (A.aA x0.1) (A.bl true) (A.aA x1.1)) (A.ret _ (A.mkX .sym (A.bQ .ev,A.bQ .poly,A.lit 0,A.bQ .mono,A.bQ .mono,A.lit 0,()),()))<|
 A.cl ake akf (x.1,()) fun x2=>
 A.cl ML MN (A.mkX .poly (A.fL .sym 3 .mono x.1,()),()) fun x3=>
 A.l1 .i x3.1 fun x4=>
 A.l1 .b x3.2.1 fun x5=>
 A.cl ML MN (A.mkX .poly (A.fL .sym 4 .mono x.1,()),()) fun x6=>
 A.l1 .i x6.1 fun x7=>
 A.l1 .b x6.2.1 fun x8=>
 A.l1 .i (A.arith .add .i64 (A.arith .sub .i64 (A.fI .sym 2 x.1) (A.lit 3)) (A.lit 1)) fun x9=>
 A.l1 .b (A.ak (A.cmp .eql (A.fI .sym 2 x.1) (A.lit 2)) x5.1 (A.bl false)) fun x10=>
 A.bind [.i,.i,.i,.i,.l .ev,.l .poly,.l .mono,.l .mono] (A.cond x10.1 (A.l1 .i (A.lit 1) fun x11=>
 A.l1 .i x4.1 fun x12=>
 A.ret _ (A.lit 0,A.lit 0,x11.1,x12.1,x2.2.2.1,x2.2.2.2.1,A.bQ .mono,A.bQ .mono,()))<|
 A.l1 .b (A.ak (A.cmp .neq (A.fI .sym 2 x.1) (A.lit 3)) (A.cmp .neq (A.fI .sym 2 x.1) (A.lit 4)) (A.bl false)) fun x11=>
 A.bind [.i,.i,.i,.i,.l .ev,.l .poly,.l .mono,.l .mono] (A.cond x11.1 (A.ret _ (A.lit 0,A.lit 0,x2.1,x2.2.1,x2.2.2.1,x2.2.2.2.1,x2.q.1,x2.q.2.1,()))<|
 A.cl lF lG (A.mkX .poly (A.fL .sym 3 .mono x.1,()),A.mkX .poly (A.fL .sym 4 .mono x.1,()),()) fun x12=>
 A.l1 .b (A.ak x12.1 (A.bl true) (A.ak x5.1 x8.1 (A.bl false))) fun x13=>
 A.bind [.i,.i,.i,.i,.l .ev,.l .poly,.l .mono,.l .mono] (A.cond x13.1 (A.cl lF lG (A.mkX .poly (A.fL .sym 3 .mono x.1,()),A.mkX .poly (A.fL .sym 4 .mono x.1,()),()) fun x14=>
 A.cg (A.mq (A.aA (A.ak x14.1 (A.cmp .eql (A.fI .sym 2 x.1) (A.lit 3)) (A.bl false))) (A.ak x5.1 x8.1 (A.bl false))) akg akh (x9.1,x4.1,x7.1,()) fun x15=>
 A.l1 .b (A.ak (A.ak x14.1 (A.cmp .eql (A.fI .sym 2 x.1) (A.lit 3)) (A.bl false)) (A.bl true) (A.ak (A.ak x5.1 x8.1 (A.bl false)) x15.1 (A.bl false))) fun x16=>
 A.l1 .i (A.lit 1) fun x17=>
 A.bind [.i,.i,.i,.i,.l .ev,.l .poly] (A.cond (A.aA x16.1) (A.l1 .i x.2.1 fun x18=>
 A.ret _ (A.lit 0,A.lit 0,x17.1,x18.1,x2.2.2.1,x2.2.2.2.1,()))<|
 A.ret _ (A.lit 0,A.lit 0,x17.1,x2.2.1,x2.2.2.1,x2.2.2.2.1,())) fun x18=>
 A.ret _ (x18.1,x18.2.1,x18.2.2.1,x18.2.2.2.1,x18.q.1,x18.q.2.1,A.bQ .mono,A.bQ .mono,()))<|
 A.cg (A.cmp .eql (A.fI .sym 2 x.1) (A.lit 3)) MJ MK (A.mkX .poly (A.fL .sym 3 .mono x.1,()),A.mkX .poly (A.fL .sym 4 .mono x.1,()),()) fun x14=>
 A.l1 .b (A.ak (A.cmp .eql (A.fI .sym 2 x.1) (A.lit 3)) (A.cmp .gtr x14.1 (A.lit 0)) (A.bl false)) fun x15=>
 A.bind [.i,.i,.i,.i,.l .ev,.l .poly,.l .mono,.l .mono] (A.cond x15.1 (A.ret _ (A.lit 0,A.lit 0,x2.1,x2.2.1,x2.2.2.1,x2.2.2.2.1,x2.q.2.1,x2.q.1,()))<|
 A.ret _ (A.lit 0,A.lit 0,x2.1,x2.2.1,x2.2.2.1,x2.2.2.2.1,x2.q.1,x2.q.2.1,())) fun x16=>
 A.ret _ (x16.1,x16.2.1,x16.2.2.1,x16.2.2.2.1,x16.q.1,x16.q.2.1,x16.q.2.2.1,x16.q.2.2.2.1,())) fun x14=>
 A.ret _ (x14.1,x14.2.1,x14.2.2.1,x14.2.2.2.1,x14.q.1,x14.q.2.1,x14.q.2.2.1,x14.q.2.2.2.1,())) fun x12=>
 A.ret _ (x12.1,x12.2.1,x12.2.2.1,x12.2.2.2.1,x12.q.1,x12.q.2.1,x12.q.2.2.1,x12.q.2.2.2.1,())) fun x11=>
 A.ret _ (A.mkX .sym (x11.q.1,x11.q.2.1,x11.2.2.1,x11.q.2.2.1,x11.q.2.2.2.1,x11.2.2.2.1,()),())
def Xq (A:Alg) (qw:Pt A jm) (qx:Ft A jm) (x:Tup A.ah []):Ot A L8:=
 A.l1 .b (A.bl false) fun x0=>
 A.cl qw qx (A.lit 1,()) fun x1=>
 A.rb x1.1
def JH (A:Alg) (aW:Pt A fH) (aX:Ft A fH) (ER:Pt A mJ) (ET:Ft A mJ) (x:Tup A.ah [.x .blk,.l .u8,.i]):Ot A Eo:=
 A.cl ER ET (x.1,()) fun x0=>
 A.cond (A.cmp .eql (A.len .iop x0.q.2.2.1) (A.lit 0)) (A.l1 .i (A.arith .add .i64 x0.q.2.1 (A.lit 1)) fun x1=>
 A.ret _ (x0.1,x0.2.1,x0.2.2.1,x0.2.2.2.1,x0.q.1,x1.1,x.2.1,x.2.2.1,x0.q.2.2.1,()))<|
 A.cl aW aX (A.len .iop x0.q.2.2.1,x.2.1,x.2.2.1,()) fun x1=>
 A.l1 .i x1.1 fun x2=>
 A.cl aW aX (A.lit 9,x1.2.1,x1.2.2.1,()) fun x3=>
 A.l1 .b (A.cmp .eql x3.1 (A.lit 0)) fun x4=>
 A.bind [.l .u8,.i,.i,.i,.i,.i,.i,.i,.i,.i,.i,.i,.i,.i,.l .iop] (A.cond x4.1 (A.bd .iop x0.q.2.2.1 x2.1<|
 A.bd .iop x0.q.2.2.1 x2.1<|
 A.bd .iop x0.q.2.2.1 x2.1<|
 A.bd .iop x0.q.2.2.1 x2.1<|
 A.l1 .i (A.arith .add .i64 (A.fI .iop 3 (A.get .iop x0.q.2.2.1 x2.1)) (A.lit 1)) fun x5=>
 A.ret _ (x3.2.1,x3.2.2.1,A.lit 0,A.lit 0,A.lit 0,A.lit 0,A.lit 0,A.lit 0,x0.1,x0.2.1,x0.2.2.1,x0.2.2.2.1,x0.q.1,x0.q.2.1,A.set .iop x0.q.2.2.1 x2.1 (A.mkX .iop (A.fI .iop 0 (A.get .iop x0.q.2.2.1 x2.1),A.fI .iop 1 (A.get .iop x0.q.2.2.1 x2.1),A.fI .iop 2 (A.get .iop x0.q.2.2.1 x2.1),x5.1,A.fI .iop 4 (A.get .iop x0.q.2.2.1 x2.1),())),()))<|
 A.l1 .b (A.cmp .eql x3.1 (A.lit 1)) fun x5=>
 A.bind [.l .u8,.i,.i,.i,.i,.i,.i,.i,.i,.i,.i,.i,.i,.i,.l .iop] (A.cond x5.1 (A.cl aW aX (A.arith .add .i64 x2.1 (A.lit 1),x3.2.1,x3.2.2.1,()) fun x6=>
 A.bd .iop x0.q.2.2.1 x2.1<|
 A.bd .iop x0.q.2.2.1 x2.1<|
 A.l1 .i x6.1 fun x7=>
 A.ret _ (x6.2.1,x6.2.2.1,A.lit 0,A.lit 0,A.lit 0,A.lit 0,A.lit 0,A.lit 0,x0.1,x0.2.1,x0.2.2.1,x0.2.2.2.1,x0.q.1,x0.q.2.1,A.set .iop x0.q.2.2.1 x2.1 (A.mkX .iop (A.fI .iop 0 (A.get .iop x0.q.2.2.1 x2.1),x7.1,A.fI .iop 2 (A.get .iop x0.q.2.2.1 x2.1),A.fI .iop 3 (A.get .iop x0.q.2.2.1 x2.1),A.fI .iop 4 (A.get .iop x0.q.2.2.1 x2.1),())),()))<|
 A.l1 .b (A.cmp .eql x3.1 (A.lit 2)) fun x6=>
 A.bind [.l .u8,.i,.i,.i,.i,.i,.i,.i,.i,.i,.i,.i,.i,.i,.l .iop] (A.cond x6.1 (A.cl aW aX (A.arith .add .i64 x2.1 (A.lit 1),x3.2.1,x3.2.2.1,()) fun x7=>
 A.bd .iop x0.q.2.2.1 x2.1<|
 A.bd .iop x0.q.2.2.1 x2.1<|
 A.l1 .i x7.1 fun x8=>
 A.ret _ (x7.2.1,x7.2.2.1,A.lit 0,A.lit 0,A.lit 0,A.lit 0,A.lit 0,A.lit 0,x0.1,x0.2.1,x0.2.2.1,x0.2.2.2.1,x0.q.1,x0.q.2.1,A.set .iop x0.q.2.2.1 x2.1 (A.mkX .iop (A.fI .iop 0 (A.get .iop x0.q.2.2.1 x2.1),A.fI .iop 1 (A.get .iop x0.q.2.2.1 x2.1),x8.1,A.fI .iop 3 (A.get .iop x0.q.2.2.1 x2.1),A.fI .iop 4 (A.get .iop x0.q.2.2.1 x2.1),())),()))<|
 A.l1 .b (A.cmp .eql x3.1 (A.lit 3)) fun x7=>
 A.bind [.l .u8,.i,.i,.i,.i,.i,.i,.i,.i,.i,.i,.i,.i,.i,.l .iop] (A.cond x7.1 (A.cl aW aX (A.arith .add .i64 x0.2.1 (A.lit 1),x3.2.1,x3.2.2.1,()) fun x8=>
 A.bd .iop x0.q.2.2.1 x2.1<|
 A.bd .iop x0.q.2.2.1 x2.1<|
 A.l1 .i x8.1 fun x9=>
 A.ret _ (x8.2.1,x8.2.2.1,A.lit 0,A.lit 0,A.lit 0,A.lit 0,A.lit 0,A.lit 0,x0.1,x0.2.1,x0.2.2.1,x0.2.2.2.1,x0.q.1,x0.q.2.1,A.set .iop x0.q.2.2.1 x2.1 (A.mkX .iop (A.fI .iop 0 (A.get .iop x0.q.2.2.1 x2.1),A.fI .iop 1 (A.get .iop x0.q.2.2.1 x2.1),A.fI .iop 2 (A.get .iop x0.q.2.2.1 x2.1),A.fI .iop 3 (A.get .iop x0.q.2.2.1 x2.1),x9.1,())),()))<|
 A.l1 .b (A.cmp .eql x3.1 (A.lit 4)) fun x8=>
 A.bind [.l .u8,.i,.i,.i,.i,.i,.i,.i,.i,.i,.i,.i,.i,.i,.l .iop] (A.cond x8.1 (A.cl aW aX (A.lit 66,x3.2.1,x3.2.2.1,()) fun x9=>
 A.l1 .i x9.1 fun x10=>
 A.ret _ (x9.2.1,x9.2.2.1,A.lit 0,A.lit 0,A.lit 0,A.lit 0,A.lit 0,A.lit 0,x0.1,x0.2.1,x0.2.2.1,x0.2.2.2.1,x0.q.1,x10.1,x0.q.2.2.1,()))<|
 A.l1 .b (A.cmp .eql x3.1 (A.lit 5)) fun x9=>
 A.bind [.l .u8,.i,.i,.i,.i,.i,.i,.i,.i,.i,.i,.i,.i,.i,.l .iop] (A.cond x9.1 (A.cl aW aX (A.lit 4,x3.2.1,x3.2.2.1,()) fun x10=>
 A.l1 .i (A.arith .add .i64 (A.lit 1) x10.1) fun x11=>
 A.ret _ (x10.2.1,x10.2.2.1,A.lit 0,A.lit 0,A.lit 0,A.lit 0,A.lit 0,A.lit 0,x0.1,x0.2.1,x11.1,x0.2.2.2.1,x0.q.1,x0.q.2.1,x0.q.2.2.1,()))<|
 A.l1 .b (A.cmp .eql x3.1 (A.lit 6)) fun x10=>
 A.bind [.l .u8,.i,.i,.i,.i,.i,.i,.i,.i,.i,.i,.i,.i,.i,.l .iop] (A.cond x10.1 (A.bind [.l .u8,.i,.i,.i,.i,.i,.i,.i,.i,.i,.i,.i,.i,.i,.l .iop] (A.cond (A.cmp .gtr x2.1 (A.lit 0)) (A.bd .iop x0.q.2.2.1 x2.1<|
 A.bd .iop x0.q.2.2.1 x2.1<|
 A.l1 (.x .iop) (A.get .iop x0.q.2.2.1 x2.1) fun x11=>
 A.bd .iop x0.q.2.2.1 (A.arith .sub .i64 x2.1 (A.lit 1))<|
 A.bd .iop x0.q.2.2.1 (A.arith .sub .i64 x2.1 (A.lit 1))<|
 A.bd .iop x0.q.2.2.1 x2.1<|
 A.bd .iop x0.q.2.2.1 x2.1<|
 A.l1 (.x .iop) (A.get .iop x0.q.2.2.1 (A.arith .sub .i64 x2.1 (A.lit 1))) fun x12=>
 A.bd .iop (A.set .iop x0.q.2.2.1 x2.1 x12.1) (A.arith .sub .i64 x2.1 (A.lit 1))<|
 A.bd .iop (A.set .iop x0.q.2.2.1 x2.1 x12.1) (A.arith .sub .i64 x2.1 (A.lit 1))<|
 A.l1 (.x .iop) x11.1 fun x13=>
 A.ret _ (x3.2.1,x3.2.2.1,A.lit 0,A.lit 0,A.lit 0,A.lit 0,A.lit 0,A.lit 0,x0.1,x0.2.1,x0.2.2.1,x0.2.2.2.1,x0.q.1,x0.q.2.1,A.set .iop (A.set .iop x0.q.2.2.1 x2.1 x12.1) (A.arith .sub .i64 x2.1 (A.lit 1)) x13.1,()))<|
 A.ret _ (x3.2.1,x3.2.2.1,A.lit 0,A.lit 0,A.lit 0,A.lit 0,A.lit 0,A.lit 0,x0.1,x0.2.1,x0.2.2.1,x0.2.2.2.1,x0.q.1,x0.q.2.1,x0.q.2.2.1,())) fun x11=>
 A.ret _ (x11.1,x11.2.1,x11.2.2.1,x11.2.2.2.1,x11.q.1,x11.q.2.1,x11.q.2.2.1,x11.q.2.2.2.1,x11.o.1,x11.o.2.1,x11.o.2.2.1,x11.o.2.2.2.1,x11.o.q.1,x11.o.q.2.1,x11.o.q.2.2.1,()))<|
 A.l1 .b (A.cmp .eql x3.1 (A.lit 7)) fun x11=>
 A.bind [.l .u8,.i,.i,.i,.i,.i,.i,.i,.i,.i,.i,.i,.i,.i,.l .iop] (A.cond x11.1 (A.cl aW aX (A.lit 3,x3.2.1,x3.2.2.1,()) fun x12=>
 A.bd .iop x0.q.2.2.1 x2.1<|
 A.bd .iop x0.q.2.2.1 x2.1<|
 A.ret _ (x12.2.1,x12.2.2.1,A.lit 0,A.lit 0,A.lit 0,A.lit 0,A.lit 0,A.lit 0,x0.1,x0.2.1,x0.2.2.1,x0.2.2.2.1,x0.q.1,x0.q.2.1,A.set .iop x0.q.2.2.1 x2.1 (A.mkX .iop (A.lit 1,A.lit 0,A.lit 0,x12.1,A.lit 0,())),()))<|
 A.chk (A.cmp .leq (A.lit 0) (A.lit 0))<|
 A.chk (A.cmp .leq (A.lit 0) x2.1)<|
 A.chk (A.cmp .leq x2.1 (A.len .iop x0.q.2.2.1))<|
 A.chk (A.cmp .eql (A.lit 0) (A.lit 0))<|
 A.chk (A.cmp .leq (A.lit 0) (A.BD x2.1 (A.lit 0)))<|
 A.chk (A.cmp .leq (A.BD x2.1 (A.lit 0)) (A.len .iop x0.q.2.2.1))<|
 A.ret _ (x3.2.1,x3.2.2.1,A.lit 0,A.lit 0,A.lit 0,A.lit 0,A.lit 0,A.lit 0,x0.1,x0.2.1,x0.2.2.1,x0.2.2.2.1,x0.q.1,x0.q.2.1,A.sub .iop x0.q.2.2.1 (A.lit 0) (A.BD x2.1 (A.lit 0)),())) fun x12=>
 A.ret _ (x12.1,x12.2.1,x12.2.2.1,x12.2.2.2.1,x12.q.1,x12.q.2.1,x12.q.2.2.1,x12.q.2.2.2.1,x12.o.1,x12.o.2.1,x12.o.2.2.1,x12.o.2.2.2.1,x12.o.q.1,x12.o.q.2.1,x12.o.q.2.2.1,())) fun x11=>
 A.ret _ (x11.1,x11.2.1,x11.2.2.1,x11.2.2.2.1,x11.q.1,x11.q.2.1,x11.q.2.2.1,x11.q.2.2.2.1,x11.o.1,x11.o.2.1,x11.o.2.2.1,x11.o.2.2.2.1,x11.o.q.1,x11.o.q.2.1,x11.o.q.2.2.1,())) fun x10=>
 A.ret _ (x10.1,x10.2.1,x10.2.2.1,x10.2.2.2.1,x10.q.1,x10.q.2.1,x10.q.2.2.1,x10.q.2.2.2.1,x10.o.1,x10.o.2.1,x10.o.2.2.1,x10.o.2.2.2.1,x10.o.q.1,x10.o.q.2.1,x10.o.q.2.2.1,())) fun x9=>
 A.ret _ (x9.1,x9.2.1,x9.2.2.1,x9.2.2.2.1,x9.q.1,x9.q.2.1,x9.q.2.2.1,x9.q.2.2.2.1,x9.o.1,x9.o.2.1,x9.o.2.2.1,x9.o.2.2.2.1,x9.o.q.1,x9.o.q.2.1,x9.o.q.2.2.1,())) fun x8=>
 A.ret _ (x8.1,x8.2.1,x8.2.2.1,x8.2.2.2.1,x8.q.1,x8.q.2.1,x8.q.2.2.1,x8.q.2.2.2.1,x8.o.1,x8.o.2.1,x8.o.2.2.1,x8.o.2.2.2.1,x8.o.q.1,x8.o.q.2.1,x8.o.q.2.2.1,())) fun x7=>
 A.ret _ (x7.1,x7.2.1,x7.2.2.1,x7.2.2.2.1,x7.q.1,x7.q.2.1,x7.q.2.2.1,x7.q.2.2.2.1,x7.o.1,x7.o.2.1,x7.o.2.2.1,x7.o.2.2.2.1,x7.o.q.1,x7.o.q.2.1,x7.o.q.2.2.1,())) fun x6=>
 A.ret _ (x6.1,x6.2.1,x6.2.2.1,x6.2.2.2.1,x6.q.1,x6.q.2.1,x6.q.2.2.1,x6.q.2.2.2.1,x6.o.1,x6.o.2.1,x6.o.2.2.1,x6.o.2.2.2.1,x6.o.q.1,x6.o.q.2.1,x6.o.q.2.2.1,())) fun x5=>
 A.ret _ (x5.o.1,x5.o.2.1,x5.o.2.2.1,x5.o.2.2.2.1,x5.o.q.1,x5.o.q.2.1,x5.1,x5.2.1,x5.o.q.2.2.1,())
def QT (A:Alg) (aey:Pt A DC) (aez:Ft A DC) (aW:Pt A fH) (aX:Ft A fH) (aeA:Pt A Eo) (aeB:Ft A Eo) (aeC:Pt A Ee) (aeD:Ft A Ee) (x:Tup A.ah [.i,.l .u8,.i]):Ot A Ep:=
 A.cl aeC aeD (x.2.1,x.2.2.1,()) fun x0=>
 A.cl aey aez (x.1,x0.q.2.2.1,x0.q.2.2.2.1,()) fun x1=>
 A.jM [.l .u8,.i,.i,.i,.i,.i,.i,.i,.i,.i,.i,.i,.i,.i,.l .iop] (A.cond x1.1 (A.cl aW aX (A.lit 6,x1.2.1,x1.2.2.1,()) fun x2=>
 A.l1 .b (A.cmp .eql x2.1 (A.lit 0)) fun x3=>
 A.jM [.l .u8,.i,.i,.i,.i,.i,.i,.i,.i,.i,.i,.i,.i,.i,.l .iop] (A.cond x3.1 (A.l1 (.l .i64) (A.lst .i64 [A.mkX .i64 (A.lit 0,()),A.mkX .i64 (A.lit 9,())]) fun x4=>
 A.cl aW aX (A.lit 2,x2.2.1,x2.2.2.1,()) fun x5=>
 A.bd .i64 x4.1 x5.1<|
 A.bd .i64 x4.1 x5.1<|
 A.l1 .i (A.fI .i64 0 (A.get .i64 x4.1 x5.1)) fun x6=>
 A.inl _ (x5.2.1,x5.2.2.1,A.lit 0,A.lit 0,A.lit 0,A.lit 0,A.lit 0,A.lit 0,x0.1,x6.1,x0.2.2.1,x0.2.2.2.1,x0.q.1,x0.q.2.1,x0.o.1,()))<|
 A.l1 .b (A.cmp .eql x2.1 (A.lit 1)) fun x4=>
 A.jM [.l .u8,.i,.i,.i,.i,.i,.i,.i,.i,.i,.i,.i,.i,.i,.l .iop] (A.cond x4.1 (A.l1 (.l .i64) (A.lst .i64 [A.mkX .i64 (A.lit (-1),()),A.mkX .i64 (A.lit 64,())]) fun x5=>
 A.cl aW aX (A.lit 2,x2.2.1,x2.2.2.1,()) fun x6=>
 A.bd .i64 x5.1 x6.1<|
 A.bd .i64 x5.1 x6.1<|
 A.l1 .i (A.fI .i64 0 (A.get .i64 x5.1 x6.1)) fun x7=>
 A.inl _ (x6.2.1,x6.2.2.1,A.lit 0,A.lit 0,A.lit 0,A.lit 0,A.lit 0,A.lit 0,x7.1,x0.2.1,x0.2.2.1,x0.2.2.2.1,x0.q.1,x0.q.2.1,x0.o.1,()))<|
 A.l1 .b (A.cmp .eql x2.1 (A.lit 2)) fun x5=>
 A.jM [.l .u8,.i,.i,.i,.i,.i,.i,.i,.i,.i,.i,.i,.i,.i,.l .iop] (A.cond x5.1 (A.iter [.l .u8,.i,.i,.i,.i,.i,.i,.i,.i,.i,.i,.i,.i,.i,.l .iop] (fun x6=>
 A.cond (A.cmp .leq (A.len .iop x6.o.q.2.2.1) (A.lit 48)) (A.l1 (.l .iop) (A.lst .iop [A.mkX .iop (A.lit 1,A.lit 0,A.lit 0,A.lit 0,A.lit 0,())]) fun x7=>
 A.chk (A.cmp .leq (A.addN (A.len .iop x6.o.q.2.2.1) (A.len .iop x7.1)) (A.lit 1073741824))<|
 A.l1 (.l .iop) (A.app .iop x6.o.q.2.2.1 x7.1) fun x8=>
 A.inl _ (x6.1,x6.2.1,x6.2.2.1,x6.2.2.2.1,x6.q.1,x6.q.2.1,x6.q.2.2.1,x6.q.2.2.2.1,x6.o.1,x6.o.2.1,x6.o.2.2.1,x6.o.2.2.2.1,x6.o.q.1,x6.o.q.2.1,x8.1,()))<|
 A.inr _<|A.inl _ (x6.1,x6.2.1,x6.2.2.1,x6.2.2.2.1,x6.q.1,x6.q.2.1,x6.q.2.2.1,x6.q.2.2.2.1,x6.o.1,x6.o.2.1,x6.o.2.2.1,x6.o.2.2.2.1,x6.o.q.1,x6.o.q.2.1,x6.o.q.2.2.1,())) (x2.2.1,x2.2.2.1,A.lit 0,A.lit 0,A.lit 0,A.lit 0,A.lit 0,A.lit 0,x0.1,x0.2.1,x0.2.2.1,x0.2.2.2.1,x0.q.1,x0.q.2.1,x0.o.1,()))<|
 A.l1 .b (A.cmp .eql x2.1 (A.lit 3)) fun x6=>
 A.jM [.l .u8,.i,.i,.i,.i,.i,.i,.i,.i,.i,.i,.i,.i,.i,.l .iop] (A.cond x6.1 (A.l1 (.l .i64) (A.lst .i64 [A.mkX .i64 (A.lit 0,()),A.mkX .i64 (A.lit 5,())]) fun x7=>
 A.cl aW aX (A.lit 2,x2.2.1,x2.2.2.1,()) fun x8=>
 A.bd .i64 x7.1 x8.1<|
 A.bd .i64 x7.1 x8.1<|
 A.l1 .i (A.fI .i64 0 (A.get .i64 x7.1 x8.1)) fun x9=>
 A.inl _ (x8.2.1,x8.2.2.1,A.lit 0,A.lit 0,A.lit 0,A.lit 0,A.lit 0,A.lit 0,x0.1,x0.2.1,x9.1,x0.2.2.2.1,x0.q.1,x0.q.2.1,x0.o.1,()))<|
 A.l1 .b (A.cmp .eql x2.1 (A.lit 4)) fun x7=>
 A.cond x7.1 (A.cl aW aX (A.lit 3,x2.2.1,x2.2.2.1,()) fun x8=>
 A.bd .i64 (A.lst .i64 [A.mkX .i64 (A.lit 0,()),A.mkX .i64 (A.lit 9,()),A.mkX .i64 (A.lit 8,())]) x8.1<|
 A.chk (A.cmp .leq (A.addN (A.len .iop x0.o.1) (A.len .iop (A.lst .iop [A.mkX .iop (A.fI .i64 0 (A.get .i64 (A.lst .i64 [A.mkX .i64 (A.lit 0,()),A.mkX .i64 (A.lit 9,()),A.mkX .i64 (A.lit 8,())]) x8.1),A.len .iop x0.o.1,A.lit 0,A.lit 0,A.lit 0,())]))) (A.lit 1073741824))<|
 A.l1 (.l .iop) (A.app .iop x0.o.1 (A.lst .iop [A.mkX .iop (A.fI .i64 0 (A.get .i64 (A.lst .i64 [A.mkX .i64 (A.lit 0,()),A.mkX .i64 (A.lit 9,()),A.mkX .i64 (A.lit 8,())]) x8.1),A.len .iop x0.o.1,A.lit 0,A.lit 0,A.lit 0,())])) fun x9=>
 A.inl _ (x8.2.1,x8.2.2.1,A.lit 0,A.lit 0,A.lit 0,A.lit 0,A.lit 0,A.lit 0,x0.1,x0.2.1,x0.2.2.1,x0.2.2.2.1,x0.q.1,x0.q.2.1,x9.1,()))<|
 A.cl aeA aeB (A.mkX .blk (x0.1,x0.2.1,x0.o.1,x0.2.2.1,x0.2.2.2.1,x0.q.1,x0.q.2.1,()),x2.2.1,x2.2.2.1,()) fun x8=>
 A.inr _<|A.inr _<|A.inr _<|A.inr _<|A.inr _<|A.ret _ (A.mkX .blk (x8.1,x8.2.1,x8.o.1,x8.2.2.1,x8.2.2.2.1,x8.q.1,x8.q.2.1,()),x8.q.2.2.1,x8.q.2.2.2.1,())) fun x7=>
 A.inl _ (x7.1,x7.2.1,x7.2.2.1,x7.2.2.2.1,x7.q.1,x7.q.2.1,x7.q.2.2.1,x7.q.2.2.2.1,x7.o.1,x7.o.2.1,x7.o.2.2.1,x7.o.2.2.2.1,x7.o.q.1,x7.o.q.2.1,x7.o.q.2.2.1,())) fun x6=>
 A.inl _ (x6.1,x6.2.1,x6.2.2.1,x6.2.2.2.1,x6.q.1,x6.q.2.1,x6.q.2.2.1,x6.q.2.2.2.1,x6.o.1,x6.o.2.1,x6.o.2.2.1,x6.o.2.2.2.1,x6.o.q.1,x6.o.q.2.1,x6.o.q.2.2.1,())) fun x5=>
 A.inl _ (x5.1,x5.2.1,x5.2.2.1,x5.2.2.2.1,x5.q.1,x5.q.2.1,x5.q.2.2.1,x5.q.2.2.2.1,x5.o.1,x5.o.2.1,x5.o.2.2.1,x5.o.2.2.2.1,x5.o.q.1,x5.o.q.2.1,x5.o.q.2.2.1,())) fun x4=>
 A.inl _ (x4.1,x4.2.1,x4.2.2.1,x4.2.2.2.1,x4.q.1,x4.q.2.1,x4.q.2.2.1,x4.q.2.2.2.1,x4.o.1,x4.o.2.1,x4.o.2.2.1,x4.o.2.2.2.1,x4.o.q.1,x4.o.q.2.1,x4.o.q.2.2.1,()))<|
 A.inl _ (x1.2.1,x1.2.2.1,A.lit 0,A.lit 0,A.lit 0,A.lit 0,A.lit 0,A.lit 0,x0.1,x0.2.1,x0.2.2.1,x0.2.2.2.1,x0.q.1,x0.q.2.1,x0.o.1,())) fun x2=>
 A.ret _ (A.mkX .blk (x2.o.1,x2.o.2.1,x2.o.q.2.2.1,x2.o.2.2.1,x2.o.2.2.2.1,x2.o.q.1,x2.o.q.2.1,()),x2.1,x2.2.1,())
def Xr (A:Alg) (gq:Pt A bY) (gu:Ft A bY) (x:Tup A.ah [.i]):Ot A AX:=
 A.l1 .b (A.bl false) fun x0=>
 A.cl gq gu (x.1,A.lit 1,A.lit 5,()) fun x1=>
 A.rb x1.1
def Xt (A:Alg) (gq:Pt A bY) (gu:Ft A bY) (x:Tup A.ah [.i]):Ot A AY:=
 A.l1 .b (A.bl false) fun x0=>
 A.cl gq gu (x.1,A.lit 0,A.lit 3,()) fun x1=>
 A.rb x1.1
def Xu (A:Alg) (gq:Pt A bY) (gu:Ft A bY) (Xv:Pt A AX) (Xw:Ft A AX) (TN:Pt A AQ) (TP:Ft A AQ) (kL:Pt A iF) (kM:Ft A iF) (TQ:Pt A AY) (TR:Ft A AY) (x:Tup A.ah [.x .atom,.i]):Ot A AZ:=
 A.l1 .b (A.bl false) fun x0=>
 A.cond (A.cmp .eql (A.fI .atom 0 x.1) (A.lit 4)) (A.cl Xv Xw (A.fI .atom 1 x.1,()) fun x1=>
 A.cg x1.1 kL kM (A.mkX .poly (A.fL .atom 2 .mono x.1,()),()) fun x2=>
 A.cg (A.ak x1.1 x2.1 (A.bl false)) kL kM (A.mkX .poly (A.fL .atom 3 .mono x.1,()),()) fun x3=>
 A.cg (A.ak (A.ak x1.1 x2.1 (A.bl false)) x3.1 (A.bl false)) TN TP (A.mkX .poly (A.fL .atom 2 .mono x.1,()),x.2.1,()) fun x4=>
 A.cg (A.ak (A.ak (A.ak x1.1 x2.1 (A.bl false)) x3.1 (A.bl false)) x4.1 (A.bl false)) TN TP (A.mkX .poly (A.fL .atom 3 .mono x.1,()),x.2.1,()) fun x5=>
 A.rb (A.ak (A.ak (A.ak (A.ak x1.1 x2.1 (A.bl false)) x3.1 (A.bl false)) x4.1 (A.bl false)) x5.1 (A.bl false)))<|
 A.cond (A.cmp .gtr (A.arith .add .i64 (A.len .mono (A.fL .atom 2 .mono x.1)) (A.len .mono (A.fL .atom 3 .mono x.1))) (A.lit 0)) (A.rb (A.bl false))<|
 A.cg (A.cmp .eql (A.fI .atom 0 x.1) (A.lit 1)) TQ TR (A.fI .atom 1 x.1,()) fun x1=>
 A.cg (A.mq (A.aA (A.ak (A.cmp .eql (A.fI .atom 0 x.1) (A.lit 1)) x1.1 (A.bl false))) (A.ak (A.cmp .eql (A.fI .atom 0 x.1) (A.lit 2)) (A.bl true) (A.cmp .eql (A.fI .atom 0 x.1) (A.lit 3)))) gq gu (A.fI .atom 1 x.1,A.lit 0,A.lit 199,()) fun x2=>
 A.rb (A.ak (A.ak (A.cmp .eql (A.fI .atom 0 x.1) (A.lit 1)) x1.1 (A.bl false)) (A.bl true) (A.ak (A.ak (A.cmp .eql (A.fI .atom 0 x.1) (A.lit 2)) (A.bl true) (A.cmp .eql (A.fI .atom 0 x.1) (A.lit 3))) x2.1 (A.bl false)))
def Xx (A:Alg) (lF:Pt A jl) (lG:Ft A jl) (x:Tup A.ah [.x .atom,.x .atom]):Ot A L9:=
 A.l1 .b (A.bl false) fun x0=>
 A.cg (A.ak (A.cmp .eql (A.fI .atom 0 x.1) (A.fI .atom 0 x.2.1)) (A.cmp .eql (A.fI .atom 1 x.1) (A.fI .atom 1 x.2.1)) (A.bl false)) lF lG (A.mkX .poly (A.fL .atom 2 .mono x.1,()),A.mkX .poly (A.fL .atom 2 .mono x.2.1,()),()) fun x1=>
 A.cg (A.ak (A.ak (A.cmp .eql (A.fI .atom 0 x.1) (A.fI .atom 0 x.2.1)) (A.cmp .eql (A.fI .atom 1 x.1) (A.fI .atom 1 x.2.1)) (A.bl false)) x1.1 (A.bl false)) lF lG (A.mkX .poly (A.fL .atom 3 .mono x.1,()),A.mkX .poly (A.fL .atom 3 .mono x.2.1,()),()) fun x2=>
 A.rb (A.ak (A.ak (A.ak (A.cmp .eql (A.fI .atom 0 x.1) (A.fI .atom 0 x.2.1)) (A.cmp .eql (A.fI .atom 1 x.1) (A.fI .atom 1 x.2.1)) (A.bl false)) x1.1 (A.bl false)) x2.1 (A.bl false))
def Xy (A:Alg) (aki:Pt A L9) (akj:Ft A L9) (x:Tup A.ah [.x .atom,.x .atom]):Ot A Ma:=
 A.l1 .b (A.bl false) fun x0=>
 A.cl aki akj (x.2.1,x.1,()) fun x1=>
 A.l1 .b x1.1 fun x2=>
 A.ret _ (x2.1,x.2.1,())
def QU (A:Alg) (akk:Pt A Ma) (akl:Ft A Ma) (x:Tup A.ah [.l .atom,.x .atom]):Ot A Er:=
 A.l1 .i (A.lit 0) fun x0=>
 A.iter [.l .atom,.i,.i,.x .atom] (fun x1=>
 A.cond (A.cmp .lss x1.2.2.1 x1.2.1) (A.l1 .i x1.2.2.1 fun x2=>
 A.bd .atom x1.1 x2.1<|
 A.cl akk akl (A.get .atom x1.1 x2.1,x1.2.2.2.1,()) fun x3=>
 A.cond x3.1 (A.l1 .i x2.1 fun x4=>
 A.inr _<|A.ret _ (x4.1,x3.2.1,()))<|
 A.inl _ (x1.1,x1.2.1,A.arith .add .i64 x1.2.2.1 (A.lit 1),x3.2.1,()))<|
 A.inr _<|A.l1 .i (A.lit (-1)) fun x2=>
 A.ret _ (x2.1,x1.2.2.2.1,())) (x.1,A.len .atom x.1,A.lit 0,x.2.1,())
def Xz (A:Alg) (aeE:Pt A Er) (aeF:Ft A Er) (x:Tup A.ah [.x .tab,.x .atom]):Ot A A8:=
 A.l1 .i (A.lit 0) fun x0=>
 A.cl aeE aeF (A.fL .tab 0 .atom x.1,x.2.1,()) fun x1=>
 A.l1 .i x1.1 fun x2=>
 A.ret _ (x2.1,())
def XA (A:Alg) (XB:Pt A AZ) (XC:Ft A AZ) (XD:Pt A A8) (XE:Ft A A8) (x:Tup A.ah [.x .tab]):Ot A Mc:=
 A.l1 .b (A.bl false) fun x0=>
 A.iter [.l .atom,.i,.i,.x .tab] (fun x1=>
 A.cond (A.cmp .lss x1.2.2.1 x1.2.1) (A.bd .atom x1.1 x1.2.2.1<|
 A.l1 .i x1.2.2.1 fun x2=>
 A.l1 (.x .atom) (A.get .atom x1.1 x1.2.2.1) fun x3=>
 A.cl XB XC (x3.1,x2.1,()) fun x4=>
 A.cg (A.aA (A.aA x4.1)) XD XE (x1.2.2.2.1,x3.1,()) fun x5=>
 A.cond (A.ak (A.aA x4.1) (A.bl true) (A.cmp .neq x5.1 x2.1)) (A.l1 .b (A.bl false) fun x6=>
 A.inr _<|A.ret _ (x6.1,()))<|
 A.inl _ (x1.1,x1.2.1,A.arith .add .i64 x1.2.2.1 (A.lit 1),x1.2.2.2.1,()))<|
 A.inr _<|A.rb (A.cmp .leq (A.len .atom (A.fL .tab 0 .atom x1.2.2.2.1)) (A.lit 200))) (A.fL .tab 0 .atom x.1,A.len .atom (A.fL .tab 0 .atom x.1),A.lit 0,x.1,())
def XF (A:Alg) (gq:Pt A bY) (gu:Ft A bY) (x:Tup A.ah [.x .iop]):Ot A uj:=
 A.l1 .b (A.bl false) fun x0=>
 A.l1 .b (A.bl false) fun x1=>
 A.l1 .b (A.bl false) fun x2=>
 A.l1 .b (A.bl false) fun x3=>
 A.l1 .b (A.ak (A.ak (A.cmp .neq (A.fI .iop 0 x.1) (A.lit 1)) (A.cmp .neq (A.fI .iop 0 x.1) (A.lit 2)) (A.bl false)) (A.cmp .neq (A.fI .iop 0 x.1) (A.lit 6)) (A.bl false)) fun x4=>
 A.l1 .b (A.ak (A.cmp .eql (A.fI .iop 0 x.1) (A.lit 3)) (A.bl true) (A.cmp .eql (A.fI .iop 0 x.1) (A.lit 5))) fun x5=>
 A.l1 .b (A.ak (A.ak (A.ak (A.cmp .eql (A.fI .iop 0 x.1) (A.lit 1)) (A.bl true) (A.cmp .eql (A.fI .iop 0 x.1) (A.lit 2))) (A.bl true) (A.cmp .eql (A.fI .iop 0 x.1) (A.lit 3))) (A.bl true) (A.cmp .eql (A.fI .iop 0 x.1) (A.lit 8))) fun x6=>
 A.cl gq gu (A.fI .iop 0 x.1,A.lit 4,A.lit 7,()) fun x7=>
 A.l1 .b x7.1 fun x8=>
 A.l1 .b x4.1 fun x9=>
 A.l1 .b x5.1 fun x10=>
 A.l1 .b x6.1 fun x11=>
 A.l1 .b x8.1 fun x12=>
 A.ret _ (x9.1,x10.1,x11.1,x12.1,())
def XG (A:Alg) (gq:Pt A bY) (gu:Ft A bY) (x:Tup A.ah [.x .iop]):Ot A Md:=
 A.l1 .b (A.bl false) fun x0=>
 A.cl gq gu (A.fI .iop 0 x.1,A.lit 1,A.lit 4,()) fun x1=>
 A.rb (A.ak x1.1 (A.bl true) (A.cmp .eql (A.fI .iop 0 x.1) (A.lit 6)))
def XH (A:Alg) (akm:Pt A Md) (akn:Ft A Md) (gq:Pt A bY) (gu:Ft A bY) (x:Tup A.ah [.x .blk,.i,.i]):Ot A A9:=
 A.l1 .b (A.bl false) fun x0=>
 A.cl gq gu (x.2.1,A.lit 0,A.arith .sub .i64 x.2.2.1 (A.lit 1),()) fun x1=>
 A.chk (A.orB (A.aA x1.1) (A.cmp .leq (A.lit 0) x.2.1))<|
 A.chk (A.orB (A.aA x1.1) (A.cmp .lss x.2.1 (A.len .iop (A.fL .blk 2 .iop x.1))))<|
 A.cg x1.1 akm akn (A.get .iop (A.fL .blk 2 .iop x.1) x.2.1,()) fun x2=>
 A.rb (A.ak x1.1 x2.1 (A.bl false))
def XI (A:Alg) (MO:Pt A A9) (MQ:Ft A A9) (MR:Pt A uj) (MS:Ft A uj) (qw:Pt A jm) (qx:Ft A jm) (gq:Pt A bY) (gu:Ft A bY) (Xv:Pt A AX) (Xw:Ft A AX) (TQ:Pt A AY) (TR:Ft A AY) (x:Tup A.ah [.x .blk,.i]):Ot A Me:=
 A.l1 .b (A.bl false) fun x0=>
 A.bd .iop (A.fL .blk 2 .iop x.1) x.2.1<|
 A.l1 (.x .iop) (A.get .iop (A.fL .blk 2 .iop x.1) x.2.1) fun x1=>
 A.cl gq gu (A.fI .iop 0 x1.1,A.lit 1,A.lit 8,()) fun x2=>
 A.cond (A.aA x2.1) (A.rb (A.bl false))<|
 A.cl MR MS (x1.1,()) fun x3=>
 A.l1 .b x3.1 fun x4=>
 A.l1 .b x3.2.1 fun x5=>
 A.l1 .b x3.2.2.1 fun x6=>
 A.l1 .b x3.2.2.2.1 fun x7=>
 A.cl qw qx (A.fI .iop 3 x1.1,()) fun x8=>
 A.cl TQ TR (A.fI .iop 3 x1.1,()) fun x9=>
 A.cl Xv Xw (A.fI .iop 3 x1.1,()) fun x10=>
 A.cl TQ TR (A.fI .iop 3 x1.1,()) fun x11=>
 A.l1 .b (A.ak (A.cmp .eql (A.fI .iop 0 x1.1) (A.lit 1)) x8.1 (A.ak (A.cmp .eql (A.fI .iop 0 x1.1) (A.lit 2)) x9.1 (A.ak (A.cmp .eql (A.fI .iop 0 x1.1) (A.lit 3)) x10.1 (A.ak (A.cmp .eql (A.fI .iop 0 x1.1) (A.lit 8)) x11.1 (A.bl false))))) fun x12=>
 A.cg x4.1 MO MQ (x.1,A.fI .iop 1 x1.1,x.2.1,()) fun x13=>
 A.cg (A.mq (A.ak (A.ak x4.1 x13.1 (A.bl false)) (A.bl true) (A.ak (A.aA x4.1) (A.cmp .eql (A.fI .iop 1 x1.1) (A.lit 0)) (A.bl false))) x5.1) MO MQ (x.1,A.fI .iop 2 x1.1,x.2.1,()) fun x14=>
 A.cg (A.mq (A.ak (A.ak (A.ak (A.ak x4.1 x13.1 (A.bl false)) (A.bl true) (A.ak (A.aA x4.1) (A.cmp .eql (A.fI .iop 1 x1.1) (A.lit 0)) (A.bl false))) (A.ak (A.ak x5.1 x14.1 (A.bl false)) (A.bl true) (A.ak (A.aA x5.1) (A.cmp .eql (A.fI .iop 2 x1.1) (A.lit 0)) (A.bl false))) (A.bl false)) (A.ak (A.ak x6.1 x12.1 (A.bl false)) (A.bl true) (A.ak (A.aA x6.1) (A.cmp .eql (A.fI .iop 3 x1.1) (A.lit 0)) (A.bl false))) (A.bl false)) x7.1) gq gu (A.fI .iop 4 x1.1,A.lit 0,A.arith .sub .i64 (A.fI .blk 1 x.1) (A.lit 1),()) fun x15=>
 A.rb (A.ak (A.ak (A.ak (A.ak (A.ak x4.1 x13.1 (A.bl false)) (A.bl true) (A.ak (A.aA x4.1) (A.cmp .eql (A.fI .iop 1 x1.1) (A.lit 0)) (A.bl false))) (A.ak (A.ak x5.1 x14.1 (A.bl false)) (A.bl true) (A.ak (A.aA x5.1) (A.cmp .eql (A.fI .iop 2 x1.1) (A.lit 0)) (A.bl false))) (A.bl false)) (A.ak (A.ak x6.1 x12.1 (A.bl false)) (A.bl true) (A.ak (A.aA x6.1) (A.cmp .eql (A.fI .iop 3 x1.1) (A.lit 0)) (A.bl false))) (A.bl false)) (A.ak (A.ak x7.1 x15.1 (A.bl false)) (A.bl true) (A.ak (A.aA x7.1) (A.cmp .eql (A.fI .iop 4 x1.1) (A.lit 0)) (A.bl false))) (A.bl false))
def XJ (A:Alg) (x:Tup A.ah [.x .blk]):Ot A um:=
 A.l1 .b (A.bl false) fun x0=>
 A.l1 .b (A.bl false) fun x1=>
 A.l1 .b (A.bl false) fun x2=>
 A.l1 .b (A.cmp .neq (A.fI .blk 3 x.1) (A.lit 1)) fun x3=>
 A.l1 .b (A.cmp .geq (A.fI .blk 3 x.1) (A.lit 3)) fun x4=>
 A.l1 .b (A.cmp .neq (A.fI .blk 3 x.1) (A.lit 2)) fun x5=>
 A.ret _ (x3.1,x4.1,x5.1,())
def XK (A:Alg) (MU:Pt A um) (MV:Ft A um) (MO:Pt A A9) (MQ:Ft A A9) (qw:Pt A jm) (qx:Ft A jm) (gq:Pt A bY) (gu:Ft A bY) (x:Tup A.ah [.x .blk]):Ot A Mf:=
 A.l1 .b (A.bl false) fun x0=>
 A.cl MU MV (x.1,()) fun x1=>
 A.l1 .b x1.1 fun x2=>
 A.l1 .b x1.2.1 fun x3=>
 A.l1 .b x1.2.2.1 fun x4=>
 A.cl gq gu (A.fI .blk 3 x.1,A.lit 1,A.lit 4,()) fun x5=>
 A.cg (A.mq x5.1 x2.1) MO MQ (x.1,A.fI .blk 4 x.1,A.len .iop (A.fL .blk 2 .iop x.1),()) fun x6=>
 A.cg (A.mq (A.ak x5.1 (A.ak (A.ak x2.1 x6.1 (A.bl false)) (A.bl true) (A.ak (A.aA x2.1) (A.cmp .eql (A.fI .blk 4 x.1) (A.lit 0)) (A.bl false))) (A.bl false)) x3.1) MO MQ (x.1,A.fI .blk 5 x.1,A.len .iop (A.fL .blk 2 .iop x.1),()) fun x7=>
 A.cg (A.mq (A.ak (A.ak x5.1 (A.ak (A.ak x2.1 x6.1 (A.bl false)) (A.bl true) (A.ak (A.aA x2.1) (A.cmp .eql (A.fI .blk 4 x.1) (A.lit 0)) (A.bl false))) (A.bl false)) (A.ak (A.ak x3.1 x7.1 (A.bl false)) (A.bl true) (A.ak (A.aA x3.1) (A.cmp .eql (A.fI .blk 5 x.1) (A.lit 0)) (A.bl false))) (A.bl false)) x4.1) qw qx (A.fI .blk 6 x.1,()) fun x8=>
 A.rb (A.ak (A.ak (A.ak x5.1 (A.ak (A.ak x2.1 x6.1 (A.bl false)) (A.bl true) (A.ak (A.aA x2.1) (A.cmp .eql (A.fI .blk 4 x.1) (A.lit 0)) (A.bl false))) (A.bl false)) (A.ak (A.ak x3.1 x7.1 (A.bl false)) (A.bl true) (A.ak (A.aA x3.1) (A.cmp .eql (A.fI .blk 5 x.1) (A.lit 0)) (A.bl false))) (A.bl false)) (A.ak (A.ak x4.1 x8.1 (A.bl false)) (A.bl true) (A.ak (A.aA x4.1) (A.cmp .eql (A.fI .blk 6 x.1) (A.lit 0)) (A.bl false))) (A.bl false))
def XL (A:Alg) (ako:Pt A Mf) (akp:Ft A Mf) (akq:Pt A Me) (akr:Ft A Me) (gq:Pt A bY) (gu:Ft A bY) (x:Tup A.ah [.x .blk]):Ot A uo:=
 A.l1 .b (A.bl false) fun x0=>
 A.cl gq gu (A.fI .blk 1 x.1,A.lit 1,A.lit 8,()) fun x1=>
 A.cg (A.aA (A.aA x1.1)) gq gu (A.fI .blk 0 x.1,A.lit 0,A.arith .sub .i64 (A.lit 64) (A.fI .blk 1 x.1),()) fun x2=>
 A.cond (A.ak (A.ak (A.aA x1.1) (A.bl true) (A.aA x2.1)) (A.bl true) (A.cmp .gtr (A.len .iop (A.fL .blk 2 .iop x.1)) (A.lit 48))) (A.rb (A.bl false))<|
 A.iter [.i,.i,.x .blk] (fun x3=>
 A.cond (A.cmp .lss x3.2.1 x3.1) (A.l1 .i x3.2.1 fun x4=>
 A.cl akq akr (x3.2.2.1,x4.1,()) fun x5=>
 A.cond (A.aA x5.1) (A.l1 .b (A.bl false) fun x6=>
 A.inr _<|A.ret _ (x6.1,()))<|
 A.inl _ (x3.1,A.arith .add .i64 x3.2.1 (A.lit 1),x3.2.2.1,()))<|
 A.inr _<|A.cl ako akp (x3.2.2.1,()) fun x4=>
 A.rb x4.1) (A.len .iop (A.fL .blk 2 .iop x.1),A.lit 0,x.1,())
def XM (A:Alg) (x:Tup A.ah [.l .atom]):Ot A Mg:=
 A.chk (A.cmp .leq (A.lit 0) (A.lit 0))<|
 A.chk (A.cmp .leq (A.lit 0) (A.len .atom x.1))<|
 A.chk (A.cmp .leq (A.len .atom x.1) (A.len .atom x.1))<|
 A.chk (A.cmp .eql (A.len .atom x.1) (A.len .atom x.1))<|
 A.ret _ (A.sub .atom x.1 (A.lit 0) (A.len .atom x.1),())
def XO (A:Alg) (XB:Pt A AZ) (XC:Ft A AZ) (XD:Pt A A8) (XE:Ft A A8) (aks:Pt A Mg) (akt:Ft A Mg) (x:Tup A.ah [.x .tab,.x .atom]):Ot A Ba:=
 A.l1 .i (A.lit 0) fun x0=>
 A.cl XD XE (x.1,x.2.1,()) fun x1=>
 A.l1 .i x1.1 fun x2=>
 A.cond (A.cmp .geq x2.1 (A.lit 0)) (A.l1 (.x .tab) x.1 fun x3=>
 A.l1 .i x2.1 fun x4=>
 A.ret _ (x3.1,x4.1,()))<|
 A.cl XB XC (x.2.1,A.len .atom (A.fL .tab 0 .atom x.1),()) fun x3=>
 A.cond (A.ak (A.aA x3.1) (A.bl true) (A.cmp .eql (A.len .atom (A.fL .tab 0 .atom x.1)) (A.lit 200))) (A.l1 (.x .tab) x.1 fun x4=>
 A.l1 .i (A.lit (-1)) fun x5=>
 A.ret _ (x4.1,x5.1,()))<|
 A.cl aks akt (A.fL .tab 0 .atom x.1,()) fun x4=>
 A.chk (A.orB (A.cmp .lss (A.lit 0) (A.len .atom (A.lst .atom [x.2.1]))) (A.cmp .eql (A.len .atom x4.1) (A.lit 0)))<|
 A.chk (A.cmp .leq (A.addN (A.len .atom x4.1) (A.len .atom (A.lst .atom [x.2.1]))) (A.lit 1073741824))<|
 A.l1 (.l .atom) (A.app .atom x4.1 (A.lst .atom [x.2.1])) fun x5=>
 A.l1 .i (A.len .atom (A.fL .tab 0 .atom x.1)) fun x6=>
 A.ret _ (A.mkX .tab (x5.1,()),x6.1,())
def XP (A:Alg) (gq:Pt A bY) (gu:Ft A bY) (x:Tup A.ah [.i]):Ot A Bb:=
 A.cl gq gu (x.1,A.lit 0,A.lit 199,()) fun x0=>
 A.cond (A.aA x0.1) (A.ret _ (A.bQ .mono,()))<|
 A.l1 (.l .i64) (A.lst .i64 [A.mkX .i64 (x.1,())]) fun x1=>
 A.l1 (.l .mono) (A.lst .mono [A.mkX .mono (A.lit 1,x1.1,())]) fun x2=>
 A.ret _ (x2.1,())
def XQ (A:Alg) (XR:Pt A Bb) (XU:Ft A Bb) (XV:Pt A Ba) (XW:Ft A Ba) (x:Tup A.ah [.i,.i,.l .atom,.b]):Ot A Bc:=
 A.cl XV XW (A.mkX .tab (x.2.2.1,()),A.mkX .atom (x.1,x.2.1,A.bQ .mono,A.bQ .mono,()),()) fun x0=>
 A.l1 (.x .tab) x0.1 fun x1=>
 A.l1 .i x0.2.1 fun x2=>
 A.cond (A.cmp .lss x2.1 (A.lit 0)) (A.l1 .b (A.bl true) fun x3=>
 A.ret _ (A.mkX .poly (A.bQ .mono,()),x.2.2.1,x3.1,()))<|
 A.l1 (.x .tab) x1.1 fun x3=>
 A.cl XR XU (x2.1,()) fun x4=>
 A.ret _ (A.mkX .poly (x4.1,()),A.fL .tab 0 .atom x3.1,x.2.2.2.1,())
def XY (A:Alg) (TS:Pt A Bc) (TT:Ft A Bc) (x:Tup A.ah [.l .atom,.b]):Ot A Bd:=
 A.iter [.i,.l .atom,.b,.l .poly] (fun x0=>
 A.cond (A.cmp .lss x0.1 (A.lit 4)) (A.l1 .i x0.1 fun x1=>
 A.cl TS TT (A.lit 1,x1.1,x0.2.1,x0.2.2.1,()) fun x2=>
 A.l1 (.l .poly) (A.lst .poly [x2.1]) fun x3=>
 A.chk (A.cmp .leq (A.addN (A.len .poly x0.2.2.2.1) (A.len .poly x3.1)) (A.lit 1073741824))<|
 A.l1 (.l .poly) (A.app .poly x0.2.2.2.1 x3.1) fun x4=>
 A.inl _ (A.arith .add .i64 x0.1 (A.lit 1),x2.2.1,x2.2.2.1,x4.1,()))<|
 A.inr _<|A.ret _ (x0.2.1,x0.2.2.1,x0.2.2.2.1,())) (A.lit 0,x.1,x.2.1,A.bQ .poly,())
def XZ (A:Alg) (gq:Pt A bY) (gu:Ft A bY) (x:Tup A.ah [.x .iop]):Ot A Mh:=
 A.l1 .b (A.bl false) fun x0=>
 A.cl gq gu (A.fI .iop 0 x.1,A.lit 4,A.lit 7,()) fun x1=>
 A.rb x1.1
def X0 (A:Alg) (x:Tup A.ah [.l .poly]):Ot A Mi:=
 A.chk (A.cmp .neq (A.len .poly x.1) (A.lit 0))<|
 A.cond (A.bl false) (A.ret _ (x.1,A.bQ .poly,()))<|
 A.l1 (.l .poly) (A.lst .poly []) fun x0=>
 A.chk (A.cmp .leq (A.addN (A.len .poly x0.1) (A.len .poly x.1)) (A.lit 1073741824))<|
 A.l1 (.l .poly) (A.app .poly x0.1 x.1) fun x1=>
 A.ret _ (x.1,x1.1,())
def X3 (A:Alg) (gq:Pt A bY) (gu:Ft A bY) (x:Tup A.ah [.i]):Ot A uw:=
 A.cl gq gu (x.1,A.lit 1,A.lit 65535,()) fun x0=>
 A.cond (A.aA x0.1) (A.ret _ (A.bQ .mono,()))<|
 A.l1 (.l .mono) (A.lst .mono [A.mkX .mono (x.1,A.bQ .i64,())]) fun x1=>
 A.ret _ (x1.1,())
def X4 (A:Alg) (x:Tup A.ah [.i]):Ot A uz:=
 A.l1 .i (A.lit 0) fun x0=>
 A.l1 .i (A.arith .and .i64 x.1 (A.lit 65535)) fun x1=>
 A.ret _ (x1.1,())
def X5 (A:Alg) (qw:Pt A jm) (qx:Ft A jm) (EZ:Pt A uz) (E5:Ft A uz) (x:Tup A.ah [.i,.i,.i]):Ot A Mj:=
 A.l1 .i (A.lit 0) fun x0=>
 A.cl qw qx (x.2.1,()) fun x1=>
 A.cg (A.aA (A.aA x1.1)) qw qx (x.2.2.1,()) fun x2=>
 A.cond (A.ak (A.aA x1.1) (A.bl true) (A.aA x2.1)) (A.l1 .i (A.lit 0) fun x3=>
 A.ret _ (x3.1,()))<|
 A.l1 .b (A.cmp .eql x.1 (A.lit 1)) fun x3=>
 A.cond x3.1 (A.cl EZ E5 (A.arith .add .i64 x.2.1 x.2.2.1,()) fun x4=>
 A.l1 .i x4.1 fun x5=>
 A.ret _ (x5.1,()))<|
 A.l1 .b (A.cmp .eql x.1 (A.lit 2)) fun x4=>
 A.cond x4.1 (A.cl EZ E5 (A.arith .sub .i64 x.2.1 x.2.2.1,()) fun x5=>
 A.l1 .i x5.1 fun x6=>
 A.ret _ (x6.1,()))<|
 A.l1 .b (A.cmp .eql x.1 (A.lit 3)) fun x5=>
 A.cond x5.1 (A.cl EZ E5 (A.arith .mul .i64 x.2.1 x.2.2.1,()) fun x6=>
 A.l1 .i x6.1 fun x7=>
 A.ret _ (x7.1,()))<|
 A.l1 .b (A.cmp .eql x.1 (A.lit 4)) fun x6=>
 A.cond x6.1 (A.l1 .i (A.arith .and .i64 x.2.1 x.2.2.1) fun x7=>
 A.ret _ (x7.1,()))<|
 A.l1 .b (A.cmp .eql x.1 (A.lit 5)) fun x7=>
 A.cond x7.1 (A.l1 .i (A.arith .xor .i64 x.2.1 x.2.2.1) fun x8=>
 A.ret _ (x8.1,()))<|
 A.l1 .i (A.lit 0) fun x8=>
 A.ret _ (x8.1,())
def X6 (A:Alg) (EX:Pt A nX) (EY:Ft A nX) (x:Tup A.ah [.x .mono,.x .mono]):Ot A Bf:=
 A.l1 .i (A.lit 0) fun x0=>
 A.cl EX EY (A.fL .mono 1 .i64 x.1,A.fL .mono 1 .i64 x.2.1,()) fun x1=>
 A.l1 .i x1.1 fun x2=>
 A.ret _ (x2.1,())
def QV (A:Alg) (MW:Pt A Bf) (MX:Ft A Bf) (x:Tup A.ah [.i,.i,.l .mono]):Ot A Es:=
 A.l1 .i (A.arith .add .i64 x.1 (A.lit 1)) fun x0=>
 A.iter [.i,.i,.i,.l .mono] (fun x1=>
 A.cond (A.cmp .lss x1.2.2.1 x1.2.1) (A.l1 .i x1.2.2.1 fun x2=>
 A.iter [.i,.i,.i,.i,.l .mono] (fun x3=>
 A.chk (A.orB (A.aA (A.cmp .gtr x3.2.2.2.1 x3.1)) (A.cmp .leq (A.lit 0) x3.2.2.2.1))<|
 A.chk (A.orB (A.aA (A.cmp .gtr x3.2.2.2.1 x3.1)) (A.cmp .lss x3.2.2.2.1 (A.len .mono x3.q.1)))<|
 A.chk (A.orB (A.aA (A.cmp .gtr x3.2.2.2.1 x3.1)) (A.cmp .leq (A.lit 0) x3.2.2.2.1))<|
 A.chk (A.orB (A.aA (A.cmp .gtr x3.2.2.2.1 x3.1)) (A.cmp .lss x3.2.2.2.1 (A.len .mono x3.q.1)))<|
 A.chk (A.orB (A.aA (A.cmp .gtr x3.2.2.2.1 x3.1)) (A.cmp .leq (A.lit 0) (A.arith .sub .i64 x3.2.2.2.1 (A.lit 1))))<|
 A.chk (A.orB (A.aA (A.cmp .gtr x3.2.2.2.1 x3.1)) (A.cmp .lss (A.arith .sub .i64 x3.2.2.2.1 (A.lit 1)) (A.len .mono x3.q.1)))<|
 A.chk (A.orB (A.aA (A.cmp .gtr x3.2.2.2.1 x3.1)) (A.cmp .leq (A.lit 0) (A.arith .sub .i64 x3.2.2.2.1 (A.lit 1))))<|
 A.chk (A.orB (A.aA (A.cmp .gtr x3.2.2.2.1 x3.1)) (A.cmp .lss (A.arith .sub .i64 x3.2.2.2.1 (A.lit 1)) (A.len .mono x3.q.1)))<|
 A.cg (A.cmp .gtr x3.2.2.2.1 x3.1) MW MX (A.get .mono x3.q.1 x3.2.2.2.1,A.get .mono x3.q.1 (A.arith .sub .i64 x3.2.2.2.1 (A.lit 1)),()) fun x4=>
 A.cond (A.ak (A.cmp .gtr x3.2.2.2.1 x3.1) (A.cmp .lss x4.1 (A.lit 0)) (A.bl false)) (A.bd .mono x3.q.1 (A.arith .sub .i64 x3.2.2.2.1 (A.lit 1))<|
 A.bd .mono x3.q.1 (A.arith .sub .i64 x3.2.2.2.1 (A.lit 1))<|
 A.bd .mono x3.q.1 x3.2.2.2.1<|
 A.bd .mono x3.q.1 x3.2.2.2.1<|
 A.bd .mono x3.q.1 x3.2.2.2.1<|
 A.bd .mono x3.q.1 x3.2.2.2.1<|
 A.l1 (.x .mono) (A.get .mono x3.q.1 (A.arith .sub .i64 x3.2.2.2.1 (A.lit 1))) fun x5=>
 A.bd .mono (A.set .mono x3.q.1 x3.2.2.2.1 x5.1) (A.arith .sub .i64 x3.2.2.2.1 (A.lit 1))<|
 A.bd .mono (A.set .mono x3.q.1 x3.2.2.2.1 x5.1) (A.arith .sub .i64 x3.2.2.2.1 (A.lit 1))<|
 A.l1 (.x .mono) (A.get .mono x3.q.1 x3.2.2.2.1) fun x6=>
 A.l1 .i (A.arith .sub .i64 x3.2.2.2.1 (A.lit 1)) fun x7=>
 A.inl _ (x3.1,x3.2.1,x3.2.2.1,x7.1,A.set .mono (A.set .mono x3.q.1 x3.2.2.2.1 x5.1) (A.arith .sub .i64 x3.2.2.2.1 (A.lit 1)) x6.1,()))<|
 A.inr _<|A.l1 .i (A.arith .add .i64 x3.2.2.1 (A.lit 1)) fun x5=>
 A.inl _ (x3.1,x3.2.1,x5.1,x3.q.1,())) (x1.1,x1.2.1,x1.2.2.1,x2.1,x1.2.2.2.1,()))<|
 A.inr _<|A.ret _ (x1.2.2.2.1,())) (x.1,x.2.1,x0.1,x.2.2.1,())
def QW (A:Alg) (x:Tup A.ah [.i,.i,.i,.l .mono]):Ot A Eu:=
 A.l1 .i (A.lit 0) fun x0=>
 A.iter [.i,.i,.i,.i,.l .mono] (fun x1=>
 A.cond (A.cmp .lss x1.2.2.2.1 x1.2.2.1) (A.bd .mono x1.q.1 (A.arith .add .i64 x1.2.1 x1.2.2.2.1)<|
 A.bd .mono x1.q.1 (A.arith .add .i64 x1.2.1 x1.2.2.2.1)<|
 A.bd .mono x1.q.1 (A.arith .add .i64 x1.1 x1.2.2.2.1)<|
 A.bd .mono x1.q.1 (A.arith .add .i64 x1.1 x1.2.2.2.1)<|
 A.bd .mono x1.q.1 (A.arith .add .i64 x1.1 x1.2.2.2.1)<|
 A.bd .mono x1.q.1 (A.arith .add .i64 x1.1 x1.2.2.2.1)<|
 A.l1 (.x .mono) (A.get .mono x1.q.1 (A.arith .add .i64 x1.2.1 x1.2.2.2.1)) fun x2=>
 A.bd .mono (A.set .mono x1.q.1 (A.arith .add .i64 x1.1 x1.2.2.2.1) x2.1) (A.arith .add .i64 x1.2.1 x1.2.2.2.1)<|
 A.bd .mono (A.set .mono x1.q.1 (A.arith .add .i64 x1.1 x1.2.2.2.1) x2.1) (A.arith .add .i64 x1.2.1 x1.2.2.2.1)<|
 A.l1 (.x .mono) (A.get .mono x1.q.1 (A.arith .add .i64 x1.1 x1.2.2.2.1)) fun x3=>
 A.l1 .i (A.arith .add .i64 x1.2.2.2.1 (A.lit 1)) fun x4=>
 A.inl _ (x1.1,x1.2.1,x1.2.2.1,x4.1,A.set .mono (A.set .mono x1.q.1 (A.arith .add .i64 x1.1 x1.2.2.2.1) x2.1) (A.arith .add .i64 x1.2.1 x1.2.2.2.1) x3.1,()))<|
 A.inr _<|A.ret _ (x1.q.1,())) (x.1,x.2.1,x.2.2.1,x0.1,x.2.2.2.1,())
def QX (A:Alg) (QY:Pt A Eu) (QZ:Ft A Eu) (x:Tup A.ah [.i,.i,.i,.l .mono]):Ot A Ew:=
 A.l1 .i (A.arith .sub .i64 x.2.1 x.1) fun x0=>
 A.l1 .i (A.arith .sub .i64 x.2.2.1 x.2.1) fun x1=>
 A.iter [.i,.i,.i,.l .mono] (fun x2=>
 A.cond (A.cmp .neq x2.2.1 x2.2.2.1) (A.bind [.i,.i,.i,.l .mono] (A.cond (A.cmp .gtr x2.2.1 x2.2.2.1) (A.cl QY QZ (A.arith .sub .i64 x2.1 x2.2.1,x2.1,x2.2.2.1,x2.2.2.2.1,()) fun x3=>
 A.l1 .i (A.arith .sub .i64 x2.2.1 x2.2.2.1) fun x4=>
 A.ret _ (x2.1,x4.1,x2.2.2.1,x3.1,()))<|
 A.cl QY QZ (A.arith .sub .i64 x2.1 x2.2.1,A.arith .sub .i64 (A.arith .add .i64 x2.1 x2.2.2.1) x2.2.1,x2.2.1,x2.2.2.2.1,()) fun x3=>
 A.l1 .i (A.arith .sub .i64 x2.2.2.1 x2.2.1) fun x4=>
 A.ret _ (x2.1,x2.2.1,x4.1,x3.1,())) fun x3=>
 A.inl _ (x3.1,x3.2.1,x3.2.2.1,x3.2.2.2.1,()))<|
 A.inr _<|A.cl QY QZ (A.arith .sub .i64 x2.1 x2.2.1,x2.1,x2.2.1,x2.2.2.2.1,()) fun x3=>
 A.ret _ (x3.1,())) (x.2.1,x0.1,x1.1,x.2.2.2.1,())
def E8 (A:Alg) (MW:Pt A Bf) (MX:Ft A Bf) (aeG:Pt A Ew) (aeH:Ft A Ew) (E9:Pt A mK) (Fa:Ft A mK) (x:Tup A.ah [.i,.i,.i,.l .mono]):Ot A mK:=
 A.cond (A.cmp .eql (A.arith .sub .i64 x.2.1 x.1) (A.lit 1)) (A.l1 .i x.2.1 fun x0=>
 A.l1 .i x.2.2.1 fun x1=>
 A.iter [.i,.i,.i,.l .mono] (fun x2=>
 A.cond (A.cmp .lss x2.2.1 x2.2.2.1) (A.chk (A.cmp .leq (A.lit 0) (A.lit 1))<|
 A.l1 .i (A.conv .i64 (A.arith .shr .u64 (A.conv .u64 (A.arith .add .i64 x2.2.1 x2.2.2.1)) (A.lit 1))) fun x3=>
 A.bd .mono x2.2.2.2.1 x3.1<|
 A.bd .mono x2.2.2.2.1 x3.1<|
 A.bd .mono x2.2.2.2.1 x2.1<|
 A.bd .mono x2.2.2.2.1 x2.1<|
 A.cl MW MX (A.get .mono x2.2.2.2.1 x3.1,A.get .mono x2.2.2.2.1 x2.1,()) fun x4=>
 A.bind [.i,.i,.i,.l .mono] (A.cond (A.cmp .lss x4.1 (A.lit 0)) (A.l1 .i (A.arith .add .i64 x3.1 (A.lit 1)) fun x5=>
 A.ret _ (x2.1,x5.1,x2.2.2.1,x2.2.2.2.1,()))<|
 A.l1 .i x3.1 fun x5=>
 A.ret _ (x2.1,x2.2.1,x5.1,x2.2.2.2.1,())) fun x5=>
 A.inl _ (x5.1,x5.2.1,x5.2.2.1,x5.2.2.2.1,()))<|
 A.inr _<|A.l1 .i x2.1 fun x3=>
 A.iter [.i,.i,.l .mono] (fun x4=>
 A.cond (A.cmp .lss x4.2.1 (A.arith .sub .i64 x4.1 (A.lit 1))) (A.bd .mono x4.2.2.1 (A.arith .add .i64 x4.2.1 (A.lit 1))<|
 A.bd .mono x4.2.2.1 (A.arith .add .i64 x4.2.1 (A.lit 1))<|
 A.bd .mono x4.2.2.1 x4.2.1<|
 A.bd .mono x4.2.2.1 x4.2.1<|
 A.bd .mono x4.2.2.1 x4.2.1<|
 A.bd .mono x4.2.2.1 x4.2.1<|
 A.l1 (.x .mono) (A.get .mono x4.2.2.1 (A.arith .add .i64 x4.2.1 (A.lit 1))) fun x5=>
 A.bd .mono (A.set .mono x4.2.2.1 x4.2.1 x5.1) (A.arith .add .i64 x4.2.1 (A.lit 1))<|
 A.bd .mono (A.set .mono x4.2.2.1 x4.2.1 x5.1) (A.arith .add .i64 x4.2.1 (A.lit 1))<|
 A.l1 (.x .mono) (A.get .mono x4.2.2.1 x4.2.1) fun x6=>
 A.l1 .i (A.arith .add .i64 x4.2.1 (A.lit 1)) fun x7=>
 A.inl _ (x4.1,x7.1,A.set .mono (A.set .mono x4.2.2.1 x4.2.1 x5.1) (A.arith .add .i64 x4.2.1 (A.lit 1)) x6.1,()))<|
 A.inr _<|A.ret _ (x4.2.2.1,())) (x2.2.1,x3.1,x2.2.2.2.1,())) (x.1,x0.1,x1.1,x.2.2.2.1,()))<|
 A.cond (A.cmp .eql (A.arith .sub .i64 x.2.2.1 x.2.1) (A.lit 1)) (A.l1 .i x.1 fun x0=>
 A.l1 .i x.2.1 fun x1=>
 A.iter [.i,.i,.i,.l .mono] (fun x2=>
 A.cond (A.cmp .lss x2.2.1 x2.2.2.1) (A.chk (A.cmp .leq (A.lit 0) (A.lit 1))<|
 A.l1 .i (A.conv .i64 (A.arith .shr .u64 (A.conv .u64 (A.arith .add .i64 x2.2.1 x2.2.2.1)) (A.lit 1))) fun x3=>
 A.bd .mono x2.2.2.2.1 x2.1<|
 A.bd .mono x2.2.2.2.1 x2.1<|
 A.bd .mono x2.2.2.2.1 x3.1<|
 A.bd .mono x2.2.2.2.1 x3.1<|
 A.cl MW MX (A.get .mono x2.2.2.2.1 x2.1,A.get .mono x2.2.2.2.1 x3.1,()) fun x4=>
 A.bind [.i,.i,.i,.l .mono] (A.cond (A.aA (A.cmp .lss x4.1 (A.lit 0))) (A.l1 .i (A.arith .add .i64 x3.1 (A.lit 1)) fun x5=>
 A.ret _ (x2.1,x5.1,x2.2.2.1,x2.2.2.2.1,()))<|
 A.l1 .i x3.1 fun x5=>
 A.ret _ (x2.1,x2.2.1,x5.1,x2.2.2.2.1,())) fun x5=>
 A.inl _ (x5.1,x5.2.1,x5.2.2.1,x5.2.2.2.1,()))<|
 A.inr _<|A.l1 .i x2.1 fun x3=>
 A.iter [.i,.i,.l .mono] (fun x4=>
 A.cond (A.cmp .gtr x4.2.1 x4.1) (A.bd .mono x4.2.2.1 (A.arith .sub .i64 x4.2.1 (A.lit 1))<|
 A.bd .mono x4.2.2.1 (A.arith .sub .i64 x4.2.1 (A.lit 1))<|
 A.bd .mono x4.2.2.1 x4.2.1<|
 A.bd .mono x4.2.2.1 x4.2.1<|
 A.bd .mono x4.2.2.1 x4.2.1<|
 A.bd .mono x4.2.2.1 x4.2.1<|
 A.l1 (.x .mono) (A.get .mono x4.2.2.1 (A.arith .sub .i64 x4.2.1 (A.lit 1))) fun x5=>
 A.bd .mono (A.set .mono x4.2.2.1 x4.2.1 x5.1) (A.arith .sub .i64 x4.2.1 (A.lit 1))<|
 A.bd .mono (A.set .mono x4.2.2.1 x4.2.1 x5.1) (A.arith .sub .i64 x4.2.1 (A.lit 1))<|
 A.l1 (.x .mono) (A.get .mono x4.2.2.1 x4.2.1) fun x6=>
 A.l1 .i (A.arith .sub .i64 x4.2.1 (A.lit 1)) fun x7=>
 A.inl _ (x4.1,x7.1,A.set .mono (A.set .mono x4.2.2.1 x4.2.1 x5.1) (A.arith .sub .i64 x4.2.1 (A.lit 1)) x6.1,()))<|
 A.inr _<|A.ret _ (x4.2.2.1,())) (x2.2.1,x3.1,x2.2.2.2.1,())) (x.2.1,x0.1,x1.1,x.2.2.2.1,()))<|
 A.chk (A.cmp .leq (A.lit 0) (A.lit 1))<|
 A.l1 .i (A.conv .i64 (A.arith .shr .u64 (A.conv .u64 (A.arith .add .i64 x.1 x.2.2.1)) (A.lit 1))) fun x0=>
 A.l1 .i (A.arith .add .i64 x0.1 x.2.1) fun x1=>
 A.l1 .i (A.lit 0) fun x2=>
 A.l1 .i (A.lit 0) fun x3=>
 A.bind [.i,.i,.i,.i,.i,.i,.i,.l .mono] (A.cond (A.cmp .gtr x.2.1 x0.1) (A.l1 .i (A.arith .sub .i64 x1.1 x.2.2.1) fun x4=>
 A.l1 .i x0.1 fun x5=>
 A.ret _ (x.1,x.2.1,x.2.2.1,x0.1,x1.1,x4.1,x5.1,x.2.2.2.1,()))<|
 A.l1 .i x.1 fun x4=>
 A.l1 .i x.2.1 fun x5=>
 A.ret _ (x.1,x.2.1,x.2.2.1,x0.1,x1.1,x4.1,x5.1,x.2.2.2.1,())) fun x4=>
 A.l1 .i (A.arith .sub .i64 x4.q.1 (A.lit 1)) fun x5=>
 A.iter [.i,.i,.i,.i,.i,.i,.i,.i,.l .mono] (fun x6=>
 A.cond (A.cmp .lss x6.q.2.1 x6.q.2.2.1) (A.chk (A.cmp .leq (A.lit 0) (A.lit 1))<|
 A.l1 .i (A.conv .i64 (A.arith .shr .u64 (A.conv .u64 (A.arith .add .i64 x6.q.2.1 x6.q.2.2.1)) (A.lit 1))) fun x7=>
 A.bd .mono x6.o.1 (A.arith .sub .i64 x6.q.2.2.2.1 x7.1)<|
 A.bd .mono x6.o.1 (A.arith .sub .i64 x6.q.2.2.2.1 x7.1)<|
 A.bd .mono x6.o.1 x7.1<|
 A.bd .mono x6.o.1 x7.1<|
 A.cl MW MX (A.get .mono x6.o.1 (A.arith .sub .i64 x6.q.2.2.2.1 x7.1),A.get .mono x6.o.1 x7.1,()) fun x8=>
 A.bind [.i,.i,.i,.i,.i,.i,.i,.i,.l .mono] (A.cond (A.aA (A.cmp .lss x8.1 (A.lit 0))) (A.l1 .i (A.arith .add .i64 x7.1 (A.lit 1)) fun x9=>
 A.ret _ (x6.1,x6.2.1,x6.2.2.1,x6.2.2.2.1,x6.q.1,x9.1,x6.q.2.2.1,x6.q.2.2.2.1,x6.o.1,()))<|
 A.l1 .i x7.1 fun x9=>
 A.ret _ (x6.1,x6.2.1,x6.2.2.1,x6.2.2.2.1,x6.q.1,x6.q.2.1,x9.1,x6.q.2.2.2.1,x6.o.1,())) fun x9=>
 A.inl _ (x9.1,x9.2.1,x9.2.2.1,x9.2.2.2.1,x9.q.1,x9.q.2.1,x9.q.2.2.1,x9.q.2.2.2.1,x9.o.1,()))<|
 A.inr _<|A.l1 .i (A.arith .sub .i64 x6.q.1 x6.q.2.1) fun x7=>
 A.bind [.i,.i,.i,.i,.i,.l .mono] (A.cond (A.ak (A.cmp .lss x6.q.2.1 x6.2.1) (A.cmp .lss x6.2.1 x7.1) (A.bl false)) (A.cl aeG aeH (x6.q.2.1,x6.2.1,x7.1,x6.o.1,()) fun x8=>
 A.ret _ (x6.1,x6.2.2.1,x6.2.2.2.1,x6.q.2.1,x7.1,x8.1,()))<|
 A.ret _ (x6.1,x6.2.2.1,x6.2.2.2.1,x6.q.2.1,x7.1,x6.o.1,())) fun x8=>
 A.bind [.i,.i,.i,.l .mono] (A.cond (A.ak (A.cmp .lss x8.1 x8.2.2.2.1) (A.cmp .lss x8.2.2.2.1 x8.2.2.1) (A.bl false)) (A.cl E9 Fa (x8.1,x8.2.2.2.1,x8.2.2.1,x8.q.2.1,()) fun x9=>
 A.ret _ (x8.2.1,x8.2.2.1,x8.q.1,x9.1,()))<|
 A.ret _ (x8.2.1,x8.2.2.1,x8.q.1,x8.q.2.1,())) fun x9=>
 A.bind [.l .mono] (A.cond (A.ak (A.cmp .lss x9.2.1 x9.2.2.1) (A.cmp .lss x9.2.2.1 x9.1) (A.bl false)) (A.cl E9 Fa (x9.2.1,x9.2.2.1,x9.1,x9.2.2.2.1,()) fun x10=>
 A.ret _ (x10.1,()))<|
 A.ret _ (x9.2.2.2.1,())) fun x10=>
 A.ret _ (x10.1,())) (x4.1,x4.2.1,x4.2.2.1,x4.2.2.2.1,x4.q.1,x4.q.2.1,x4.q.2.2.1,x5.1,x4.q.2.2.2.1,())
def Q0 (A:Alg) (X7:Pt A Es) (X8:Ft A Es) (E9:Pt A mK) (Fa:Ft A mK) (x:Tup A.ah [.i,.l .mono]):Ot A Ey:=
 A.l1 .i (A.lit 20) fun x0=>
 A.l1 .i (A.lit 0) fun x1=>
 A.l1 .i x0.1 fun x2=>
 A.iter [.i,.i,.i,.i,.l .mono] (fun x3=>
 A.cond (A.cmp .leq x3.2.2.2.1 x3.1) (A.cl X7 X8 (x3.2.2.1,x3.2.2.2.1,x3.q.1,()) fun x4=>
 A.l1 .i x3.2.2.2.1 fun x5=>
 A.l1 .i (A.arith .add .i64 x3.2.2.2.1 x3.2.1) fun x6=>
 A.inl _ (x3.1,x3.2.1,x5.1,x6.1,x4.1,()))<|
 A.inr _<|A.cl X7 X8 (x3.2.2.1,x3.1,x3.q.1,()) fun x4=>
 A.iter [.i,.i,.l .mono] (fun x5=>
 A.cond (A.cmp .lss x5.2.1 x5.1) (A.l1 .i (A.lit 0) fun x6=>
 A.l1 .i (A.arith .mul .i64 (A.lit 2) x5.2.1) fun x7=>
 A.iter [.i,.i,.i,.i,.l .mono] (fun x8=>
 A.cond (A.cmp .leq x8.2.2.2.1 x8.1) (A.cl E9 Fa (x8.2.2.1,A.arith .add .i64 x8.2.2.1 x8.2.1,x8.2.2.2.1,x8.q.1,()) fun x9=>
 A.l1 .i x8.2.2.2.1 fun x10=>
 A.l1 .i (A.arith .add .i64 x8.2.2.2.1 (A.arith .mul .i64 (A.lit 2) x8.2.1)) fun x11=>
 A.inl _ (x8.1,x8.2.1,x10.1,x11.1,x9.1,()))<|
 A.inr _<|A.l1 .i (A.arith .add .i64 x8.2.2.1 x8.2.1) fun x9=>
 A.bind [.i,.i,.l .mono] (A.cond (A.cmp .lss x9.1 x8.1) (A.cl E9 Fa (x8.2.2.1,x9.1,x8.1,x8.q.1,()) fun x10=>
 A.ret _ (x8.1,x8.2.1,x10.1,()))<|
 A.ret _ (x8.1,x8.2.1,x8.q.1,())) fun x10=>
 A.l1 .i (A.arith .mul .i64 x10.2.1 (A.lit 2)) fun x11=>
 A.inl _ (x10.1,x11.1,x10.2.2.1,())) (x5.1,x5.2.1,x6.1,x7.1,x5.2.2.1,()))<|
 A.inr _<|A.ret _ (x5.2.2.1,())) (x3.1,x3.2.1,x4.1,())) (x.1,x0.1,x1.1,x2.1,x.2.1,())
def Q5 (A:Alg) (aeI:Pt A Ey) (aeJ:Ft A Ey) (x:Tup A.ah [.l .mono]):Ot A Ez:=
 A.cl aeI aeJ (A.len .mono x.1,x.1,()) fun x0=>
 A.ret _ (x0.1,())
def X9 (A:Alg) (EX:Pt A nX) (EY:Ft A nX) (kL:Pt A iF) (kM:Ft A iF) (EZ:Pt A uz) (E5:Ft A uz) (Xh:Pt A AV) (Xi:Ft A AV) (aeK:Pt A Ez) (aeL:Ft A Ez) (x:Tup A.ah [.l .mono]):Ot A Bg:=
 A.l1 .b (A.bl false) fun x0=>
 A.cl aeK aeL (x.1,()) fun x1=>
 A.l1 .i (A.lit 0) fun x2=>
 A.iter [.i,.l .mono,.l .mono] (fun x3=>
 A.cond (A.cmp .lss x3.1 (A.len .mono x3.2.1)) (A.bd .mono x3.2.1 x3.1<|
 A.bd .mono x3.2.1 x3.1<|
 A.l1 .i (A.lit 0) fun x4=>
 A.l1 (.x .mono) (A.get .mono x3.2.1 x3.1) fun x5=>
 A.iter [.i,.i,.l .mono,.x .mono,.l .mono] (fun x6=>
 A.chk (A.orB (A.aA (A.cmp .lss x6.1 (A.len .mono x6.2.2.1))) (A.cmp .leq (A.lit 0) x6.1))<|
 A.chk (A.orB (A.aA (A.cmp .lss x6.1 (A.len .mono x6.2.2.1))) (A.cmp .lss x6.1 (A.len .mono x6.2.2.1)))<|
 A.chk (A.orB (A.aA (A.cmp .lss x6.1 (A.len .mono x6.2.2.1))) (A.cmp .leq (A.lit 0) x6.1))<|
 A.chk (A.orB (A.aA (A.cmp .lss x6.1 (A.len .mono x6.2.2.1))) (A.cmp .lss x6.1 (A.len .mono x6.2.2.1)))<|
 A.cg (A.cmp .lss x6.1 (A.len .mono x6.2.2.1)) EX EY (A.fL .mono 1 .i64 x6.2.2.2.1,A.fL .mono 1 .i64 (A.get .mono x6.2.2.1 x6.1),()) fun x7=>
 A.cond (A.ak (A.cmp .lss x6.1 (A.len .mono x6.2.2.1)) (A.cmp .eql x7.1 (A.lit 0)) (A.bl false)) (A.bd .mono x6.2.2.1 x6.1<|
 A.bd .mono x6.2.2.1 x6.1<|
 A.cl EZ E5 (A.arith .add .i64 x6.2.1 (A.fI .mono 0 (A.get .mono x6.2.2.1 x6.1)),()) fun x8=>
 A.l1 .i x8.1 fun x9=>
 A.l1 .i (A.arith .add .i64 x6.1 (A.lit 1)) fun x10=>
 A.inl _ (x10.1,x9.1,x6.2.2.1,x6.2.2.2.1,x6.q.1,()))<|
 A.inr _<|A.bind [.i,.l .mono,.l .mono] (A.cond (A.cmp .gtr x6.2.1 (A.lit 0)) (A.cl Xh Xi (A.fL .mono 1 .i64 x6.2.2.2.1,()) fun x8=>
 A.l1 (.l .mono) (A.lst .mono [A.mkX .mono (x6.2.1,x8.1,())]) fun x9=>
 A.chk (A.cmp .leq (A.addN (A.len .mono x6.q.1) (A.len .mono x9.1)) (A.lit 1073741824))<|
 A.l1 (.l .mono) (A.app .mono x6.q.1 x9.1) fun x10=>
 A.ret _ (x6.1,x6.2.2.1,x10.1,()))<|
 A.ret _ (x6.1,x6.2.2.1,x6.q.1,())) fun x8=>
 A.inl _ (x8.1,x8.2.1,x8.2.2.1,())) (x3.1,x4.1,x3.2.1,x5.1,x3.2.2.1,()))<|
 A.inr _<|A.cl kL kM (A.mkX .poly (x3.2.2.1,()),()) fun x4=>
 A.cond (A.aA x4.1) (A.l1 .b (A.bl false) fun x5=>
 A.ret _ (x5.1,x3.2.1,A.bQ .mono,()))<|
 A.l1 .b (A.bl true) fun x5=>
 A.ret _ (x5.1,x3.2.1,x3.2.2.1,())) (x2.1,x1.1,A.bQ .mono,())
def Q6 (A:Alg) (x:Tup A.ah [.i]):Ot A EA:=
 A.cond (A.cmp .lss x.1 (A.lit 0)) (A.fail)<|
 A.l1 .i (A.arith .sub .i64 x.1 (A.arith .sub .i64 (A.lit 0) (A.lit 0))) fun x0=>
 A.bind [.l .mono] (A.cond (A.cmp .gtr x0.1 (A.lit 0)) (A.chk (A.cmp .eql (A.lit 0) (A.lit 0))<|
 A.chk (A.cmp .eql (A.lit 0) (A.lit 0))<|
 A.chk (A.cmp .leq (A.lit 0) x0.1)<|
 A.chk (A.cmp .leq x0.1 (A.lit 1073741824))<|
 A.chk (A.cmp .leq (A.len .mono (A.rep .mono x0.1 (A.mkX .mono (A.lit 0,A.bQ .i64,())))) (A.lit 1073741824))<|
 A.l1 (.l .mono) (A.rep .mono x0.1 (A.mkX .mono (A.lit 0,A.bQ .i64,()))) fun x1=>
 A.chk (A.cmp .leq (A.lit 0) (A.lit 0))<|
 A.chk (A.cmp .leq (A.lit 0) (A.lit 0))<|
 A.chk (A.cmp .leq (A.lit 0) (A.len .mono x1.1))<|
 A.chk (A.cmp .eql (A.lit 0) (A.lit 0))<|
 A.chk (A.cmp .leq (A.lit 0) (A.BD (A.lit 0) (A.lit 0)))<|
 A.chk (A.cmp .leq (A.BD (A.lit 0) (A.lit 0)) (A.len .mono x1.1))<|
 A.ret _ (A.sub .mono x1.1 (A.lit 0) (A.BD (A.lit 0) (A.lit 0)),()))<|
 A.ret _ (A.bQ .mono,())) fun x1=>
 A.ret _ (x1.1,())
def Ya (A:Alg) (aeM:Pt A EA) (aeN:Ft A EA) (x:Tup A.ah [.l .poly]):Ot A Mk:=
 A.l1 .i (A.lit 0) fun x0=>
 A.iter [.l .poly,.i,.l .poly,.i,.i] (fun x1=>
 A.cond (A.cmp .lss x1.q.1 x1.2.2.2.1) (A.bd .poly x1.2.2.1 x1.q.1<|
 A.l1 (.l .mono) (A.fL .poly 0 .mono (A.get .poly x1.2.2.1 x1.q.1)) fun x2=>
 A.l1 .i (A.arith .add .i64 x1.2.1 (A.len .mono x2.1)) fun x3=>
 A.cond (A.cmp .lss x3.1 (A.lit 0)) (A.fail)<|
 A.inl _ (x1.1,x3.1,x1.2.2.1,x1.2.2.2.1,A.arith .add .i64 x1.q.1 (A.lit 1),()))<|
 A.inr _<|A.cl aeM aeN (x1.2.1,()) fun x2=>
 A.iter [.l .poly,.i,.i,.l .mono] (fun x3=>
 A.cond (A.cmp .lss x3.2.2.1 x3.2.1) (A.bd .poly x3.1 x3.2.2.1<|
 A.l1 (.l .mono) (A.fL .poly 0 .mono (A.get .poly x3.1 x3.2.2.1)) fun x4=>
 A.chk (A.cmp .leq (A.addN (A.len .mono x3.2.2.2.1) (A.len .mono x4.1)) (A.lit 1073741824))<|
 A.l1 (.l .mono) (A.app .mono x3.2.2.2.1 x4.1) fun x5=>
 A.inl _ (x3.1,x3.2.1,A.arith .add .i64 x3.2.2.1 (A.lit 1),x5.1,()))<|
 A.inr _<|A.ret _ (x3.2.2.2.1,())) (x1.1,A.len .poly x1.1,A.lit 0,x2.1,())) (x.1,x0.1,x.1,A.len .poly x.1,A.lit 0,())
def Yb (A:Alg) (kL:Pt A iF) (kM:Ft A iF) (Yc:Pt A Bg) (Yd:Ft A Bg) (aku:Pt A Mk) (akv:Ft A Mk) (x:Tup A.ah [.x .poly,.x .poly]):Ot A Ml:=
 A.l1 .b (A.bl false) fun x0=>
 A.cl kL kM (x.1,()) fun x1=>
 A.cg (A.aA (A.aA x1.1)) kL kM (x.2.1,()) fun x2=>
 A.cond (A.ak (A.aA x1.1) (A.bl true) (A.aA x2.1)) (A.l1 .b (A.bl false) fun x3=>
 A.ret _ (x3.1,A.bQ .mono,()))<|
 A.l1 (.l .poly) (A.lst .poly [A.mkX .poly (A.fL .poly 0 .mono x.1,()),A.mkX .poly (A.fL .poly 0 .mono x.2.1,())]) fun x3=>
 A.cl aku akv (x3.1,()) fun x4=>
 A.cl Yc Yd (x4.1,()) fun x5=>
 A.l1 .b x5.1 fun x6=>
 A.ret _ (x6.1,x5.2.2.1,())
def Q7 (A:Alg) (x:Tup A.ah [.i]):Ot A EB:=
 A.cond (A.cmp .lss x.1 (A.lit 0)) (A.fail)<|
 A.l1 .i (A.arith .sub .i64 x.1 (A.arith .sub .i64 (A.lit 0) (A.lit 0))) fun x0=>
 A.bind [.l .i64] (A.cond (A.cmp .gtr x0.1 (A.lit 0)) (A.chk (A.cmp .eql (A.lit 0) (A.lit 0))<|
 A.chk (A.cmp .eql (A.lit 0) (A.lit 0))<|
 A.chk (A.cmp .leq (A.lit 0) x0.1)<|
 A.chk (A.cmp .leq x0.1 (A.lit 1073741824))<|
 A.chk (A.cmp .leq (A.len .i64 (A.rep .i64 x0.1 (A.mkX .i64 (A.lit 0,())))) (A.lit 1073741824))<|
 A.l1 (.l .i64) (A.rep .i64 x0.1 (A.mkX .i64 (A.lit 0,()))) fun x1=>
 A.chk (A.cmp .leq (A.lit 0) (A.lit 0))<|
 A.chk (A.cmp .leq (A.lit 0) (A.lit 0))<|
 A.chk (A.cmp .leq (A.lit 0) (A.len .i64 x1.1))<|
 A.chk (A.cmp .eql (A.lit 0) (A.lit 0))<|
 A.chk (A.cmp .leq (A.lit 0) (A.BD (A.lit 0) (A.lit 0)))<|
 A.chk (A.cmp .leq (A.BD (A.lit 0) (A.lit 0)) (A.len .i64 x1.1))<|
 A.ret _ (A.sub .i64 x1.1 (A.lit 0) (A.BD (A.lit 0) (A.lit 0)),()))<|
 A.ret _ (A.bQ .i64,())) fun x1=>
 A.ret _ (x1.1,())
def Ye (A:Alg) (aeO:Pt A EB) (aeP:Ft A EB) (x:Tup A.ah [.l .ints]):Ot A Mq:=
 A.l1 .i (A.lit 0) fun x0=>
 A.iter [.l .ints,.i,.l .ints,.i,.i] (fun x1=>
 A.cond (A.cmp .lss x1.q.1 x1.2.2.2.1) (A.bd .ints x1.2.2.1 x1.q.1<|
 A.l1 (.l .i64) (A.fL .ints 0 .i64 (A.get .ints x1.2.2.1 x1.q.1)) fun x2=>
 A.l1 .i (A.arith .add .i64 x1.2.1 (A.len .i64 x2.1)) fun x3=>
 A.cond (A.cmp .lss x3.1 (A.lit 0)) (A.fail)<|
 A.inl _ (x1.1,x3.1,x1.2.2.1,x1.2.2.2.1,A.arith .add .i64 x1.q.1 (A.lit 1),()))<|
 A.inr _<|A.cl aeO aeP (x1.2.1,()) fun x2=>
 A.iter [.l .ints,.i,.i,.l .i64] (fun x3=>
 A.cond (A.cmp .lss x3.2.2.1 x3.2.1) (A.bd .ints x3.1 x3.2.2.1<|
 A.l1 (.l .i64) (A.fL .ints 0 .i64 (A.get .ints x3.1 x3.2.2.1)) fun x4=>
 A.chk (A.cmp .leq (A.addN (A.len .i64 x3.2.2.2.1) (A.len .i64 x4.1)) (A.lit 1073741824))<|
 A.l1 (.l .i64) (A.app .i64 x3.2.2.2.1 x4.1) fun x5=>
 A.inl _ (x3.1,x3.2.1,A.arith .add .i64 x3.2.2.1 (A.lit 1),x5.1,()))<|
 A.inr _<|A.ret _ (x3.2.2.2.1,())) (x1.1,A.len .ints x1.1,A.lit 0,x2.1,())) (x.1,x0.1,x.1,A.len .ints x.1,A.lit 0,())
def Q8 (A:Alg) (WY:Pt A Eh) (WZ:Ft A Eh) (x:Tup A.ah [.i,.i,.l .i64]):Ot A EC:=
 A.l1 .i (A.arith .add .i64 x.1 (A.lit 1)) fun x0=>
 A.iter [.i,.i,.i,.l .i64] (fun x1=>
 A.cond (A.cmp .lss x1.2.2.1 x1.2.1) (A.l1 .i x1.2.2.1 fun x2=>
 A.iter [.i,.i,.i,.i,.l .i64] (fun x3=>
 A.chk (A.orB (A.aA (A.cmp .gtr x3.2.2.2.1 x3.1)) (A.cmp .leq (A.lit 0) x3.2.2.2.1))<|
 A.chk (A.orB (A.aA (A.cmp .gtr x3.2.2.2.1 x3.1)) (A.cmp .lss x3.2.2.2.1 (A.len .i64 x3.q.1)))<|
 A.chk (A.orB (A.aA (A.cmp .gtr x3.2.2.2.1 x3.1)) (A.cmp .leq (A.lit 0) x3.2.2.2.1))<|
 A.chk (A.orB (A.aA (A.cmp .gtr x3.2.2.2.1 x3.1)) (A.cmp .lss x3.2.2.2.1 (A.len .i64 x3.q.1)))<|
 A.chk (A.orB (A.aA (A.cmp .gtr x3.2.2.2.1 x3.1)) (A.cmp .leq (A.lit 0) (A.arith .sub .i64 x3.2.2.2.1 (A.lit 1))))<|
 A.chk (A.orB (A.aA (A.cmp .gtr x3.2.2.2.1 x3.1)) (A.cmp .lss (A.arith .sub .i64 x3.2.2.2.1 (A.lit 1)) (A.len .i64 x3.q.1)))<|
 A.chk (A.orB (A.aA (A.cmp .gtr x3.2.2.2.1 x3.1)) (A.cmp .leq (A.lit 0) (A.arith .sub .i64 x3.2.2.2.1 (A.lit 1))))<|
 A.chk (A.orB (A.aA (A.cmp .gtr x3.2.2.2.1 x3.1)) (A.cmp .lss (A.arith .sub .i64 x3.2.2.2.1 (A.lit 1)) (A.len .i64 x3.q.1)))<|
 A.cg (A.cmp .gtr x3.2.2.2.1 x3.1) WY WZ (A.fI .i64 0 (A.get .i64 x3.q.1 x3.2.2.2.1),A.fI .i64 0 (A.get .i64 x3.q.1 (A.arith .sub .i64 x3.2.2.2.1 (A.lit 1))),()) fun x4=>
 A.cond (A.ak (A.cmp .gtr x3.2.2.2.1 x3.1) x4.1 (A.bl false)) (A.bd .i64 x3.q.1 (A.arith .sub .i64 x3.2.2.2.1 (A.lit 1))<|
 A.bd .i64 x3.q.1 (A.arith .sub .i64 x3.2.2.2.1 (A.lit 1))<|
 A.bd .i64 x3.q.1 x3.2.2.2.1<|
 A.bd .i64 x3.q.1 x3.2.2.2.1<|
 A.bd .i64 x3.q.1 x3.2.2.2.1<|
 A.bd .i64 x3.q.1 x3.2.2.2.1<|
 A.l1 .i (A.fI .i64 0 (A.get .i64 x3.q.1 (A.arith .sub .i64 x3.2.2.2.1 (A.lit 1)))) fun x5=>
 A.bd .i64 (A.set .i64 x3.q.1 x3.2.2.2.1 (A.mkX .i64 (x5.1,()))) (A.arith .sub .i64 x3.2.2.2.1 (A.lit 1))<|
 A.bd .i64 (A.set .i64 x3.q.1 x3.2.2.2.1 (A.mkX .i64 (x5.1,()))) (A.arith .sub .i64 x3.2.2.2.1 (A.lit 1))<|
 A.l1 .i (A.fI .i64 0 (A.get .i64 x3.q.1 x3.2.2.2.1)) fun x6=>
 A.l1 .i (A.arith .sub .i64 x3.2.2.2.1 (A.lit 1)) fun x7=>
 A.inl _ (x3.1,x3.2.1,x3.2.2.1,x7.1,A.set .i64 (A.set .i64 x3.q.1 x3.2.2.2.1 (A.mkX .i64 (x5.1,()))) (A.arith .sub .i64 x3.2.2.2.1 (A.lit 1)) (A.mkX .i64 (x6.1,())),()))<|
 A.inr _<|A.l1 .i (A.arith .add .i64 x3.2.2.1 (A.lit 1)) fun x5=>
 A.inl _ (x3.1,x3.2.1,x5.1,x3.q.1,())) (x1.1,x1.2.1,x1.2.2.1,x2.1,x1.2.2.2.1,()))<|
 A.inr _<|A.ret _ (x1.2.2.2.1,())) (x.1,x.2.1,x0.1,x.2.2.1,())
def Q9 (A:Alg) (WY:Pt A Eh) (WZ:Ft A Eh) (aeQ:Pt A EC) (aeR:Ft A EC) (aeS:Pt A ED) (aeT:Ft A ED) (aeU:Pt A EF) (aeV:Ft A EF) (aeW:Pt A EG) (aeX:Ft A EG) (aeY:Pt A EH) (aeZ:Ft A EH) (ae0:Pt A EI) (ae1:Ft A EI) (ae2:Pt A EJ) (ae3:Ft A EJ) (ae4:Pt A EK) (ae5:Ft A EK) (JI:Pt A oL) (JJ:Ft A oL) (x:Tup A.ah [.i,.i,.i,.l .i64]):Ot A oL:=
 A.l1 .b (A.bl true) fun x0=>
 A.l1 .b (A.bl true) fun x1=>
 A.iter [.i,.i,.i,.b,.b,.l .i64] (fun x2=>
 A.jM [.i,.i,.i,.b,.b,.l .i64] (A.l1 .i (A.arith .sub .i64 x2.2.1 x2.1) fun x3=>
 A.cond (A.cmp .leq x3.1 (A.lit 12)) (A.cl aeQ aeR (x2.1,x2.2.1,x2.q.2.1,()) fun x4=>
 A.inr _<|A.inr _<|A.ret _ (x4.1,()))<|
 A.cond (A.cmp .eql x2.2.2.1 (A.lit 0)) (A.cl aeS aeT (x2.1,x2.2.1,x2.q.2.1,()) fun x4=>
 A.inr _<|A.inr _<|A.ret _ (x4.1,()))<|
 A.bind [.i,.i,.i,.b,.b,.i,.l .i64] (A.cond (A.aA x2.2.2.2.1) (A.cl aeU aeV (x2.1,x2.2.1,x2.q.2.1,()) fun x4=>
 A.l1 .i (A.arith .sub .i64 x2.2.2.1 (A.lit 1)) fun x5=>
 A.ret _ (x2.1,x2.2.1,x5.1,x2.2.2.2.1,x2.q.1,x3.1,x4.1,()))<|
 A.ret _ (x2.1,x2.2.1,x2.2.2.1,x2.2.2.2.1,x2.q.1,x3.1,x2.q.2.1,())) fun x4=>
 A.cl aeW aeX (x4.1,x4.2.1,x4.q.2.2.1,()) fun x5=>
 A.l1 .i x5.1 fun x6=>
 A.l1 .i x5.2.1 fun x7=>
 A.bind [.i,.i,.i,.b,.b,.i,.i,.i,.l .i64] (A.cond (A.cmp .eql x7.1 (A.lit 2)) (A.cl aeY aeZ (x4.1,x4.2.1,x5.2.2.1,()) fun x8=>
 A.l1 .i (A.arith .sub .i64 (A.arith .sub .i64 x4.2.1 (A.lit 1)) (A.arith .sub .i64 x6.1 x4.1)) fun x9=>
 A.l1 .i (A.lit 1) fun x10=>
 A.ret _ (x4.1,x4.2.1,x4.2.2.1,x4.2.2.2.1,x4.q.1,x4.q.2.1,x9.1,x10.1,x8.1,()))<|
 A.ret _ (x4.1,x4.2.1,x4.2.2.1,x4.2.2.2.1,x4.q.1,x4.q.2.1,x6.1,x7.1,x5.2.2.1,())) fun x8=>
 A.jM [.i,.i,.i,.b,.b,.i,.i,.l .i64] (A.cond (A.ak (A.ak x8.2.2.2.1 x8.q.1 (A.bl false)) (A.cmp .eql x8.q.2.2.2.1 (A.lit 1)) (A.bl false)) (A.cl ae0 ae1 (x8.1,x8.2.1,x8.o.1,()) fun x9=>
 A.cond x9.1 (A.inr _<|A.inr _<|A.inr _<|A.ret _ (x9.2.1,()))<|
 A.inl _ (x8.1,x8.2.1,x8.2.2.1,x8.2.2.2.1,x8.q.1,x8.q.2.1,x8.q.2.2.1,x9.2.1,()))<|
 A.inl _ (x8.1,x8.2.1,x8.2.2.1,x8.2.2.2.1,x8.q.1,x8.q.2.1,x8.q.2.2.1,x8.o.1,())) fun x9=>
 A.chk (A.orB (A.aA (A.cmp .gtr x9.1 (A.lit 0))) (A.cmp .leq (A.lit 0) (A.arith .sub .i64 x9.1 (A.lit 1))))<|
 A.chk (A.orB (A.aA (A.cmp .gtr x9.1 (A.lit 0))) (A.cmp .lss (A.arith .sub .i64 x9.1 (A.lit 1)) (A.len .i64 x9.q.2.2.2.1)))<|
 A.chk (A.orB (A.aA (A.cmp .gtr x9.1 (A.lit 0))) (A.cmp .leq (A.lit 0) (A.arith .sub .i64 x9.1 (A.lit 1))))<|
 A.chk (A.orB (A.aA (A.cmp .gtr x9.1 (A.lit 0))) (A.cmp .lss (A.arith .sub .i64 x9.1 (A.lit 1)) (A.len .i64 x9.q.2.2.2.1)))<|
 A.chk (A.orB (A.aA (A.cmp .gtr x9.1 (A.lit 0))) (A.cmp .leq (A.lit 0) x9.q.2.2.1))<|
 A.chk (A.orB (A.aA (A.cmp .gtr x9.1 (A.lit 0))) (A.cmp .lss x9.q.2.2.1 (A.len .i64 x9.q.2.2.2.1)))<|
 A.chk (A.orB (A.aA (A.cmp .gtr x9.1 (A.lit 0))) (A.cmp .leq (A.lit 0) x9.q.2.2.1))<|
 A.chk (A.orB (A.aA (A.cmp .gtr x9.1 (A.lit 0))) (A.cmp .lss x9.q.2.2.1 (A.len .i64 x9.q.2.2.2.1)))<|
 A.cg (A.cmp .gtr x9.1 (A.lit 0)) WY WZ (A.fI .i64 0 (A.get .i64 x9.q.2.2.2.1 (A.arith .sub .i64 x9.1 (A.lit 1))),A.fI .i64 0 (A.get .i64 x9.q.2.2.2.1 x9.q.2.2.1),()) fun x10=>
 A.cond (A.ak (A.cmp .gtr x9.1 (A.lit 0)) (A.aA x10.1) (A.bl false)) (A.cl ae2 ae3 (x9.1,x9.2.1,x9.q.2.2.1,x9.q.2.2.2.1,()) fun x11=>
 A.l1 .i x11.1 fun x12=>
 A.l1 .i x12.1 fun x13=>
 A.inl _ (x13.1,x9.2.1,x9.2.2.1,x9.2.2.2.1,x9.q.1,x11.2.1,()))<|
 A.cl ae4 ae5 (x9.1,x9.2.1,x9.q.2.2.1,x9.q.2.2.2.1,()) fun x11=>
 A.l1 .i x11.1 fun x12=>
 A.l1 .b x11.2.1 fun x13=>
 A.l1 .b x13.1 fun x14=>
 A.l1 .i (A.arith .sub .i64 x12.1 x9.1) fun x15=>
 A.l1 .i (A.arith .sub .i64 x9.2.1 x12.1) fun x16=>
 A.chk (A.cmp .neq (A.lit 8) (A.lit 0))<|
 A.l1 .i (A.arith .quo .i64 x9.q.2.1 (A.lit 8)) fun x17=>
 A.bind [.i,.i,.i,.b,.b,.l .i64] (A.cond (A.cmp .lss x15.1 x16.1) (A.l1 .b (A.cmp .geq x15.1 x17.1) fun x18=>
 A.cl JI JJ (x9.1,x12.1,x9.2.2.1,x11.2.2.1,()) fun x19=>
 A.l1 .i (A.arith .add .i64 x12.1 (A.lit 1)) fun x20=>
 A.ret _ (x20.1,x9.2.1,x9.2.2.1,x18.1,x14.1,x19.1,()))<|
 A.l1 .b (A.cmp .geq x16.1 x17.1) fun x18=>
 A.cl JI JJ (A.arith .add .i64 x12.1 (A.lit 1),x9.2.1,x9.2.2.1,x11.2.2.1,()) fun x19=>
 A.l1 .i x12.1 fun x20=>
 A.ret _ (x9.1,x20.1,x9.2.2.1,x18.1,x14.1,x19.1,())) fun x18=>
 A.inl _ (x18.1,x18.2.1,x18.2.2.1,x18.2.2.2.1,x18.q.1,x18.q.2.1,())) fun x3=>
 A.inl _ (x3.1,x3.2.1,x3.2.2.1,x3.2.2.2.1,x3.q.1,x3.q.2.1,())) (x.1,x.2.1,x.2.2.1,x0.1,x1.1,x.2.2.2.1,())
def Ra (A:Alg) (JI:Pt A oL) (JJ:Ft A oL) (akw:Pt A TM) (akx:Ft A TM) (x:Tup A.ah [.l .i64]):Ot A EL:=
 A.l1 .i (A.len .i64 x.1) fun x0=>
 A.cl akw akx (A.conv .u64 x0.1,()) fun x1=>
 A.cl JI JJ (A.lit 0,x0.1,x1.1,x.1,()) fun x2=>
 A.ret _ (x2.1,())
def Yf (A:Alg) (kL:Pt A iF) (kM:Ft A iF) (EZ:Pt A uz) (E5:Ft A uz) (Yc:Pt A Bg) (Yd:Ft A Bg) (aky:Pt A Mq) (akz:Ft A Mq) (ae6:Pt A EL) (ae7:Ft A EL) (x:Tup A.ah [.x .poly,.x .poly]):Ot A Bh:=
 A.l1 .b (A.bl false) fun x0=>
 A.cl kL kM (x.1,()) fun x1=>
 A.cg (A.aA (A.aA x1.1)) kL kM (x.2.1,()) fun x2=>
 A.cond (A.ak (A.aA x1.1) (A.bl true) (A.aA x2.1)) (A.l1 .b (A.bl false) fun x3=>
 A.ret _ (x3.1,A.bQ .mono,()))<|
 A.iter [.l .mono,.i,.i,.x .poly,.l .mono] (fun x3=>
 A.cond (A.cmp .lss x3.2.2.1 x3.2.1) (A.bd .mono x3.1 x3.2.2.1<|
 A.l1 (.x .mono) (A.get .mono x3.1 x3.2.2.1) fun x4=>
 A.iter [.l .mono,.i,.i,.l .mono,.i,.i,.x .poly,.l .mono,.x .mono] (fun x5=>
 A.cond (A.cmp .lss x5.q.2.1 x5.q.1) (A.bd .mono x5.2.2.2.1 x5.q.2.1<|
 A.l1 (.x .mono) (A.get .mono x5.2.2.2.1 x5.q.2.1) fun x6=>
 A.l1 (.l .ints) (A.lst .ints [A.mkX .ints (A.fL .mono 1 .i64 x5.o.1,()),A.mkX .ints (A.fL .mono 1 .i64 x6.1,())]) fun x7=>
 A.cl aky akz (x7.1,()) fun x8=>
 A.cl ae6 ae7 (x8.1,()) fun x9=>
 A.cl EZ E5 (A.arith .mul .i64 (A.fI .mono 0 x5.o.1) (A.fI .mono 0 x6.1),()) fun x10=>
 A.l1 (.l .mono) (A.lst .mono [A.mkX .mono (x10.1,x9.1,())]) fun x11=>
 A.chk (A.cmp .leq (A.addN (A.len .mono x5.q.2.2.2.1) (A.len .mono x11.1)) (A.lit 1073741824))<|
 A.l1 (.l .mono) (A.app .mono x5.q.2.2.2.1 x11.1) fun x12=>
 A.inl _ (x5.1,x5.2.1,x5.2.2.1,x5.2.2.2.1,x5.q.1,A.arith .add .i64 x5.q.2.1 (A.lit 1),x5.q.2.2.1,x12.1,x5.o.1,()))<|
 A.inr _<|A.inl _ (x5.1,x5.2.1,A.arith .add .i64 x5.2.2.1 (A.lit 1),x5.q.2.2.1,x5.q.2.2.2.1,())) (x3.1,x3.2.1,x3.2.2.1,A.fL .poly 0 .mono x3.2.2.2.1,A.len .mono (A.fL .poly 0 .mono x3.2.2.2.1),A.lit 0,x3.2.2.2.1,x3.q.1,x4.1,()))<|
 A.inr _<|A.cl Yc Yd (x3.q.1,()) fun x4=>
 A.l1 .b x4.1 fun x5=>
 A.ret _ (x5.1,x4.2.2.1,())) (A.fL .poly 0 .mono x.1,A.len .mono (A.fL .poly 0 .mono x.1),A.lit 0,x.2.1,A.bQ .mono,())
def Yg (A:Alg) (kL:Pt A iF) (kM:Ft A iF) (MZ:Pt A uw) (M0:Ft A uw) (qw:Pt A jm) (qx:Ft A jm) (Yh:Pt A Bh) (Yi:Ft A Bh) (x:Tup A.ah [.x .poly,.i]):Ot A Mr:=
 A.cl kL kM (x.1,()) fun x0=>
 A.cg (A.aA (A.aA x0.1)) qw qx (x.2.1,()) fun x1=>
 A.cond (A.ak (A.aA x0.1) (A.bl true) (A.aA x1.1)) (A.ret _ (A.bQ .mono,()))<|
 A.cl MZ M0 (x.2.1,()) fun x2=>
 A.cl Yh Yi (x.1,A.mkX .poly (x2.1,()),()) fun x3=>
 A.l1 .b x3.1 fun x4=>
 A.ret _ (x3.2.1,())
def Yj (A:Alg) (lF:Pt A jl) (lG:Ft A jl) (MZ:Pt A uw) (M0:Ft A uw) (akA:Pt A Mj) (akB:Ft A Mj) (abX:Pt A Ml) (abY:Ft A Ml) (Yh:Pt A Bh) (Yi:Ft A Bh) (akC:Pt A Mr) (akD:Ft A Mr) (ML:Pt A AU) (MN:Ft A AU) (x:Tup A.ah [.i,.x .poly,.x .poly]):Ot A Ms:=
 A.l1 .b (A.bl false) fun x0=>
 A.l1 .b (A.cmp .eql x.1 (A.lit 1)) fun x1=>
 A.cond x1.1 (A.cl abX abY (x.2.1,x.2.2.1,()) fun x2=>
 A.l1 .b x2.1 fun x3=>
 A.ret _ (A.mkX .poly (x2.2.1,()),x3.1,()))<|
 A.l1 .b (A.cmp .eql x.1 (A.lit 2)) fun x2=>
 A.cond x2.1 (A.cl akC akD (x.2.2.1,A.lit 65535,()) fun x3=>
 A.cl abX abY (x.2.1,A.mkX .poly (x3.1,()),()) fun x4=>
 A.l1 .b x4.1 fun x5=>
 A.ret _ (A.mkX .poly (x4.2.1,()),x5.1,()))<|
 A.l1 .b (A.cmp .eql x.1 (A.lit 3)) fun x3=>
 A.cond x3.1 (A.cl Yh Yi (x.2.1,x.2.2.1,()) fun x4=>
 A.l1 .b x4.1 fun x5=>
 A.ret _ (A.mkX .poly (x4.2.1,()),x5.1,()))<|
 A.cl ML MN (x.2.1,()) fun x4=>
 A.l1 .i x4.1 fun x5=>
 A.l1 .b x4.2.1 fun x6=>
 A.cl ML MN (x.2.2.1,()) fun x7=>
 A.l1 .i x7.1 fun x8=>
 A.l1 .b x7.2.1 fun x9=>
 A.l1 .b (A.ak x6.1 x9.1 (A.bl false)) fun x10=>
 A.cond x10.1 (A.cl akA akB (x.1,x5.1,x8.1,()) fun x11=>
 A.cl MZ M0 (x11.1,()) fun x12=>
 A.l1 .b (A.bl true) fun x13=>
 A.ret _ (A.mkX .poly (x12.1,()),x13.1,()))<|
 A.cl lF lG (x.2.1,x.2.2.1,()) fun x11=>
 A.l1 .b (A.ak x11.1 (A.cmp .eql x.1 (A.lit 4)) (A.bl false)) fun x12=>
 A.cond x12.1 (A.l1 (.x .poly) x.2.1 fun x13=>
 A.l1 .b (A.bl true) fun x14=>
 A.ret _ (x13.1,x14.1,()))<|
 A.cl lF lG (x.2.1,x.2.2.1,()) fun x13=>
 A.l1 .b x13.1 fun x14=>
 A.cond x14.1 (A.l1 .b (A.bl true) fun x15=>
 A.ret _ (A.mkX .poly (A.bQ .mono,()),x15.1,()))<|
 A.bind [.i,.i,.b,.x .poly] (A.cond x6.1 (A.l1 (.x .poly) x.2.2.1 fun x15=>
 A.l1 .i x5.1 fun x16=>
 A.l1 .b (A.bl true) fun x17=>
 A.ret _ (x.1,x16.1,x17.1,x15.1,()))<|
 A.ret _ (x.1,x8.1,x9.1,x.2.1,())) fun x15=>
 A.l1 .b (A.ak (A.ak x15.2.2.1 (A.cmp .eql x15.1 (A.lit 4)) (A.bl false)) (A.cmp .eql x15.2.1 (A.lit 0)) (A.bl false)) fun x16=>
 A.cond x16.1 (A.l1 .b (A.bl true) fun x17=>
 A.ret _ (A.mkX .poly (A.bQ .mono,()),x17.1,()))<|
 A.l1 .b (A.ak x15.2.2.1 (A.ak (A.ak (A.cmp .eql x15.1 (A.lit 4)) (A.cmp .eql x15.2.1 (A.lit 65535)) (A.bl false)) (A.bl true) (A.ak (A.cmp .eql x15.1 (A.lit 5)) (A.cmp .eql x15.2.1 (A.lit 0)) (A.bl false))) (A.bl false)) fun x17=>
 A.cond x17.1 (A.l1 (.x .poly) x15.2.2.2.1 fun x18=>
 A.l1 .b (A.bl true) fun x19=>
 A.ret _ (x18.1,x19.1,()))<|
 A.l1 .b (A.bl false) fun x18=>
 A.ret _ (A.mkX .poly (A.bQ .mono,()),x18.1,())
def Yk (A:Alg) (MJ:Pt A ug) (MK:Ft A ug) (akE:Pt A Ms) (akF:Ft A Ms) (XV:Pt A Ba) (XW:Ft A Ba) (XR:Pt A Bb) (XU:Ft A Bb) (x:Tup A.ah [.x .tab,.i,.x .poly,.x .poly]):Ot A Mt:=
 A.l1 .b (A.bl false) fun x0=>
 A.cl akE akF (x.2.1,x.2.2.1,x.2.2.2.1,()) fun x1=>
 A.l1 (.x .poly) x1.1 fun x2=>
 A.l1 .b x1.2.1 fun x3=>
 A.cond x3.1 (A.l1 (.x .tab) x.1 fun x4=>
 A.l1 (.x .poly) x2.1 fun x5=>
 A.l1 .b (A.bl true) fun x6=>
 A.ret _ (x4.1,x5.1,x6.1,()))<|
 A.cg (A.cmp .neq x.2.1 (A.lit 2)) MJ MK (x.2.2.1,x.2.2.2.1,()) fun x4=>
 A.bind [.i,.x .tab,.x .poly,.x .poly] (A.cond (A.ak (A.cmp .neq x.2.1 (A.lit 2)) (A.cmp .gtr x4.1 (A.lit 0)) (A.bl false)) (A.l1 (.x .poly) x.2.2.2.1 fun x5=>
 A.l1 (.x .poly) x.2.2.1 fun x6=>
 A.ret _ (x.2.1,x.1,x5.1,x6.1,()))<|
 A.ret _ (x.2.1,x.1,x.2.2.1,x.2.2.2.1,())) fun x5=>
 A.cl XV XW (x5.2.1,A.mkX .atom (A.lit 4,x5.1,A.fL .poly 0 .mono x5.2.2.1,A.fL .poly 0 .mono x5.2.2.2.1,()),()) fun x6=>
 A.l1 (.x .tab) x6.1 fun x7=>
 A.l1 .i x6.2.1 fun x8=>
 A.cond (A.cmp .lss x8.1 (A.lit 0)) (A.l1 .b (A.bl false) fun x9=>
 A.ret _ (A.mkX .tab (A.bQ .atom,()),A.mkX .poly (A.bQ .mono,()),x9.1,()))<|
 A.cl XR XU (x8.1,()) fun x9=>
 A.l1 (.x .tab) x7.1 fun x10=>
 A.l1 .b (A.bl true) fun x11=>
 A.ret _ (x10.1,A.mkX .poly (x9.1,()),x11.1,())
def Yl (A:Alg) (yX:Pt A uh) (yY:Ft A uh) (x:Tup A.ah [.x .tab]):Ot A Bj:=
 A.iter [.l .atom,.i,.i,.l .atom] (fun x0=>
 A.cond (A.cmp .lss x0.2.2.1 x0.2.1) (A.bd .atom x0.1 x0.2.2.1<|
 A.l1 (.x .atom) (A.get .atom x0.1 x0.2.2.1) fun x1=>
 A.cl yX yY (A.mkX .poly (A.fL .atom 2 .mono x1.1,()),()) fun x2=>
 A.cl yX yY (A.mkX .poly (A.fL .atom 3 .mono x1.1,()),()) fun x3=>
 A.l1 (.l .atom) (A.lst .atom [A.mkX .atom (A.fI .atom 0 x1.1,A.fI .atom 1 x1.1,x2.1,x3.1,())]) fun x4=>
 A.chk (A.cmp .leq (A.addN (A.len .atom x0.2.2.2.1) (A.len .atom x4.1)) (A.lit 1073741824))<|
 A.l1 (.l .atom) (A.app .atom x0.2.2.2.1 x4.1) fun x5=>
 A.inl _ (x0.1,x0.2.1,A.arith .add .i64 x0.2.2.1 (A.lit 1),x5.1,()))<|
 A.inr _<|A.ret _ (x0.2.2.2.1,())) (A.fL .tab 0 .atom x.1,A.len .atom (A.fL .tab 0 .atom x.1),A.lit 0,A.bQ .atom,())
def Ym (A:Alg) (MU:Pt A um) (MV:Ft A um) (Ij:Pt A uo) (Ik:Ft A uo) (akG:Pt A Mh) (akH:Ft A Mh) (MR:Pt A uj) (MS:Ft A uj) (MZ:Pt A uw) (M0:Ft A uw) (akI:Pt A L6) (akJ:Ft A L6) (akK:Pt A Mc) (akL:Ft A Mc) (Yn:Pt A Bj) (Yo:Ft A Bj) (akM:Pt A Mt) (akN:Ft A Mt) (TS:Pt A Bc) (TT:Ft A Bc) (Yp:Pt A Bd) (Yq:Ft A Bd) (akO:Pt A Mi) (akP:Ft A Mi) (x:Tup A.ah [.x .tab,.x .blk]):Ot A Mv:=
 A.cl akK akL (x.1,()) fun x0=>
 A.cg (A.aA (A.ak (A.aA x0.1) (A.bl true) (A.cmp .gtr (A.len .atom (A.fL .tab 0 .atom x.1)) (A.lit 100)))) Ij Ik (x.2.1,()) fun x1=>
 A.cond (A.ak (A.ak (A.aA x0.1) (A.bl true) (A.cmp .gtr (A.len .atom (A.fL .tab 0 .atom x.1)) (A.lit 100))) (A.bl true) (A.aA x1.1)) (A.ret _ (A.mkX .tab (A.bQ .atom,()),A.mkX .sym (A.bQ .ev,A.bQ .poly,A.lit 0,A.bQ .mono,A.bQ .mono,A.lit 0,()),()))<|
 A.cl Yp Yq (A.fL .tab 0 .atom x.1,A.bl false,()) fun x2=>
 A.chk (A.cmp .eql (A.len .iop (A.fL .blk 2 .iop x.2.1)) (A.len .iop (A.fL .blk 2 .iop x.2.1)))<|
 A.chk (A.cmp .leq (A.lit 0) (A.len .iop (A.fL .blk 2 .iop x.2.1)))<|
 A.chk (A.cmp .leq (A.len .iop (A.fL .blk 2 .iop x.2.1)) (A.lit 1073741824))<|
 A.l1 (.l .poly) (A.rep .poly (A.len .iop (A.fL .blk 2 .iop x.2.1)) (A.mkX .poly (A.bQ .mono,()))) fun x3=>
 A.l1 .i (A.lit 0) fun x4=>
 A.l1 .i (A.lit 0) fun x5=>
 A.iter [.i,.i,.l .iop,.i,.i,.x .blk,.i,.i,.l .atom,.b,.i,.i,.l .poly,.l .ev,.l .poly] (fun x6=>
 A.cond (A.cmp .lss x6.q.1 x6.2.2.2.1) (A.bd .iop x6.2.2.1 x6.q.1<|
 A.l1 .i x6.q.1 fun x7=>
 A.l1 (.x .iop) (A.get .iop x6.2.2.1 x6.q.1) fun x8=>
 A.cl MR MS (x8.1,()) fun x9=>
 A.l1 .b x9.1 fun x10=>
 A.l1 .b x9.2.1 fun x11=>
 A.l1 .b x9.2.2.1 fun x12=>
 A.l1 .b x9.2.2.2.1 fun x13=>
 A.bind [.i,.i,.i,.b,.l .iop,.i,.i,.x .blk,.i,.i,.l .atom,.b,.i,.i,.l .poly,.x .iop,.x .poly,.l .ev,.l .poly] (A.cond x10.1 (A.bd .poly x6.o.q.1 (A.fI .iop 1 x8.1)<|
 A.bd .poly x6.o.q.1 (A.fI .iop 1 x8.1)<|
 A.l1 (.x .poly) (A.get .poly x6.o.q.1 (A.fI .iop 1 x8.1)) fun x14=>
 A.ret _ (x6.1,x6.2.1,x7.1,x11.1,x6.2.2.1,x6.2.2.2.1,x6.q.1,x6.q.2.1,x6.q.2.2.1,x6.q.2.2.2.1,x6.o.1,x6.o.2.1,x6.o.2.2.1,x6.o.2.2.2.1,x6.o.q.1,x8.1,x14.1,x6.o.q.2.1,x6.o.q.2.2.1,()))<|
 A.ret _ (x6.1,x6.2.1,x7.1,x11.1,x6.2.2.1,x6.2.2.2.1,x6.q.1,x6.q.2.1,x6.q.2.2.1,x6.q.2.2.2.1,x6.o.1,x6.o.2.1,x6.o.2.2.1,x6.o.2.2.2.1,x6.o.q.1,x8.1,A.mkX .poly (A.bQ .mono,()),x6.o.q.2.1,x6.o.q.2.2.1,())) fun x14=>
 A.bind [.i,.i,.i,.l .iop,.i,.i,.x .blk,.i,.i,.l .atom,.b,.i,.i,.l .poly,.x .iop,.x .poly,.x .poly,.l .ev,.l .poly] (A.cond x14.2.2.2.1 (A.bd .poly x14.o.q.2.2.1 (A.fI .iop 2 x14.o.q.2.2.2.1)<|
 A.bd .poly x14.o.q.2.2.1 (A.fI .iop 2 x14.o.q.2.2.2.1)<|
 A.l1 (.x .poly) (A.get .poly x14.o.q.2.2.1 (A.fI .iop 2 x14.o.q.2.2.2.1)) fun x15=>
 A.ret _ (x14.1,x14.2.1,x14.2.2.1,x14.q.1,x14.q.2.1,x14.q.2.2.1,x14.q.2.2.2.1,x14.o.1,x14.o.2.1,x14.o.2.2.1,x14.o.2.2.2.1,x14.o.q.1,x14.o.q.2.1,x14.o.q.2.2.1,x14.o.q.2.2.2.1,x14.o.o.1,x15.1,x14.o.o.2.1,x14.o.o.2.2.1,()))<|
 A.ret _ (x14.1,x14.2.1,x14.2.2.1,x14.q.1,x14.q.2.1,x14.q.2.2.1,x14.q.2.2.2.1,x14.o.1,x14.o.2.1,x14.o.2.2.1,x14.o.2.2.2.1,x14.o.q.1,x14.o.q.2.1,x14.o.q.2.2.1,x14.o.q.2.2.2.1,x14.o.o.1,A.mkX .poly (A.bQ .mono,()),x14.o.o.2.1,x14.o.o.2.2.1,())) fun x15=>
 A.cl akG akH (x15.o.q.2.2.1,()) fun x16=>
 A.bind [.i,.i,.i,.l .iop,.i,.i,.x .blk,.i,.i,.l .atom,.b,.i,.i,.l .poly,.x .iop,.x .poly,.x .poly,.l .ev,.l .poly] (A.cond x16.1 (A.bind [.i,.i,.i,.l .iop,.i,.i,.x .blk,.i,.i,.l .atom,.b,.i,.i,.l .poly,.x .iop,.x .poly,.x .poly,.i,.i,.l .mono,.l .mono,.l .ev,.l .poly,.l .poly] (A.cond (A.ak (A.cmp .eql (A.fI .iop 0 x15.o.q.2.2.1) (A.lit 4)) (A.bl true) (A.cmp .eql (A.fI .iop 0 x15.o.q.2.2.1) (A.lit 5))) (A.cl akO akP (x15.o.o.2.2.1,()) fun x17=>
 A.ret _ (x15.1,x15.2.1,x15.2.2.1,x15.2.2.2.1,x15.q.1,x15.q.2.1,x15.q.2.2.1,x15.q.2.2.2.1,x15.o.1,x15.o.2.1,x15.o.2.2.1,x15.o.2.2.2.1,x15.o.q.1,x15.o.q.2.1,x15.o.q.2.2.1,x15.o.q.2.2.2.1,x15.o.o.1,A.fI .iop 0 x15.o.q.2.2.1,A.fI .iop 4 x15.o.q.2.2.1,A.fL .poly 0 .mono x15.o.q.2.2.2.1,A.fL .poly 0 .mono x15.o.o.1,x15.o.o.2.1,x17.1,x17.2.1,()))<|
 A.ret _ (x15.1,x15.2.1,x15.2.2.1,x15.2.2.2.1,x15.q.1,x15.q.2.1,x15.q.2.2.1,x15.q.2.2.2.1,x15.o.1,x15.o.2.1,x15.o.2.2.1,x15.o.2.2.2.1,x15.o.q.1,x15.o.q.2.1,x15.o.q.2.2.1,x15.o.q.2.2.2.1,x15.o.o.1,A.fI .iop 0 x15.o.q.2.2.1,A.fI .iop 4 x15.o.q.2.2.1,A.fL .poly 0 .mono x15.o.q.2.2.2.1,A.fL .poly 0 .mono x15.o.o.1,x15.o.o.2.1,x15.o.o.2.2.1,A.bQ .poly,())) fun x17=>
 A.l1 (.l .ev) (A.lst .ev [A.mkX .ev (x17.o.o.2.1,x17.o.o.2.2.1,x17.o.o.2.2.2.1,x17.o.o.q.1,x17.o.o.q.2.2.2.1,())]) fun x18=>
 A.chk (A.cmp .leq (A.addN (A.len .ev x17.o.o.q.2.1) (A.len .ev x18.1)) (A.lit 1073741824))<|
 A.l1 (.l .ev) (A.app .ev x17.o.o.q.2.1 x18.1) fun x19=>
 A.ret _ (x17.1,x17.2.1,x17.2.2.1,x17.2.2.2.1,x17.q.1,x17.q.2.1,x17.q.2.2.1,x17.q.2.2.2.1,x17.o.1,x17.o.2.1,x17.o.2.2.1,x17.o.2.2.2.1,x17.o.q.1,x17.o.q.2.1,x17.o.q.2.2.1,x17.o.q.2.2.2.1,x17.o.o.1,x19.1,x17.o.o.q.2.2.1,()))<|
 A.ret _ (x15.1,x15.2.1,x15.2.2.1,x15.2.2.2.1,x15.q.1,x15.q.2.1,x15.q.2.2.1,x15.q.2.2.2.1,x15.o.1,x15.o.2.1,x15.o.2.2.1,x15.o.2.2.2.1,x15.o.q.1,x15.o.q.2.1,x15.o.q.2.2.1,x15.o.q.2.2.2.1,x15.o.o.1,x15.o.o.2.1,x15.o.o.2.2.1,())) fun x17=>
 A.l1 .b (A.cmp .eql (A.fI .iop 0 x17.o.q.2.2.1) (A.lit 1)) fun x18=>
 A.jM [.i,.i,.l .iop,.i,.i,.x .blk,.i,.i,.l .atom,.b,.i,.i,.l .poly,.l .ev,.l .poly] (A.cond x18.1 (A.cl MZ M0 (A.fI .iop 3 x17.o.q.2.2.1,()) fun x19=>
 A.bd .poly x17.o.q.2.1 x17.2.2.1<|
 A.bd .poly x17.o.q.2.1 x17.2.2.1<|
 A.inl _ (x17.1,x17.2.1,x17.2.2.2.1,x17.q.1,x17.q.2.1,x17.q.2.2.1,x17.q.2.2.2.1,x17.o.1,x17.o.2.1,x17.o.2.2.1,x17.o.2.2.2.1,x17.o.q.1,A.set .poly x17.o.q.2.1 x17.2.2.1 (A.mkX .poly (x19.1,())),x17.o.o.2.1,x17.o.o.2.2.1,()))<|
 A.l1 .b (A.cmp .eql (A.fI .iop 0 x17.o.q.2.2.1) (A.lit 2)) fun x19=>
 A.jM [.i,.i,.l .iop,.i,.i,.x .blk,.i,.i,.l .atom,.b,.i,.i,.l .poly,.l .ev,.l .poly] (A.cond x19.1 (A.bd .poly x17.o.o.2.2.1 (A.fI .iop 3 x17.o.q.2.2.1)<|
 A.bd .poly x17.o.o.2.2.1 (A.fI .iop 3 x17.o.q.2.2.1)<|
 A.bd .poly x17.o.q.2.1 x17.2.2.1<|
 A.bd .poly x17.o.q.2.1 x17.2.2.1<|
 A.l1 (.x .poly) (A.get .poly x17.o.o.2.2.1 (A.fI .iop 3 x17.o.q.2.2.1)) fun x20=>
 A.inl _ (x17.1,x17.2.1,x17.2.2.2.1,x17.q.1,x17.q.2.1,x17.q.2.2.1,x17.q.2.2.2.1,x17.o.1,x17.o.2.1,x17.o.2.2.1,x17.o.2.2.2.1,x17.o.q.1,A.set .poly x17.o.q.2.1 x17.2.2.1 x20.1,x17.o.o.2.1,x17.o.o.2.2.1,()))<|
 A.l1 .b (A.cmp .eql (A.fI .iop 0 x17.o.q.2.2.1) (A.lit 3)) fun x20=>
 A.jM [.i,.i,.l .iop,.i,.i,.x .blk,.i,.i,.l .atom,.b,.i,.i,.l .poly,.l .ev,.l .poly] (A.cond x20.1 (A.cl akM akN (A.mkX .tab (x17.o.2.1,()),A.fI .iop 3 x17.o.q.2.2.1,x17.o.q.2.2.2.1,x17.o.o.1,()) fun x21=>
 A.l1 (.x .tab) x21.1 fun x22=>
 A.l1 (.x .poly) x21.2.1 fun x23=>
 A.l1 .b x21.2.2.1 fun x24=>
 A.cond (A.aA x24.1) (A.inr _<|A.inr _<|A.inr _<|A.inr _<|A.ret _ (A.mkX .tab (A.bQ .atom,()),A.mkX .sym (A.bQ .ev,A.bQ .poly,A.lit 0,A.bQ .mono,A.bQ .mono,A.lit 0,()),()))<|
 A.l1 (.x .tab) x22.1 fun x25=>
 A.bd .poly x17.o.q.2.1 x17.2.2.1<|
 A.bd .poly x17.o.q.2.1 x17.2.2.1<|
 A.l1 (.x .poly) x23.1 fun x26=>
 A.inl _ (x17.1,x17.2.1,x17.2.2.2.1,x17.q.1,x17.q.2.1,x17.q.2.2.1,x17.q.2.2.2.1,x17.o.1,A.fL .tab 0 .atom x25.1,x17.o.2.2.1,x17.o.2.2.2.1,x17.o.q.1,A.set .poly x17.o.q.2.1 x17.2.2.1 x26.1,x17.o.o.2.1,x17.o.o.2.2.1,()))<|
 A.l1 .b (A.cmp .eql (A.fI .iop 0 x17.o.q.2.2.1) (A.lit 4)) fun x21=>
 A.bind [.i,.i,.l .iop,.i,.i,.x .blk,.i,.i,.l .atom,.b,.i,.i,.l .poly,.l .ev,.l .poly] (A.cond x21.1 (A.cl TS TT (A.lit 2,x17.1,x17.o.2.1,x17.o.2.2.1,()) fun x22=>
 A.bd .poly x17.o.q.2.1 x17.2.2.1<|
 A.bd .poly x17.o.q.2.1 x17.2.2.1<|
 A.l1 (.x .poly) x22.1 fun x23=>
 A.l1 .i (A.arith .add .i64 x17.1 (A.lit 1)) fun x24=>
 A.ret _ (x24.1,x17.2.1,x17.2.2.2.1,x17.q.1,x17.q.2.1,x17.q.2.2.1,x17.q.2.2.2.1,x17.o.1,x22.2.1,x22.2.2.1,x17.o.2.2.2.1,x17.o.q.1,A.set .poly x17.o.q.2.1 x17.2.2.1 x23.1,x17.o.o.2.1,x17.o.o.2.2.1,()))<|
 A.l1 .b (A.cmp .eql (A.fI .iop 0 x17.o.q.2.2.1) (A.lit 6)) fun x22=>
 A.bind [.i,.i,.l .iop,.i,.i,.x .blk,.i,.i,.l .atom,.b,.i,.i,.l .poly,.l .ev,.l .poly] (A.cond x22.1 (A.cl TS TT (A.lit 3,x17.2.1,x17.o.2.1,x17.o.2.2.1,()) fun x23=>
 A.bd .poly x17.o.q.2.1 x17.2.2.1<|
 A.bd .poly x17.o.q.2.1 x17.2.2.1<|
 A.l1 (.x .poly) x23.1 fun x24=>
 A.l1 .i (A.arith .add .i64 x17.2.1 (A.lit 1)) fun x25=>
 A.ret _ (x17.1,x25.1,x17.2.2.2.1,x17.q.1,x17.q.2.1,x17.q.2.2.1,x17.q.2.2.2.1,x17.o.1,x23.2.1,x23.2.2.1,x17.o.2.2.2.1,x17.o.q.1,A.set .poly x17.o.q.2.1 x17.2.2.1 x24.1,x17.o.o.2.1,x17.o.o.2.2.1,()))<|
 A.l1 .b (A.cmp .eql (A.fI .iop 0 x17.o.q.2.2.1) (A.lit 8)) fun x23=>
 A.bind [.i,.i,.l .iop,.i,.i,.x .blk,.i,.i,.l .atom,.b,.i,.i,.l .poly,.l .ev,.l .poly] (A.cond x23.1 (A.bd .poly x17.o.o.2.2.1 (A.fI .iop 3 x17.o.q.2.2.1)<|
 A.bd .poly x17.o.o.2.2.1 (A.fI .iop 3 x17.o.q.2.2.1)<|
 A.l1 (.x .poly) x17.o.q.2.2.2.1 fun x24=>
 A.ret _ (x17.1,x17.2.1,x17.2.2.2.1,x17.q.1,x17.q.2.1,x17.q.2.2.1,x17.q.2.2.2.1,x17.o.1,x17.o.2.1,x17.o.2.2.1,x17.o.2.2.2.1,x17.o.q.1,x17.o.q.2.1,x17.o.o.2.1,A.set .poly x17.o.o.2.2.1 (A.fI .iop 3 x17.o.q.2.2.1) x24.1,()))<|
 A.ret _ (x17.1,x17.2.1,x17.2.2.2.1,x17.q.1,x17.q.2.1,x17.q.2.2.1,x17.q.2.2.2.1,x17.o.1,x17.o.2.1,x17.o.2.2.1,x17.o.2.2.2.1,x17.o.q.1,x17.o.q.2.1,x17.o.o.2.1,x17.o.o.2.2.1,())) fun x24=>
 A.ret _ (x24.1,x24.2.1,x24.2.2.1,x24.2.2.2.1,x24.q.1,x24.q.2.1,x24.q.2.2.1,x24.q.2.2.2.1,x24.o.1,x24.o.2.1,x24.o.2.2.1,x24.o.2.2.2.1,x24.o.q.1,x24.o.q.2.1,x24.o.q.2.2.1,())) fun x23=>
 A.ret _ (x23.1,x23.2.1,x23.2.2.1,x23.2.2.2.1,x23.q.1,x23.q.2.1,x23.q.2.2.1,x23.q.2.2.2.1,x23.o.1,x23.o.2.1,x23.o.2.2.1,x23.o.2.2.2.1,x23.o.q.1,x23.o.q.2.1,x23.o.q.2.2.1,())) fun x22=>
 A.inl _ (x22.1,x22.2.1,x22.2.2.1,x22.2.2.2.1,x22.q.1,x22.q.2.1,x22.q.2.2.1,x22.q.2.2.2.1,x22.o.1,x22.o.2.1,x22.o.2.2.1,x22.o.2.2.2.1,x22.o.q.1,x22.o.q.2.1,x22.o.q.2.2.1,())) fun x21=>
 A.inl _ (x21.1,x21.2.1,x21.2.2.1,x21.2.2.2.1,x21.q.1,x21.q.2.1,x21.q.2.2.1,x21.q.2.2.2.1,x21.o.1,x21.o.2.1,x21.o.2.2.1,x21.o.2.2.2.1,x21.o.q.1,x21.o.q.2.1,x21.o.q.2.2.1,())) fun x20=>
 A.inl _ (x20.1,x20.2.1,x20.2.2.1,x20.2.2.2.1,x20.q.1,x20.q.2.1,x20.q.2.2.1,x20.q.2.2.2.1,x20.o.1,x20.o.2.1,x20.o.2.2.1,x20.o.2.2.2.1,x20.o.q.1,x20.o.q.2.1,x20.o.q.2.2.1,())) fun x19=>
 A.inl _ (x19.1,x19.2.1,x19.2.2.1,x19.2.2.2.1,A.arith .add .i64 x19.q.1 (A.lit 1),x19.q.2.1,x19.q.2.2.1,x19.q.2.2.2.1,x19.o.1,x19.o.2.1,x19.o.2.2.1,x19.o.2.2.2.1,x19.o.q.1,x19.o.q.2.1,x19.o.q.2.2.1,()))<|
 A.inr _<|A.cl MU MV (x6.q.2.1,()) fun x7=>
 A.l1 .b x7.1 fun x8=>
 A.l1 .b x7.2.1 fun x9=>
 A.l1 .b x7.2.2.1 fun x10=>
 A.bind [.b,.x .blk,.i,.i,.l .atom,.b,.i,.l .mono,.i,.l .poly,.l .ev,.l .poly] (A.cond x8.1 (A.bd .poly x6.o.q.1 (A.fI .blk 4 x6.q.2.1)<|
 A.bd .poly x6.o.q.1 (A.fI .blk 4 x6.q.2.1)<|
 A.l1 (.x .poly) (A.get .poly x6.o.q.1 (A.fI .blk 4 x6.q.2.1)) fun x11=>
 A.ret _ (x9.1,x6.q.2.1,x6.q.2.2.1,x6.q.2.2.2.1,x6.o.1,x6.o.2.1,x6.o.2.2.1,A.fL .poly 0 .mono x11.1,x6.o.2.2.2.1,x6.o.q.1,x6.o.q.2.1,x6.o.q.2.2.1,()))<|
 A.ret _ (x9.1,x6.q.2.1,x6.q.2.2.1,x6.q.2.2.2.1,x6.o.1,x6.o.2.1,x6.o.2.2.1,A.bQ .mono,x6.o.2.2.2.1,x6.o.q.1,x6.o.q.2.1,x6.o.q.2.2.1,())) fun x11=>
 A.bind [.x .blk,.i,.i,.l .atom,.b,.i,.l .mono,.l .mono,.i,.l .ev,.l .poly] (A.cond x11.1 (A.bd .poly x11.o.2.1 (A.fI .blk 5 x11.2.1)<|
 A.bd .poly x11.o.2.1 (A.fI .blk 5 x11.2.1)<|
 A.l1 (.x .poly) (A.get .poly x11.o.2.1 (A.fI .blk 5 x11.2.1)) fun x12=>
 A.ret _ (x11.2.1,x11.2.2.1,x11.2.2.2.1,x11.q.1,x11.q.2.1,x11.q.2.2.1,x11.q.2.2.2.1,A.fL .poly 0 .mono x12.1,x11.o.1,x11.o.2.2.1,x11.o.2.2.2.1,()))<|
 A.ret _ (x11.2.1,x11.2.2.1,x11.2.2.2.1,x11.q.1,x11.q.2.1,x11.q.2.2.1,x11.q.2.2.2.1,A.bQ .mono,x11.o.1,x11.o.2.2.1,x11.o.2.2.2.1,())) fun x12=>
 A.cond x12.q.1 (A.ret _ (A.mkX .tab (A.bQ .atom,()),A.mkX .sym (A.bQ .ev,A.bQ .poly,A.lit 0,A.bQ .mono,A.bQ .mono,A.lit 0,()),()))<|
 A.cl Yn Yo (A.mkX .tab (x12.2.2.2.1,()),()) fun x13=>
 A.cl akI akJ (A.mkX .sym (x12.o.2.1,x12.o.2.2.1,x12.q.2.1,x12.q.2.2.1,x12.q.2.2.2.1,x12.o.1,()),A.arith .add .i64 (A.fI .blk 0 x12.1) (A.fI .blk 1 x12.1),()) fun x14=>
 A.l1 (.x .sym) x14.1 fun x15=>
 A.ret _ (A.mkX .tab (x13.1,()),x15.1,())) (x4.1,x5.1,A.fL .blk 2 .iop x.2.1,A.len .iop (A.fL .blk 2 .iop x.2.1),A.lit 0,x.2.1,A.lit 0,A.lit 0,x2.1,x2.2.1,A.fI .blk 3 x.2.1,A.fI .blk 6 x.2.1,x3.1,A.bQ .ev,x2.2.2.1,())
def Rb (A:Alg) (x:Tup A.ah [.l .iop,.l .iop]):Ot A EM:=
 A.l1 .b (A.bl false) fun x0=>
 A.cond (A.cmp .neq (A.len .iop x.1) (A.len .iop x.2.1)) (A.rb (A.bl false))<|
 A.iter [.l .iop,.l .iop,.i,.i] (fun x1=>
 A.cond (A.cmp .lss x1.2.2.2.1 x1.2.2.1) (A.l1 .i x1.2.2.2.1 fun x2=>
 A.bd .iop x1.1 x2.1<|
 A.bd .iop x1.2.1 x2.1<|
 A.cond (A.aA (A.eqX .iop (A.get .iop x1.1 x2.1) (A.get .iop x1.2.1 x2.1))) (A.l1 .b (A.bl false) fun x3=>
 A.inr _<|A.ret _ (x3.1,()))<|
 A.inl _ (x1.1,x1.2.1,x1.2.2.1,A.arith .add .i64 x1.2.2.2.1 (A.lit 1),()))<|
 A.inr _<|A.rb (A.bl true)) (x.1,x.2.1,A.len .iop x.1,A.lit 0,())
def Yr (A:Alg) (ae8:Pt A EM) (ae9:Ft A EM) (x:Tup A.ah [.x .blk,.x .blk]):Ot A Mw:=
 A.l1 .b (A.bl false) fun x0=>
 A.cg (A.ak (A.ak (A.ak (A.ak (A.ak (A.cmp .eql (A.fI .blk 0 x.1) (A.fI .blk 0 x.2.1)) (A.cmp .eql (A.fI .blk 1 x.1) (A.fI .blk 1 x.2.1)) (A.bl false)) (A.cmp .eql (A.fI .blk 3 x.1) (A.fI .blk 3 x.2.1)) (A.bl false)) (A.cmp .eql (A.fI .blk 4 x.1) (A.fI .blk 4 x.2.1)) (A.bl false)) (A.cmp .eql (A.fI .blk 5 x.1) (A.fI .blk 5 x.2.1)) (A.bl false)) (A.cmp .eql (A.fI .blk 6 x.1) (A.fI .blk 6 x.2.1)) (A.bl false)) ae8 ae9 (A.fL .blk 2 .iop x.1,A.fL .blk 2 .iop x.2.1,()) fun x1=>
 A.rb (A.ak (A.ak (A.ak (A.ak (A.ak (A.ak (A.cmp .eql (A.fI .blk 0 x.1) (A.fI .blk 0 x.2.1)) (A.cmp .eql (A.fI .blk 1 x.1) (A.fI .blk 1 x.2.1)) (A.bl false)) (A.cmp .eql (A.fI .blk 3 x.1) (A.fI .blk 3 x.2.1)) (A.bl false)) (A.cmp .eql (A.fI .blk 4 x.1) (A.fI .blk 4 x.2.1)) (A.bl false)) (A.cmp .eql (A.fI .blk 5 x.1) (A.fI .blk 5 x.2.1)) (A.bl false)) (A.cmp .eql (A.fI .blk 6 x.1) (A.fI .blk 6 x.2.1)) (A.bl false)) x1.1 (A.bl false))
def Yt (A:Alg) (Yn:Pt A Bj) (Yo:Ft A Bj) (Yp:Pt A Bd) (Yq:Ft A Bd) (x:Tup A.ah []):Ot A Mx:=
 A.cl Yp Yq (A.bQ .atom,A.bl false,()) fun x0=>
 A.cl Yn Yo (A.mkX .tab (x0.1,()),()) fun x1=>
 A.ret _ (A.mkX .tab (x1.1,()),x0.2.2.1,())
def Yu (A:Alg) (lF:Pt A jl) (lG:Ft A jl) (x:Tup A.ah [.x .poly,.x .poly]):Ot A MB:=
 A.l1 .b (A.bl false) fun x0=>
 A.cl lF lG (x.1,x.2.1,()) fun x1=>
 A.rb x1.1
def Rc (A:Alg) (akQ:Pt A MB) (akR:Ft A MB) (x:Tup A.ah [.l .poly,.l .poly]):Ot A EN:=
 A.l1 .b (A.bl false) fun x0=>
 A.cond (A.cmp .neq (A.len .poly x.1) (A.len .poly x.2.1)) (A.rb (A.bl false))<|
 A.iter [.l .poly,.l .poly,.i,.i] (fun x1=>
 A.cond (A.cmp .lss x1.2.2.2.1 x1.2.2.1) (A.bd .poly x1.2.1 x1.2.2.2.1<|
 A.l1 .i x1.2.2.2.1 fun x2=>
 A.l1 (.x .poly) (A.get .poly x1.2.1 x1.2.2.2.1) fun x3=>
 A.bd .poly x1.1 x2.1<|
 A.l1 (.x .poly) (A.get .poly x1.1 x2.1) fun x4=>
 A.cl akQ akR (x3.1,x4.1,()) fun x5=>
 A.cond (A.aA x5.1) (A.l1 .b (A.bl false) fun x6=>
 A.inr _<|A.ret _ (x6.1,()))<|
 A.inl _ (x1.1,x1.2.1,x1.2.2.1,A.arith .add .i64 x1.2.2.2.1 (A.lit 1),()))<|
 A.inr _<|A.rb (A.bl true)) (x.2.1,x.1,A.len .poly x.1,A.lit 0,())
def Yv (A:Alg) (afa:Pt A EN) (afb:Ft A EN) (x:Tup A.ah [.l .poly,.l .poly]):Ot A Bn:=
 A.l1 .b (A.bl false) fun x0=>
 A.cl afa afb (x.1,x.2.1,()) fun x1=>
 A.rb x1.1
def Yw (A:Alg) (lF:Pt A jl) (lG:Ft A jl) (Yx:Pt A Bn) (Yy:Ft A Bn) (x:Tup A.ah [.x .ev,.x .ev]):Ot A MC:=
 A.l1 .b (A.bl false) fun x0=>
 A.cg (A.ak (A.cmp .eql (A.fI .ev 0 x.1) (A.fI .ev 0 x.2.1)) (A.cmp .eql (A.fI .ev 1 x.1) (A.fI .ev 1 x.2.1)) (A.bl false)) lF lG (A.mkX .poly (A.fL .ev 2 .mono x.1,()),A.mkX .poly (A.fL .ev 2 .mono x.2.1,()),()) fun x1=>
 A.cg (A.ak (A.ak (A.cmp .eql (A.fI .ev 0 x.1) (A.fI .ev 0 x.2.1)) (A.cmp .eql (A.fI .ev 1 x.1) (A.fI .ev 1 x.2.1)) (A.bl false)) x1.1 (A.bl false)) lF lG (A.mkX .poly (A.fL .ev 3 .mono x.1,()),A.mkX .poly (A.fL .ev 3 .mono x.2.1,()),()) fun x2=>
 A.cg (A.ak (A.ak (A.ak (A.cmp .eql (A.fI .ev 0 x.1) (A.fI .ev 0 x.2.1)) (A.cmp .eql (A.fI .ev 1 x.1) (A.fI .ev 1 x.2.1)) (A.bl false)) x1.1 (A.bl false)) x2.1 (A.bl false)) Yx Yy (A.fL .ev 4 .poly x.1,A.fL .ev 4 .poly x.2.1,()) fun x3=>
 A.rb (A.ak (A.ak (A.ak (A.ak (A.cmp .eql (A.fI .ev 0 x.1) (A.fI .ev 0 x.2.1)) (A.cmp .eql (A.fI .ev 1 x.1) (A.fI .ev 1 x.2.1)) (A.bl false)) x1.1 (A.bl false)) x2.1 (A.bl false)) x3.1 (A.bl false))
def Rf (A:Alg) (akS:Pt A MC) (akT:Ft A MC) (x:Tup A.ah [.l .ev,.l .ev]):Ot A EO:=
 A.l1 .b (A.bl false) fun x0=>
 A.cond (A.cmp .neq (A.len .ev x.1) (A.len .ev x.2.1)) (A.rb (A.bl false))<|
 A.iter [.l .ev,.l .ev,.i,.i] (fun x1=>
 A.cond (A.cmp .lss x1.2.2.2.1 x1.2.2.1) (A.bd .ev x1.2.1 x1.2.2.2.1<|
 A.l1 .i x1.2.2.2.1 fun x2=>
 A.l1 (.x .ev) (A.get .ev x1.2.1 x1.2.2.2.1) fun x3=>
 A.bd .ev x1.1 x2.1<|
 A.l1 (.x .ev) (A.get .ev x1.1 x2.1) fun x4=>
 A.cl akS akT (x3.1,x4.1,()) fun x5=>
 A.cond (A.aA x5.1) (A.l1 .b (A.bl false) fun x6=>
 A.inr _<|A.ret _ (x6.1,()))<|
 A.inl _ (x1.1,x1.2.1,x1.2.2.1,A.arith .add .i64 x1.2.2.2.1 (A.lit 1),()))<|
 A.inr _<|A.rb (A.bl true)) (x.2.1,x.1,A.len .ev x.1,A.lit 0,())
def Yz (A:Alg) (lF:Pt A jl) (lG:Ft A jl) (Yx:Pt A Bn) (Yy:Ft A Bn) (afc:Pt A EO) (afd:Ft A EO) (x:Tup A.ah [.x .sym,.x .sym]):Ot A ME:=
 A.l1 .b (A.bl false) fun x0=>
 A.cl afc afd (A.fL .sym 0 .ev x.1,A.fL .sym 0 .ev x.2.1,()) fun x1=>
 A.l1 .b x1.1 fun x2=>
 A.cg x2.1 Yx Yy (A.fL .sym 1 .poly x.1,A.fL .sym 1 .poly x.2.1,()) fun x3=>
 A.cg (A.ak (A.ak x2.1 x3.1 (A.bl false)) (A.cmp .eql (A.fI .sym 2 x.1) (A.fI .sym 2 x.2.1)) (A.bl false)) lF lG (A.mkX .poly (A.fL .sym 3 .mono x.1,()),A.mkX .poly (A.fL .sym 3 .mono x.2.1,()),()) fun x4=>
 A.cg (A.ak (A.ak (A.ak x2.1 x3.1 (A.bl false)) (A.cmp .eql (A.fI .sym 2 x.1) (A.fI .sym 2 x.2.1)) (A.bl false)) x4.1 (A.bl false)) lF lG (A.mkX .poly (A.fL .sym 4 .mono x.1,()),A.mkX .poly (A.fL .sym 4 .mono x.2.1,()),()) fun x5=>
 A.rb (A.ak (A.ak (A.ak (A.ak (A.ak x2.1 x3.1 (A.bl false)) (A.cmp .eql (A.fI .sym 2 x.1) (A.fI .sym 2 x.2.1)) (A.bl false)) x4.1 (A.bl false)) x5.1 (A.bl false)) (A.cmp .eql (A.fI .sym 5 x.1) (A.fI .sym 5 x.2.1)) (A.bl false))
def afe (A:Alg) (Ij:Pt A uo) (Ik:Ft A uo) (akU:Pt A Mw) (akV:Ft A Mw) (akW:Pt A Mx) (akX:Ft A Mx) (abZ:Pt A Mv) (ab0:Ft A Mv) (akY:Pt A ME) (akZ:Ft A ME) (x:Tup A.ah [.x .blk,.x .blk]):Ot A WL:=
 A.l1 .b (A.bl false) fun x0=>
 A.cl Ij Ik (x.1,()) fun x1=>
 A.cg (A.aA (A.aA x1.1)) Ij Ik (x.2.1,()) fun x2=>
 A.cond (A.ak (A.ak (A.ak (A.aA x1.1) (A.bl true) (A.aA x2.1)) (A.bl true) (A.cmp .neq (A.fI .blk 0 x.1) (A.fI .blk 0 x.2.1))) (A.bl true) (A.cmp .neq (A.fI .blk 1 x.1) (A.fI .blk 1 x.2.1))) (A.rb (A.bl false))<|
 A.cl akU akV (x.1,x.2.1,()) fun x3=>
 A.cond x3.1 (A.rb (A.bl true))<|
 A.cl akW akX () fun x4=>
 A.l1 (.x .tab) x4.1 fun x5=>
 A.l1 (.l .poly) x4.2.1 fun x6=>
 A.cl abZ ab0 (x5.1,x.1,()) fun x7=>
 A.l1 (.x .tab) x7.1 fun x8=>
 A.l1 (.x .sym) x7.2.1 fun x9=>
 A.cl abZ ab0 (x8.1,x.2.1,()) fun x10=>
 A.l1 (.x .tab) x10.1 fun x11=>
 A.l1 (.x .sym) x10.2.1 fun x12=>
 A.cl akY akZ (x9.1,x12.1,()) fun x13=>
 A.rb x13.1
def YA (A:Alg) (x:Tup A.ah [.x .blk,.x .blk]):Ot A MF:=
 A.l1 .b (A.bl false) fun x0=>
 A.cond (A.ak (A.ak (A.ak (A.ak (A.ak (A.ak (A.cmp .neq (A.fI .blk 0 x.1) (A.fI .blk 0 x.2.1)) (A.bl true) (A.cmp .neq (A.fI .blk 1 x.1) (A.fI .blk 1 x.2.1))) (A.bl true) (A.cmp .neq (A.fI .blk 3 x.1) (A.fI .blk 3 x.2.1))) (A.bl true) (A.cmp .neq (A.fI .blk 4 x.1) (A.fI .blk 4 x.2.1))) (A.bl true) (A.cmp .neq (A.fI .blk 5 x.1) (A.fI .blk 5 x.2.1))) (A.bl true) (A.cmp .neq (A.fI .blk 6 x.1) (A.fI .blk 6 x.2.1))) (A.bl true) (A.cmp .neq (A.len .iop (A.fL .blk 2 .iop x.1)) (A.len .iop (A.fL .blk 2 .iop x.2.1)))) (A.rb (A.bl false))<|
 A.l1 .i (A.lit 0) fun x1=>
 A.iter [.i,.x .blk,.x .blk] (fun x2=>
 A.cond (A.cmp .lss x2.1 (A.len .iop (A.fL .blk 2 .iop x2.2.1))) (A.bd .iop (A.fL .blk 2 .iop x2.2.1) x2.1<|
 A.bd .iop (A.fL .blk 2 .iop x2.2.2.1) x2.1<|
 A.cond (A.aA (A.eqX .iop (A.get .iop (A.fL .blk 2 .iop x2.2.1) x2.1) (A.get .iop (A.fL .blk 2 .iop x2.2.2.1) x2.1))) (A.l1 .b (A.bl false) fun x3=>
 A.inr _<|A.ret _ (x3.1,()))<|
 A.l1 .i (A.arith .add .i64 x2.1 (A.lit 1)) fun x3=>
 A.inl _ (x3.1,x2.2.1,x2.2.2.1,()))<|
 A.inr _<|A.rb (A.bl true)) (x1.1,x.1,x.2.1,())
def Rh (A:Alg) (aff:Pt A Dz) (afg:Ft A Dz) (afh:Pt A Ep) (afi:Ft A Ep) (x:Tup A.ah [.l .u8]):Ot A EP:=
 A.cl aff afg (x.1,()) fun x0=>
 A.cl afh afi (A.lit 12,x0.1,x0.2.1,()) fun x1=>
 A.l1 (.x .blk) x1.1 fun x2=>
 A.ret _ (x2.1,())
def YB (A:Alg) (MU:Pt A um) (MV:Ft A um) (MR:Pt A uj) (MS:Ft A uj) (x:Tup A.ah [.l .i64,.i,.i,.i,.i,.i,.i,.l .iop]):Ot A MG:=
 A.iter [.l .i64,.i,.i,.i,.i,.i,.i,.i,.i,.l .iop] (fun x0=>
 A.cond (A.cmp .lss x0.2.2.1 x0.2.1) (A.bd .iop x0.o.2.1 x0.2.2.1<|
 A.bd .iop x0.o.2.1 x0.2.2.1<|
 A.l1 .i x0.2.2.1 fun x1=>
 A.l1 (.x .iop) (A.get .iop x0.o.2.1 x0.2.2.1) fun x2=>
 A.cl MR MS (x2.1,()) fun x3=>
 A.l1 .b x3.1 fun x4=>
 A.l1 .b x3.2.1 fun x5=>
 A.l1 .b x3.2.2.1 fun x6=>
 A.l1 .b x3.2.2.2.1 fun x7=>
 A.bind [.l .i64,.i,.b,.i,.i,.i,.i,.i,.i,.i,.i,.l .iop,.x .iop] (A.cond x4.1 (A.bd .i64 x0.1 (A.fI .iop 1 x2.1)<|
 A.bd .iop x0.o.2.1 x1.1<|
 A.bd .iop x0.o.2.1 x1.1<|
 A.l1 .i (A.fI .i64 0 (A.get .i64 x0.1 (A.fI .iop 1 x2.1))) fun x8=>
 A.ret _ (x0.1,x1.1,x5.1,x0.2.1,x0.2.2.1,x0.2.2.2.1,x0.q.1,x0.q.2.1,x0.q.2.2.1,x0.q.2.2.2.1,x0.o.1,A.set .iop x0.o.2.1 x1.1 (A.mkX .iop (A.fI .iop 0 (A.get .iop x0.o.2.1 x1.1),x8.1,A.fI .iop 2 (A.get .iop x0.o.2.1 x1.1),A.fI .iop 3 (A.get .iop x0.o.2.1 x1.1),A.fI .iop 4 (A.get .iop x0.o.2.1 x1.1),())),x2.1,()))<|
 A.ret _ (x0.1,x1.1,x5.1,x0.2.1,x0.2.2.1,x0.2.2.2.1,x0.q.1,x0.q.2.1,x0.q.2.2.1,x0.q.2.2.2.1,x0.o.1,x0.o.2.1,x2.1,())) fun x8=>
 A.bind [.l .i64,.i,.i,.i,.i,.i,.i,.i,.i,.l .iop] (A.cond x8.2.2.1 (A.bd .i64 x8.1 (A.fI .iop 2 x8.o.q.1)<|
 A.bd .iop x8.o.2.2.2.1 x8.2.1<|
 A.bd .iop x8.o.2.2.2.1 x8.2.1<|
 A.l1 .i (A.fI .i64 0 (A.get .i64 x8.1 (A.fI .iop 2 x8.o.q.1))) fun x9=>
 A.ret _ (x8.1,x8.2.2.2.1,x8.q.1,x8.q.2.1,x8.q.2.2.1,x8.q.2.2.2.1,x8.o.1,x8.o.2.1,x8.o.2.2.1,A.set .iop x8.o.2.2.2.1 x8.2.1 (A.mkX .iop (A.fI .iop 0 (A.get .iop x8.o.2.2.2.1 x8.2.1),A.fI .iop 1 (A.get .iop x8.o.2.2.2.1 x8.2.1),x9.1,A.fI .iop 3 (A.get .iop x8.o.2.2.2.1 x8.2.1),A.fI .iop 4 (A.get .iop x8.o.2.2.2.1 x8.2.1),())),()))<|
 A.ret _ (x8.1,x8.2.2.2.1,x8.q.1,x8.q.2.1,x8.q.2.2.1,x8.q.2.2.2.1,x8.o.1,x8.o.2.1,x8.o.2.2.1,x8.o.2.2.2.1,())) fun x9=>
 A.inl _ (x9.1,x9.2.1,A.arith .add .i64 x9.2.2.1 (A.lit 1),x9.2.2.2.1,x9.q.1,x9.q.2.1,x9.q.2.2.1,x9.q.2.2.2.1,x9.o.1,x9.o.2.1,()))<|
 A.inr _<|A.cl MU MV (A.mkX .blk (x0.2.2.2.1,x0.q.1,x0.o.2.1,x0.q.2.1,x0.q.2.2.1,x0.q.2.2.2.1,x0.o.1,()),()) fun x1=>
 A.l1 .b x1.1 fun x2=>
 A.l1 .b x1.2.1 fun x3=>
 A.l1 .b x1.2.2.1 fun x4=>
 A.bind [.l .i64,.b,.i,.i,.i,.i,.i,.i,.l .iop] (A.cond x2.1 (A.bd .i64 x0.1 x0.q.2.2.1<|
 A.l1 .i (A.fI .i64 0 (A.get .i64 x0.1 x0.q.2.2.1)) fun x5=>
 A.ret _ (x0.1,x3.1,x0.2.2.2.1,x0.q.1,x0.q.2.1,x5.1,x0.q.2.2.2.1,x0.o.1,x0.o.2.1,()))<|
 A.ret _ (x0.1,x3.1,x0.2.2.2.1,x0.q.1,x0.q.2.1,x0.q.2.2.1,x0.q.2.2.2.1,x0.o.1,x0.o.2.1,())) fun x5=>
 A.bind [.i,.i,.i,.i,.i,.i,.l .iop] (A.cond x5.2.1 (A.bd .i64 x5.1 x5.q.2.2.1<|
 A.l1 .i (A.fI .i64 0 (A.get .i64 x5.1 x5.q.2.2.1)) fun x6=>
 A.ret _ (x5.2.2.1,x5.2.2.2.1,x5.q.1,x5.q.2.1,x6.1,x5.q.2.2.2.1,x5.o.1,()))<|
 A.ret _ (x5.2.2.1,x5.2.2.2.1,x5.q.1,x5.q.2.1,x5.q.2.2.1,x5.q.2.2.2.1,x5.o.1,())) fun x6=>
 A.ret _ (x6.1,x6.2.1,x6.2.2.1,x6.2.2.2.1,x6.q.1,x6.q.2.1,x6.q.2.2.1,())) (x.1,A.len .iop x.q.2.2.2.1,A.lit 0,x.2.1,x.2.2.1,x.2.2.2.1,x.q.1,x.q.2.1,x.q.2.2.1,x.q.2.2.2.1,())
def YC (A:Alg) (ak0:Pt A MG) (ak1:Ft A MG) (x:Tup A.ah [.x .blk,.l .bool]):Ot A MH:=
 A.chk (A.cmp .eql (A.len .iop (A.fL .blk 2 .iop x.1)) (A.len .iop (A.fL .blk 2 .iop x.1)))<|
 A.chk (A.cmp .leq (A.lit 0) (A.len .iop (A.fL .blk 2 .iop x.1)))<|
 A.chk (A.cmp .leq (A.len .iop (A.fL .blk 2 .iop x.1)) (A.lit 1073741824))<|
 A.l1 (.l .i64) (A.rep .i64 (A.len .iop (A.fL .blk 2 .iop x.1)) (A.mkX .i64 (A.lit 0,()))) fun x0=>
 A.l1 (.x .blk) x.1 fun x1=>
 A.iter [.l .bool,.l .iop,.i,.i,.i,.i,.i,.i,.i,.i,.l .i64,.i,.i,.i,.i,.i,.i,.l .iop] (fun x2=>
 A.cond (A.cmp .lss x2.2.2.2.1 x2.2.2.1) (A.bd .iop x2.2.1 x2.2.2.2.1<|
 A.l1 .i x2.2.2.2.1 fun x3=>
 A.l1 (.x .iop) (A.get .iop x2.2.1 x2.2.2.2.1) fun x4=>
 A.bd .i64 x2.o.2.2.1 x3.1<|
 A.bd .i64 x2.o.2.2.1 x3.1<|
 A.l1 .i (A.len .iop x2.o.o.2.1) fun x5=>
 A.bd .bool x2.1 x3.1<|
 A.bind [.l .bool,.l .iop,.i,.i,.i,.i,.i,.i,.i,.i,.l .i64,.i,.i,.i,.i,.i,.i,.l .iop] (A.cond (A.fB .bool 0 (A.get .bool x2.1 x3.1)) (A.l1 (.l .iop) (A.lst .iop [x4.1]) fun x6=>
 A.chk (A.cmp .leq (A.addN (A.len .iop x2.o.o.2.1) (A.len .iop x6.1)) (A.lit 1073741824))<|
 A.l1 (.l .iop) (A.app .iop x2.o.o.2.1 x6.1) fun x7=>
 A.ret _ (x2.1,x2.2.1,x2.2.2.1,x2.2.2.2.1,x2.q.1,x2.q.2.1,x2.q.2.2.1,x2.q.2.2.2.1,x2.o.1,x2.o.2.1,A.set .i64 x2.o.2.2.1 x3.1 (A.mkX .i64 (x5.1,())),x2.o.2.2.2.1,x2.o.q.1,x2.o.q.2.1,x2.o.q.2.2.1,x2.o.q.2.2.2.1,x2.o.o.1,x7.1,()))<|
 A.ret _ (x2.1,x2.2.1,x2.2.2.1,x2.2.2.2.1,x2.q.1,x2.q.2.1,x2.q.2.2.1,x2.q.2.2.2.1,x2.o.1,x2.o.2.1,A.set .i64 x2.o.2.2.1 x3.1 (A.mkX .i64 (x5.1,())),x2.o.2.2.2.1,x2.o.q.1,x2.o.q.2.1,x2.o.q.2.2.1,x2.o.q.2.2.2.1,x2.o.o.1,x2.o.o.2.1,())) fun x6=>
 A.inl _ (x6.1,x6.2.1,x6.2.2.1,A.arith .add .i64 x6.2.2.2.1 (A.lit 1),x6.q.1,x6.q.2.1,x6.q.2.2.1,x6.q.2.2.2.1,x6.o.1,x6.o.2.1,x6.o.2.2.1,x6.o.2.2.2.1,x6.o.q.1,x6.o.q.2.1,x6.o.q.2.2.1,x6.o.q.2.2.2.1,x6.o.o.1,x6.o.o.2.1,()))<|
 A.inr _<|A.cl ak0 ak1 (x2.o.2.2.1,x2.o.2.2.2.1,x2.o.q.1,x2.o.q.2.1,x2.o.q.2.2.1,x2.o.q.2.2.2.1,x2.o.o.1,x2.o.o.2.1,()) fun x3=>
 A.ret _ (x3.1,x3.2.1,x3.2.2.1,x3.2.2.2.1,x3.q.1,x3.q.2.1,x3.q.2.2.1,())) (x.2.1,A.fL .blk 2 .iop x.1,A.len .iop (A.fL .blk 2 .iop x.1),A.lit 0,A.lit 0,A.lit 0,A.lit 0,A.lit 0,A.lit 0,A.lit 0,x0.1,A.fI .blk 0 x1.1,A.fI .blk 1 x1.1,A.fI .blk 3 x1.1,A.fI .blk 4 x1.1,A.fI .blk 5 x1.1,A.fI .blk 6 x1.1,A.bQ .iop,())
def YD (A:Alg) (ak2:Pt A MH) (ak3:Ft A MH) (Ij:Pt A uo) (Ik:Ft A uo) (x:Tup A.ah [.x .blk]):Ot A MI:=
 A.cl Ij Ik (x.1,()) fun x0=>
 A.cond (A.aA x0.1) (A.ret _ (A.mkX .blk (A.lit 0,A.lit 0,A.bQ .iop,A.lit 0,A.lit 0,A.lit 0,A.lit 0,()),()))<|
 A.chk (A.cmp .eql (A.len .iop (A.fL .blk 2 .iop x.1)) (A.len .iop (A.fL .blk 2 .iop x.1)))<|
 A.chk (A.cmp .leq (A.lit 0) (A.len .iop (A.fL .blk 2 .iop x.1)))<|
 A.chk (A.cmp .leq (A.len .iop (A.fL .blk 2 .iop x.1)) (A.lit 1073741824))<|
 A.l1 (.l .bool) (A.rep .bool (A.len .iop (A.fL .blk 2 .iop x.1)) (A.mkX .bool (A.bl false,()))) fun x1=>
 A.chk (A.cmp .eql (A.lit 4) (A.lit 4))<|
 A.chk (A.cmp .leq (A.lit 0) (A.lit 4))<|
 A.chk (A.cmp .leq (A.lit 4) (A.lit 1073741824))<|
 A.l1 (.l .bool) (A.rep .bool (A.lit 4) (A.mkX .bool (A.bl false,()))) fun x2=>
 A.l1 .i (A.arith .sub .i64 (A.len .iop (A.fL .blk 2 .iop x.1)) (A.lit 1)) fun x3=>
 A.iter [.i,.x .blk,.i,.i,.i,.i,.i,.i,.l .bool,.l .bool] (fun x4=>
 A.cond (A.cmp .geq x4.1 (A.lit 0)) (A.bd .bool x4.o.1 x4.1<|
 A.bd .bool x4.o.1 x4.1<|
 A.l1 .b (A.bl true) fun x5=>
 A.bd .iop (A.fL .blk 2 .iop x4.2.1) x4.1<|
 A.l1 (.x .iop) (A.get .iop (A.fL .blk 2 .iop x4.2.1) x4.1) fun x6=>
 A.l1 .b (A.cmp .eql (A.fI .iop 0 x6.1) (A.lit 8)) fun x7=>
 A.bind [.i,.x .blk,.i,.i,.i,.i,.i,.i,.l .bool,.l .bool] (A.cond x7.1 (A.bd .bool x4.o.2.1 (A.fI .iop 3 x6.1)<|
 A.bd .bool x4.o.2.1 (A.fI .iop 3 x6.1)<|
 A.bd .bool (A.set .bool x4.o.1 x4.1 (A.mkX .bool (x5.1,()))) x4.1<|
 A.bd .bool (A.set .bool x4.o.1 x4.1 (A.mkX .bool (x5.1,()))) x4.1<|
 A.l1 .b (A.aA (A.fB .bool 0 (A.get .bool x4.o.2.1 (A.fI .iop 3 x6.1)))) fun x8=>
 A.bd .bool x4.o.2.1 (A.fI .iop 3 x6.1)<|
 A.bd .bool x4.o.2.1 (A.fI .iop 3 x6.1)<|
 A.l1 .b (A.bl true) fun x9=>
 A.ret _ (x4.1,x4.2.1,x4.2.2.1,x4.2.2.2.1,x4.q.1,x4.q.2.1,x4.q.2.2.1,x4.q.2.2.2.1,A.set .bool (A.set .bool x4.o.1 x4.1 (A.mkX .bool (x5.1,()))) x4.1 (A.mkX .bool (x8.1,())),A.set .bool x4.o.2.1 (A.fI .iop 3 x6.1) (A.mkX .bool (x9.1,())),()))<|
 A.l1 .b (A.cmp .eql (A.fI .iop 0 x6.1) (A.lit 2)) fun x8=>
 A.bind [.i,.x .blk,.i,.i,.i,.i,.i,.i,.l .bool,.l .bool] (A.cond x8.1 (A.bd .bool x4.o.2.1 (A.fI .iop 3 x6.1)<|
 A.bd .bool x4.o.2.1 (A.fI .iop 3 x6.1)<|
 A.l1 .b (A.bl false) fun x9=>
 A.ret _ (x4.1,x4.2.1,x4.2.2.1,x4.2.2.2.1,x4.q.1,x4.q.2.1,x4.q.2.2.1,x4.q.2.2.2.1,A.set .bool x4.o.1 x4.1 (A.mkX .bool (x5.1,())),A.set .bool x4.o.2.1 (A.fI .iop 3 x6.1) (A.mkX .bool (x9.1,())),()))<|
 A.l1 .b (A.cmp .eql (A.fI .iop 0 x6.1) (A.lit 4)) fun x9=>
 A.bind [.i,.b,.x .blk,.i,.i,.i,.i,.i,.i,.l .bool,.l .bool] (A.cond x9.1 (A.ret _ (x4.1,x9.1,x4.2.1,x4.2.2.1,x4.2.2.2.1,x4.q.1,x4.q.2.1,x4.q.2.2.1,x4.q.2.2.2.1,A.set .bool x4.o.1 x4.1 (A.mkX .bool (x5.1,())),x4.o.2.1,()))<|
 A.l1 .b (A.cmp .eql (A.fI .iop 0 x6.1) (A.lit 5)) fun x10=>
 A.ret _ (x4.1,x10.1,x4.2.1,x4.2.2.1,x4.2.2.2.1,x4.q.1,x4.q.2.1,x4.q.2.2.1,x4.q.2.2.2.1,A.set .bool x4.o.1 x4.1 (A.mkX .bool (x5.1,())),x4.o.2.1,())) fun x10=>
 A.bind [.i,.x .blk,.i,.i,.i,.i,.i,.i,.l .bool,.l .bool] (A.cond x10.2.1 (A.ret _ (x10.1,x10.2.2.1,x10.2.2.2.1,x10.q.1,x10.q.2.1,x10.q.2.2.1,x10.q.2.2.2.1,x10.o.1,x10.o.2.1,A.rep .bool (A.len .bool x10.o.2.2.1) (A.mkX .bool (A.bl false,())),()))<|
 A.ret _ (x10.1,x10.2.2.1,x10.2.2.2.1,x10.q.1,x10.q.2.1,x10.q.2.2.1,x10.q.2.2.2.1,x10.o.1,x10.o.2.1,x10.o.2.2.1,())) fun x11=>
 A.ret _ (x11.1,x11.2.1,x11.2.2.1,x11.2.2.2.1,x11.q.1,x11.q.2.1,x11.q.2.2.1,x11.q.2.2.2.1,x11.o.1,x11.o.2.1,())) fun x9=>
 A.ret _ (x9.1,x9.2.1,x9.2.2.1,x9.2.2.2.1,x9.q.1,x9.q.2.1,x9.q.2.2.1,x9.q.2.2.2.1,x9.o.1,x9.o.2.1,())) fun x8=>
 A.l1 .i (A.arith .sub .i64 x8.1 (A.lit 1)) fun x9=>
 A.inl _ (x9.1,x8.2.1,x8.2.2.1,x8.2.2.2.1,x8.q.1,x8.q.2.1,x8.q.2.2.1,x8.q.2.2.2.1,x8.o.1,x8.o.2.1,()))<|
 A.inr _<|A.cl ak2 ak3 (x4.2.1,x4.o.1,()) fun x5=>
 A.ret _ (A.mkX .blk (x5.1,x5.2.1,x5.q.2.2.1,x5.2.2.1,x5.2.2.2.1,x5.q.1,x5.q.2.1,()),())) (x3.1,x.1,A.lit 0,A.lit 0,A.lit 0,A.lit 0,A.lit 0,A.lit 0,x1.1,x2.1,())
def YE (A:Alg) (apD:Pt A WL) (apE:Ft A WL) (ab1:Pt A MI) (ab2:Ft A MI) (ab3:Pt A MF) (ab4:Ft A MF) (ak4:Pt A L8) (ak5:Ft A L8) (afj:Pt A EP) (afk:Ft A EP) (mM:Pt A gJ) (mO:Ft A gJ) (Ql:Pt A tT) (Qm:Ft A tT) (x:Tup A.ah [.l .u8]):Ot A abU:=
 A.l1 .b (A.bl false) fun x0=>
 A.cond (A.cmp .gtr (A.len .u8 x.1) (A.lit 1048576)) (A.rb (A.bl true))<|
 A.cl afj afk (x.1,()) fun x1=>
 A.l1 (.x .blk) x1.1 fun x2=>
 A.cl ab1 ab2 (x2.1,()) fun x3=>
 A.l1 (.x .blk) x3.1 fun x4=>
 A.cl Ql Qm (x2.1,()) fun x5=>
 A.cl ab3 ab4 (x4.1,A.mkX .blk (x5.1,x5.2.1,x5.q.2.2.1,x5.2.2.1,x5.2.2.2.1,x5.q.1,x5.q.2.1,()),()) fun x6=>
 A.cond (A.aA x6.1) (A.rb (A.bl false))<|
 A.cl mM mO (x2.1,()) fun x7=>
 A.cond (A.aA x7.1) (A.cg (A.cmp .eql (A.fI .blk 1 x4.1) (A.lit 0)) ak4 ak5 () fun x8=>
 A.rb (A.ak (A.cmp .eql (A.fI .blk 1 x4.1) (A.lit 0)) x8.1 (A.bl false)))<|
 A.l1 (.l .bool) (A.lst .bool [A.mkX .bool (A.bl false,()),A.mkX .bool (A.bl false,()),A.mkX .bool (A.bl false,()),A.mkX .bool (A.bl false,())]) fun x8=>
 A.l1 .i (A.lit 0) fun x9=>
 A.iter [.i,.x .blk,.x .blk,.l .bool] (fun x10=>
 A.cond (A.cmp .lss x10.1 (A.len .iop (A.fL .blk 2 .iop x10.2.2.1))) (A.bd .iop (A.fL .blk 2 .iop x10.2.2.1) x10.1<|
 A.l1 (.x .iop) (A.get .iop (A.fL .blk 2 .iop x10.2.2.1) x10.1) fun x11=>
 A.bind [.i,.x .blk,.x .blk,.l .bool,.x .iop] (A.cond (A.ak (A.cmp .eql (A.fI .iop 0 x11.1) (A.lit 4)) (A.bl true) (A.cmp .eql (A.fI .iop 0 x11.1) (A.lit 5))) (A.l1 (.l .bool) (A.lst .bool [A.mkX .bool (A.bl false,()),A.mkX .bool (A.bl false,()),A.mkX .bool (A.bl false,()),A.mkX .bool (A.bl false,())]) fun x12=>
 A.ret _ (x10.1,x10.2.1,x10.2.2.1,x12.1,x11.1,()))<|
 A.ret _ (x10.1,x10.2.1,x10.2.2.1,x10.2.2.2.1,x11.1,())) fun x12=>
 A.bind [.i,.x .blk,.x .blk,.l .bool,.x .iop] (A.cond (A.cmp .eql (A.fI .iop 0 x12.q.1) (A.lit 2)) (A.bd .bool x12.2.2.2.1 (A.fI .iop 3 x12.q.1)<|
 A.bd .bool x12.2.2.2.1 (A.fI .iop 3 x12.q.1)<|
 A.l1 .b (A.bl false) fun x13=>
 A.ret _ (x12.1,x12.2.1,x12.2.2.1,A.set .bool x12.2.2.2.1 (A.fI .iop 3 x12.q.1) (A.mkX .bool (x13.1,())),x12.q.1,()))<|
 A.ret _ (x12.1,x12.2.1,x12.2.2.1,x12.2.2.2.1,x12.q.1,())) fun x13=>
 A.jM [.i,.x .blk,.x .blk,.l .bool] (A.cond (A.cmp .eql (A.fI .iop 0 x13.q.1) (A.lit 8)) (A.bd .bool x13.2.2.2.1 (A.fI .iop 3 x13.q.1)<|
 A.bd .bool x13.2.2.2.1 (A.fI .iop 3 x13.q.1)<|
 A.cond (A.fB .bool 0 (A.get .bool x13.2.2.2.1 (A.fI .iop 3 x13.q.1))) (A.l1 .b (A.bl false) fun x14=>
 A.inr _<|A.inr _<|A.ret _ (x14.1,()))<|
 A.bd .bool x13.2.2.2.1 (A.fI .iop 3 x13.q.1)<|
 A.bd .bool x13.2.2.2.1 (A.fI .iop 3 x13.q.1)<|
 A.l1 .b (A.bl true) fun x14=>
 A.inl _ (x13.1,x13.2.1,x13.2.2.1,A.set .bool x13.2.2.2.1 (A.fI .iop 3 x13.q.1) (A.mkX .bool (x14.1,())),()))<|
 A.inl _ (x13.1,x13.2.1,x13.2.2.1,x13.2.2.2.1,())) fun x14=>
 A.l1 .i (A.arith .add .i64 x14.1 (A.lit 1)) fun x15=>
 A.inl _ (x15.1,x14.2.1,x14.2.2.1,x14.2.2.2.1,()))<|
 A.inr _<|A.cl apD apE (x10.2.1,x10.2.2.1,()) fun x11=>
 A.cg (A.ak x11.1 (A.cmp .leq (A.len .iop (A.fL .blk 2 .iop x10.2.2.1)) (A.len .iop (A.fL .blk 2 .iop x10.2.1))) (A.bl false)) ab1 ab2 (x10.2.2.1,()) fun x12=>
 A.cg (A.ak x11.1 (A.cmp .leq (A.len .iop (A.fL .blk 2 .iop x10.2.2.1)) (A.len .iop (A.fL .blk 2 .iop x10.2.1))) (A.bl false)) ab3 ab4 (x12.1,x10.2.2.1,()) fun x13=>
 A.rb (A.ak (A.ak x11.1 (A.cmp .leq (A.len .iop (A.fL .blk 2 .iop x10.2.2.1)) (A.len .iop (A.fL .blk 2 .iop x10.2.1))) (A.bl false)) x13.1 (A.bl false))) (x9.1,x2.1,x4.1,x8.1,())
end Go.TX.F
namespace Go.TX.Seat
open Go Go.AE Go.TX Go.Proofs
set_option maxRecDepth 100000
def ty:TypeId→Option TY
  | 2=>some ⟨(.int .i64),1,8,[.d true (.int .i64 0)]⟩
  | 3=>some ⟨(.int .i64),1,8,[.d true (.int .i64 0)]⟩
  | 4=>some ⟨.bool,1,1,[.d true (.bool false)]⟩
  | 5=>some ⟨(.int .u8),1,1,[.d true (.int .u8 0)]⟩
  | 6=>some ⟨(.int .u8),1,1,[.d true (.int .u8 0)]⟩
  | 7=>some ⟨(.struct [(0,2),(1,3),(2,4),(3,6)]),4,24,[.d true (.int .i64 0),.d true (.int .i64 0),.d true (.bool false),.d true (.int .u8 0)]⟩
  | 8=>some ⟨(.struct [(0,2),(1,3),(2,4),(3,6)]),4,24,[.d true (.int .i64 0),.d true (.int .i64 0),.d true (.bool false),.d true (.int .u8 0)]⟩
  | 9=>some ⟨.scalar,1,16,[.d true (.str ⟨#[]⟩)]⟩
  | 10=>some ⟨.scalar,1,16,[.d true (.str ⟨#[]⟩)]⟩
  | 11=>some ⟨.scalar,1,16,[.d true (.str ⟨#[]⟩)]⟩
  | 12=>some ⟨(.int .u64),1,8,[.d true (.int .u64 0)]⟩
  | 13=>some ⟨(.struct [(0,9),(1,12)]),2,24,[.d true (.str ⟨#[]⟩),.d true (.int .u64 0)]⟩
  | 14=>some ⟨(.struct [(0,9),(1,12)]),2,24,[.d true (.str ⟨#[]⟩),.d true (.int .u64 0)]⟩
  | 15=>some ⟨.scalar,1,8,[.np]⟩
  | 16=>some ⟨.scalar,1,8,[.np]⟩
  | 17=>some ⟨.scalar,1,8,[.np]⟩
  | 18=>some ⟨(.struct [(0,17)]),1,8,[.np]⟩
  | 19=>some ⟨(.struct [(0,17)]),1,8,[.np]⟩
  | 21=>some ⟨(.int .i32),1,4,[.d true (.int .i32 0)]⟩
  | 22=>some ⟨(.slice 5),1,24,[.nil]⟩
  | 23=>some ⟨(.slice 70),1,24,[.nil]⟩
  | 24=>some ⟨(.slice 27),1,24,[.nil]⟩
  | 25=>some ⟨(.slice 95),1,24,[.nil]⟩
  | 26=>some ⟨(.struct [(0,25)]),1,24,[.nil]⟩
  | 27=>some ⟨(.struct [(0,25)]),1,24,[.nil]⟩
  | 28=>some ⟨(.struct [(0,23),(1,24),(2,3),(3,27),(4,27),(5,3)]),6,112,[.nil,.nil,.d true (.int .i64 0),.nil,.nil,.d true (.int .i64 0)]⟩
  | 29=>some ⟨(.struct [(0,23),(1,24),(2,3),(3,27),(4,27),(5,3)]),6,112,[.nil,.nil,.d true (.int .i64 0),.nil,.nil,.d true (.int .i64 0)]⟩
  | 42=>some ⟨(.slice 68),1,24,[.nil]⟩
  | 43=>some ⟨(.struct [(0,3),(1,3),(2,42),(3,3),(4,3),(5,3),(6,3)]),7,72,[.d true (.int .i64 0),.d true (.int .i64 0),.nil,.d true (.int .i64 0),.d true (.int .i64 0),.d true (.int .i64 0),.d true (.int .i64 0)]⟩
  | 44=>some ⟨(.struct [(0,3),(1,3),(2,42),(3,3),(4,3),(5,3),(6,3)]),7,72,[.d true (.int .i64 0),.d true (.int .i64 0),.nil,.d true (.int .i64 0),.d true (.int .i64 0),.d true (.int .i64 0),.d true (.int .i64 0)]⟩
  | 53=>some ⟨(.slice 58),1,24,[.nil]⟩
  | 57=>some ⟨(.struct [(0,44),(7,44)]),14,144,[.d true (.int .i64 0),.d true (.int .i64 0),.nil,.d true (.int .i64 0),.d true (.int .i64 0),.d true (.int .i64 0),.d true (.int .i64 0),.d true (.int .i64 0),.d true (.int .i64 0),.nil,.d true (.int .i64 0),.d true (.int .i64 0),.d true (.int .i64 0),.d true (.int .i64 0)]⟩
  | 58=>some ⟨(.struct [(0,44),(7,44)]),14,144,[.d true (.int .i64 0),.d true (.int .i64 0),.nil,.d true (.int .i64 0),.d true (.int .i64 0),.d true (.int .i64 0),.d true (.int .i64 0),.d true (.int .i64 0),.d true (.int .i64 0),.nil,.d true (.int .i64 0),.d true (.int .i64 0),.d true (.int .i64 0),.d true (.int .i64 0)]⟩
  | 60=>some ⟨(.slice 124),1,24,[.nil]⟩
  | 61=>some ⟨(.struct [(0,60)]),1,24,[.nil]⟩
  | 62=>some ⟨(.struct [(0,60)]),1,24,[.nil]⟩
  | 67=>some ⟨(.struct [(0,3),(1,3),(2,3),(3,3),(4,3)]),5,40,[.d true (.int .i64 0),.d true (.int .i64 0),.d true (.int .i64 0),.d true (.int .i64 0),.d true (.int .i64 0)]⟩
  | 68=>some ⟨(.struct [(0,3),(1,3),(2,3),(3,3),(4,3)]),5,40,[.d true (.int .i64 0),.d true (.int .i64 0),.d true (.int .i64 0),.d true (.int .i64 0),.d true (.int .i64 0)]⟩
  | 69=>some ⟨(.struct [(0,3),(1,3),(2,27),(3,27),(4,24)]),5,88,[.d true (.int .i64 0),.d true (.int .i64 0),.nil,.nil,.nil]⟩
  | 70=>some ⟨(.struct [(0,3),(1,3),(2,27),(3,27),(4,24)]),5,88,[.d true (.int .i64 0),.d true (.int .i64 0),.nil,.nil,.nil]⟩
  | 75=>some ⟨(.slice 4),1,24,[.nil]⟩
  | 78=>some ⟨.scalar,1,8,[.np]⟩
  | 93=>some ⟨(.slice 3),1,24,[.nil]⟩
  | 94=>some ⟨(.struct [(0,3),(1,93)]),2,32,[.d true (.int .i64 0),.nil]⟩
  | 95=>some ⟨(.struct [(0,3),(1,93)]),2,32,[.d true (.int .i64 0),.nil]⟩
  | 102=>some ⟨(.int .u64),1,8,[.d true (.int .u64 0)]⟩
  | 111=>some ⟨.scalar,1,8,[.np]⟩
  | 112=>some ⟨(.struct [(0,62),(1,4)]),2,32,[.nil,.d true (.bool false)]⟩
  | 113=>some ⟨(.struct [(0,62),(1,4)]),2,32,[.nil,.d true (.bool false)]⟩
  | 123=>some ⟨(.struct [(0,3),(1,3),(2,27),(3,27)]),4,64,[.d true (.int .i64 0),.d true (.int .i64 0),.nil,.nil]⟩
  | 124=>some ⟨(.struct [(0,3),(1,3),(2,27),(3,27)]),4,64,[.d true (.int .i64 0),.d true (.int .i64 0),.nil,.nil]⟩
  | 135=>some ⟨(.struct [(0,22),(1,3)]),2,32,[.nil,.d true (.int .i64 0)]⟩
  | 136=>some ⟨(.struct [(0,22),(1,3)]),2,32,[.nil,.d true (.int .i64 0)]⟩
  | 149=>some ⟨(.slice 177),1,24,[.nil]⟩
  | 169=>some ⟨.scalar,1,8,[.np]⟩
  | 176=>some ⟨(.struct [(0,3),(1,3),(2,3),(3,3)]),4,32,[.d true (.int .i64 0),.d true (.int .i64 0),.d true (.int .i64 0),.d true (.int .i64 0)]⟩
  | 177=>some ⟨(.struct [(0,3),(1,3),(2,3),(3,3)]),4,32,[.d true (.int .i64 0),.d true (.int .i64 0),.d true (.int .i64 0),.d true (.int .i64 0)]⟩
  | 201=>some ⟨(.slice 25),1,24,[.nil]⟩
  | 203=>some ⟨(.slice 93),1,24,[.nil]⟩
  | 209=>some ⟨(.int .i64),1,8,[.d true (.int .i64 0)]⟩
  | 216=>some ⟨(.int .u32),1,4,[.d true (.int .u32 0)]⟩
  | 218=>some ⟨(.int .u64),1,8,[.d true (.int .u64 0)]⟩
  | 221=>some ⟨(.int .u64),1,8,[.d true (.int .u64 0)]⟩
  | 225=>some ⟨.scalar,1,8,[.np]⟩
  | 227=>some ⟨.scalar,1,8,[.np]⟩
  | 231=>some ⟨(.struct [(0,17),(1,17),(2,17),(3,9)]),4,40,[.np,.np,.np,.d true (.str ⟨#[]⟩)]⟩
  | 232=>some ⟨(.struct [(0,17),(1,17),(2,17),(3,9)]),4,40,[.np,.np,.np,.d true (.str ⟨#[]⟩)]⟩
  | 237=>some ⟨(.int .u8),1,1,[.d true (.int .u8 0)]⟩
  | 238=>some ⟨(.int .u8),1,1,[.d true (.int .u8 0)]⟩
  | 240=>some ⟨.scalar,1,8,[.np]⟩
  | 241=>some ⟨(.int .i32),1,4,[.d true (.int .i32 0)]⟩
  | 242=>some ⟨(.int .i32),1,4,[.d true (.int .i32 0)]⟩
  | _=>none
theorem ok2:bI Tryz.prog 2 ⟨(.int .i64),1,8,[.d true (.int .i64 0)]⟩:=⟨⟨Tryz.t2,by kernel_rfl,rfl,rfl,_,rfl,fun c w=>aD (by rfl)⟩,Tryz.underlying2,rfl⟩
theorem ok3:bI Tryz.prog 3 ⟨(.int .i64),1,8,[.d true (.int .i64 0)]⟩:=⟨⟨Tryz.t3,by kernel_rfl,rfl,rfl,_,rfl,fun c w=>aD (by rfl)⟩,Tryz.underlying3,rfl⟩
theorem ok4:bI Tryz.prog 4 ⟨.bool,1,1,[.d true (.bool false)]⟩:=⟨⟨Tryz.t4,by kernel_rfl,rfl,rfl,_,rfl,fun c w=>aD (by rfl)⟩,Tryz.underlying4,rfl⟩
theorem ok5:bI Tryz.prog 5 ⟨(.int .u8),1,1,[.d true (.int .u8 0)]⟩:=⟨⟨Tryz.t5,by kernel_rfl,rfl,rfl,_,rfl,fun c w=>aD (by rfl)⟩,Tryz.underlying5,rfl⟩
theorem ok6:bI Tryz.prog 6 ⟨(.int .u8),1,1,[.d true (.int .u8 0)]⟩:=⟨⟨Tryz.t6,by kernel_rfl,rfl,rfl,_,rfl,fun c w=>aD (by rfl)⟩,Tryz.underlying6,rfl⟩
theorem ok7:bI Tryz.prog 7 ⟨(.struct [(0,2),(1,3),(2,4),(3,6)]),4,24,[.d true (.int .i64 0),.d true (.int .i64 0),.d true (.bool false),.d true (.int .u8 0)]⟩:=⟨⟨Tryz.t7,by kernel_rfl,rfl,rfl,_,rfl,fun c w=>aD (by rfl)⟩,⟨_,Tryz.underlying7,by rfl⟩,rfl⟩
theorem ok8:bI Tryz.prog 8 ⟨(.struct [(0,2),(1,3),(2,4),(3,6)]),4,24,[.d true (.int .i64 0),.d true (.int .i64 0),.d true (.bool false),.d true (.int .u8 0)]⟩:=⟨⟨Tryz.t8,by kernel_rfl,rfl,rfl,_,rfl,fun c w=>aD (by rfl)⟩,⟨_,Tryz.underlying8,by rfl⟩,rfl⟩
theorem ok9:bI Tryz.prog 9 ⟨.scalar,1,16,[.d true (.str ⟨#[]⟩)]⟩:=⟨⟨Tryz.t9,by kernel_rfl,rfl,rfl,_,rfl,fun c w=>aD (by rfl)⟩,⟨_,Tryz.underlying9,(fun _ h=>by cases h),(fun _ _ h=>by cases h)⟩,rfl⟩
theorem apF:bI Tryz.prog 10 ⟨.scalar,1,16,[.d true (.str ⟨#[]⟩)]⟩:=⟨⟨Tryz.t10,by kernel_rfl,rfl,rfl,_,rfl,fun c w=>aD (by rfl)⟩,⟨_,Tryz.underlying10,(fun _ h=>by cases h),(fun _ _ h=>by cases h)⟩,rfl⟩
theorem apG:bI Tryz.prog 11 ⟨.scalar,1,16,[.d true (.str ⟨#[]⟩)]⟩:=⟨⟨Tryz.t11,by kernel_rfl,rfl,rfl,_,rfl,fun c w=>aD (by rfl)⟩,⟨_,Tryz.underlying11,(fun _ h=>by cases h),(fun _ _ h=>by cases h)⟩,rfl⟩
theorem apH:bI Tryz.prog 12 ⟨(.int .u64),1,8,[.d true (.int .u64 0)]⟩:=⟨⟨Tryz.t12,by kernel_rfl,rfl,rfl,_,rfl,fun c w=>aD (by rfl)⟩,Tryz.underlying12,rfl⟩
theorem apI:bI Tryz.prog 13 ⟨(.struct [(0,9),(1,12)]),2,24,[.d true (.str ⟨#[]⟩),.d true (.int .u64 0)]⟩:=⟨⟨Tryz.t13,by kernel_rfl,rfl,rfl,_,rfl,fun c w=>aD (by rfl)⟩,⟨_,Tryz.underlying13,by rfl⟩,rfl⟩
theorem apJ:bI Tryz.prog 14 ⟨(.struct [(0,9),(1,12)]),2,24,[.d true (.str ⟨#[]⟩),.d true (.int .u64 0)]⟩:=⟨⟨Tryz.t14,by kernel_rfl,rfl,rfl,_,rfl,fun c w=>aD (by rfl)⟩,⟨_,Tryz.underlying14,by rfl⟩,rfl⟩
theorem apK:bI Tryz.prog 15 ⟨.scalar,1,8,[.np]⟩:=⟨⟨Tryz.t15,by kernel_rfl,rfl,rfl,_,rfl,fun c w=>aD (by rfl)⟩,⟨_,Tryz.underlying15,(fun _ h=>by cases h),(fun _ _ h=>by cases h)⟩,rfl⟩
theorem ok16:bI Tryz.prog 16 ⟨.scalar,1,8,[.np]⟩:=⟨⟨Tryz.t16,by kernel_rfl,rfl,rfl,_,rfl,fun c w=>aD (by rfl)⟩,⟨_,Tryz.underlying16,(fun _ h=>by cases h),(fun _ _ h=>by cases h)⟩,rfl⟩
theorem apL:bI Tryz.prog 17 ⟨.scalar,1,8,[.np]⟩:=⟨⟨Tryz.t17,by kernel_rfl,rfl,rfl,_,rfl,fun c w=>aD (by rfl)⟩,⟨_,Tryz.underlying17,(fun _ h=>by cases h),(fun _ _ h=>by cases h)⟩,rfl⟩
theorem apM:bI Tryz.prog 18 ⟨(.struct [(0,17)]),1,8,[.np]⟩:=⟨⟨Tryz.t18,by kernel_rfl,rfl,rfl,_,rfl,fun c w=>aD (by rfl)⟩,⟨_,Tryz.underlying18,by rfl⟩,rfl⟩
theorem apN:bI Tryz.prog 19 ⟨(.struct [(0,17)]),1,8,[.np]⟩:=⟨⟨Tryz.t19,by kernel_rfl,rfl,rfl,_,rfl,fun c w=>aD (by rfl)⟩,⟨_,Tryz.underlying19,by rfl⟩,rfl⟩
theorem apO:bI Tryz.prog 21 ⟨(.int .i32),1,4,[.d true (.int .i32 0)]⟩:=⟨⟨Tryz.t21,by kernel_rfl,rfl,rfl,_,rfl,fun c w=>aD (by rfl)⟩,Tryz.underlying21,rfl⟩
theorem apP:bI Tryz.prog 22 ⟨(.slice 5),1,24,[.nil]⟩:=⟨⟨Tryz.t22,by kernel_rfl,rfl,rfl,_,rfl,fun c w=>aD (by rfl)⟩,Tryz.underlying22,rfl⟩
theorem apQ:bI Tryz.prog 23 ⟨(.slice 70),1,24,[.nil]⟩:=⟨⟨Tryz.t23,by kernel_rfl,rfl,rfl,_,rfl,fun c w=>aD (by rfl)⟩,Tryz.underlying23,rfl⟩
theorem apR:bI Tryz.prog 24 ⟨(.slice 27),1,24,[.nil]⟩:=⟨⟨Tryz.t24,by kernel_rfl,rfl,rfl,_,rfl,fun c w=>aD (by rfl)⟩,Tryz.underlying24,rfl⟩
theorem apS:bI Tryz.prog 25 ⟨(.slice 95),1,24,[.nil]⟩:=⟨⟨Tryz.t25,by kernel_rfl,rfl,rfl,_,rfl,fun c w=>aD (by rfl)⟩,Tryz.underlying25,rfl⟩
theorem apT:bI Tryz.prog 26 ⟨(.struct [(0,25)]),1,24,[.nil]⟩:=⟨⟨Tryz.t26,by kernel_rfl,rfl,rfl,_,rfl,fun c w=>aD (by rfl)⟩,⟨_,Tryz.underlying26,by rfl⟩,rfl⟩
theorem apU:bI Tryz.prog 27 ⟨(.struct [(0,25)]),1,24,[.nil]⟩:=⟨⟨Tryz.t27,by kernel_rfl,rfl,rfl,_,rfl,fun c w=>aD (by rfl)⟩,⟨_,Tryz.underlying27,by rfl⟩,rfl⟩
theorem apV:bI Tryz.prog 28 ⟨(.struct [(0,23),(1,24),(2,3),(3,27),(4,27),(5,3)]),6,112,[.nil,.nil,.d true (.int .i64 0),.nil,.nil,.d true (.int .i64 0)]⟩:=⟨⟨Tryz.t28,by kernel_rfl,rfl,rfl,_,rfl,fun c w=>aD (by rfl)⟩,⟨_,Tryz.underlying28,by rfl⟩,rfl⟩
theorem apW:bI Tryz.prog 29 ⟨(.struct [(0,23),(1,24),(2,3),(3,27),(4,27),(5,3)]),6,112,[.nil,.nil,.d true (.int .i64 0),.nil,.nil,.d true (.int .i64 0)]⟩:=⟨⟨Tryz.t29,by kernel_rfl,rfl,rfl,_,rfl,fun c w=>aD (by rfl)⟩,⟨_,Tryz.underlying29,by rfl⟩,rfl⟩
theorem apX:bI Tryz.prog 42 ⟨(.slice 68),1,24,[.nil]⟩:=⟨⟨Tryz.t42,by kernel_rfl,rfl,rfl,_,rfl,fun c w=>aD (by rfl)⟩,Tryz.underlying42,rfl⟩
theorem apY:bI Tryz.prog 43 ⟨(.struct [(0,3),(1,3),(2,42),(3,3),(4,3),(5,3),(6,3)]),7,72,[.d true (.int .i64 0),.d true (.int .i64 0),.nil,.d true (.int .i64 0),.d true (.int .i64 0),.d true (.int .i64 0),.d true (.int .i64 0)]⟩:=⟨⟨Tryz.t43,by kernel_rfl,rfl,rfl,_,rfl,fun c w=>aD (by rfl)⟩,⟨_,Tryz.underlying43,by rfl⟩,rfl⟩
theorem apZ:bI Tryz.prog 44 ⟨(.struct [(0,3),(1,3),(2,42),(3,3),(4,3),(5,3),(6,3)]),7,72,[.d true (.int .i64 0),.d true (.int .i64 0),.nil,.d true (.int .i64 0),.d true (.int .i64 0),.d true (.int .i64 0),.d true (.int .i64 0)]⟩:=⟨⟨Tryz.t44,by kernel_rfl,rfl,rfl,_,rfl,fun c w=>aD (by rfl)⟩,⟨_,Tryz.underlying44,by rfl⟩,rfl⟩
theorem ap0:bI Tryz.prog 53 ⟨(.slice 58),1,24,[.nil]⟩:=⟨⟨Tryz.t53,by kernel_rfl,rfl,rfl,_,rfl,fun c w=>aD (by rfl)⟩,Tryz.underlying53,rfl⟩
theorem ap1:bI Tryz.prog 57 ⟨(.struct [(0,44),(7,44)]),14,144,[.d true (.int .i64 0),.d true (.int .i64 0),.nil,.d true (.int .i64 0),.d true (.int .i64 0),.d true (.int .i64 0),.d true (.int .i64 0),.d true (.int .i64 0),.d true (.int .i64 0),.nil,.d true (.int .i64 0),.d true (.int .i64 0),.d true (.int .i64 0),.d true (.int .i64 0)]⟩:=⟨⟨Tryz.t57,by kernel_rfl,rfl,rfl,_,rfl,fun c w=>aD (by rfl)⟩,⟨_,Tryz.underlying57,by rfl⟩,rfl⟩
theorem ap2:bI Tryz.prog 58 ⟨(.struct [(0,44),(7,44)]),14,144,[.d true (.int .i64 0),.d true (.int .i64 0),.nil,.d true (.int .i64 0),.d true (.int .i64 0),.d true (.int .i64 0),.d true (.int .i64 0),.d true (.int .i64 0),.d true (.int .i64 0),.nil,.d true (.int .i64 0),.d true (.int .i64 0),.d true (.int .i64 0),.d true (.int .i64 0)]⟩:=⟨⟨Tryz.t58,by kernel_rfl,rfl,rfl,_,rfl,fun c w=>aD (by rfl)⟩,⟨_,Tryz.underlying58,by rfl⟩,rfl⟩
theorem ap3:bI Tryz.prog 60 ⟨(.slice 124),1,24,[.nil]⟩:=⟨⟨Tryz.t60,by kernel_rfl,rfl,rfl,_,rfl,fun c w=>aD (by rfl)⟩,Tryz.underlying60,rfl⟩
theorem ap4:bI Tryz.prog 61 ⟨(.struct [(0,60)]),1,24,[.nil]⟩:=⟨⟨Tryz.t61,by kernel_rfl,rfl,rfl,_,rfl,fun c w=>aD (by rfl)⟩,⟨_,Tryz.underlying61,by rfl⟩,rfl⟩
theorem ap5:bI Tryz.prog 62 ⟨(.struct [(0,60)]),1,24,[.nil]⟩:=⟨⟨Tryz.t62,by kernel_rfl,rfl,rfl,_,rfl,fun c w=>aD (by rfl)⟩,⟨_,Tryz.underlying62,by rfl⟩,rfl⟩
theorem ap6:bI Tryz.prog 67 ⟨(.struct [(0,3),(1,3),(2,3),(3,3),(4,3)]),5,40,[.d true (.int .i64 0),.d true (.int .i64 0),.d true (.int .i64 0),.d true (.int .i64 0),.d true (.int .i64 0)]⟩:=⟨⟨Tryz.t67,by kernel_rfl,rfl,rfl,_,rfl,fun c w=>aD (by rfl)⟩,⟨_,Tryz.underlying67,by rfl⟩,rfl⟩
theorem ap7:bI Tryz.prog 68 ⟨(.struct [(0,3),(1,3),(2,3),(3,3),(4,3)]),5,40,[.d true (.int .i64 0),.d true (.int .i64 0),.d true (.int .i64 0),.d true (.int .i64 0),.d true (.int .i64 0)]⟩:=⟨⟨Tryz.t68,by kernel_rfl,rfl,rfl,_,rfl,fun c w=>aD (by rfl)⟩,⟨_,Tryz.underlying68,by rfl⟩,rfl⟩
theorem ap8:bI Tryz.prog 69 ⟨(.struct [(0,3),(1,3),(2,27),(3,27),(4,24)]),5,88,[.d true (.int .i64 0),.d true (.int .i64 0),.nil,.nil,.nil]⟩:=⟨⟨Tryz.t69,by kernel_rfl,rfl,rfl,_,rfl,fun c w=>aD (by rfl)⟩,⟨_,Tryz.underlying69,by rfl⟩,rfl⟩
theorem ap9:bI Tryz.prog 70 ⟨(.struct [(0,3),(1,3),(2,27),(3,27),(4,24)]),5,88,[.d true (.int .i64 0),.d true (.int .i64 0),.nil,.nil,.nil]⟩:=⟨⟨Tryz.t70,by kernel_rfl,rfl,rfl,_,rfl,fun c w=>aD (by rfl)⟩,⟨_,Tryz.underlying70,by rfl⟩,rfl⟩
theorem aqa:bI Tryz.prog 75 ⟨(.slice 4),1,24,[.nil]⟩:=⟨⟨Tryz.t75,by kernel_rfl,rfl,rfl,_,rfl,fun c w=>aD (by rfl)⟩,Tryz.underlying75,rfl⟩
theorem aqb:bI Tryz.prog 78 ⟨.scalar,1,8,[.np]⟩:=⟨⟨Tryz.t78,by kernel_rfl,rfl,rfl,_,rfl,fun c w=>aD (by rfl)⟩,⟨_,Tryz.underlying78,(fun _ h=>by cases h),(fun _ _ h=>by cases h)⟩,rfl⟩
theorem aqc:bI Tryz.prog 93 ⟨(.slice 3),1,24,[.nil]⟩:=⟨⟨Tryz.t93,by kernel_rfl,rfl,rfl,_,rfl,fun c w=>aD (by rfl)⟩,Tryz.underlying93,rfl⟩
theorem aqd:bI Tryz.prog 94 ⟨(.struct [(0,3),(1,93)]),2,32,[.d true (.int .i64 0),.nil]⟩:=⟨⟨Tryz.t94,by kernel_rfl,rfl,rfl,_,rfl,fun c w=>aD (by rfl)⟩,⟨_,Tryz.underlying94,by rfl⟩,rfl⟩
theorem aqe:bI Tryz.prog 95 ⟨(.struct [(0,3),(1,93)]),2,32,[.d true (.int .i64 0),.nil]⟩:=⟨⟨Tryz.t95,by kernel_rfl,rfl,rfl,_,rfl,fun c w=>aD (by rfl)⟩,⟨_,Tryz.underlying95,by rfl⟩,rfl⟩
theorem ak6:bI Tryz.prog 102 ⟨(.int .u64),1,8,[.d true (.int .u64 0)]⟩:=⟨⟨Tryz.t102,by kernel_rfl,rfl,rfl,_,rfl,fun c w=>aD (by rfl)⟩,Tryz.underlying102,rfl⟩
theorem ak7:bI Tryz.prog 111 ⟨.scalar,1,8,[.np]⟩:=⟨⟨Tryz.t111,by kernel_rfl,rfl,rfl,_,rfl,fun c w=>aD (by rfl)⟩,⟨_,Tryz.underlying111,(fun _ h=>by cases h),(fun _ _ h=>by cases h)⟩,rfl⟩
theorem ak8:bI Tryz.prog 112 ⟨(.struct [(0,62),(1,4)]),2,32,[.nil,.d true (.bool false)]⟩:=⟨⟨Tryz.t112,by kernel_rfl,rfl,rfl,_,rfl,fun c w=>aD (by rfl)⟩,⟨_,Tryz.underlying112,by rfl⟩,rfl⟩
theorem ak9:bI Tryz.prog 113 ⟨(.struct [(0,62),(1,4)]),2,32,[.nil,.d true (.bool false)]⟩:=⟨⟨Tryz.t113,by kernel_rfl,rfl,rfl,_,rfl,fun c w=>aD (by rfl)⟩,⟨_,Tryz.underlying113,by rfl⟩,rfl⟩
theorem ala:bI Tryz.prog 123 ⟨(.struct [(0,3),(1,3),(2,27),(3,27)]),4,64,[.d true (.int .i64 0),.d true (.int .i64 0),.nil,.nil]⟩:=⟨⟨Tryz.t123,by kernel_rfl,rfl,rfl,_,rfl,fun c w=>aD (by rfl)⟩,⟨_,Tryz.underlying123,by rfl⟩,rfl⟩
theorem alb:bI Tryz.prog 124 ⟨(.struct [(0,3),(1,3),(2,27),(3,27)]),4,64,[.d true (.int .i64 0),.d true (.int .i64 0),.nil,.nil]⟩:=⟨⟨Tryz.t124,by kernel_rfl,rfl,rfl,_,rfl,fun c w=>aD (by rfl)⟩,⟨_,Tryz.underlying124,by rfl⟩,rfl⟩
theorem alc:bI Tryz.prog 135 ⟨(.struct [(0,22),(1,3)]),2,32,[.nil,.d true (.int .i64 0)]⟩:=⟨⟨Tryz.t135,by kernel_rfl,rfl,rfl,_,rfl,fun c w=>aD (by rfl)⟩,⟨_,Tryz.underlying135,by rfl⟩,rfl⟩
theorem ald:bI Tryz.prog 136 ⟨(.struct [(0,22),(1,3)]),2,32,[.nil,.d true (.int .i64 0)]⟩:=⟨⟨Tryz.t136,by kernel_rfl,rfl,rfl,_,rfl,fun c w=>aD (by rfl)⟩,⟨_,Tryz.underlying136,by rfl⟩,rfl⟩
theorem ale:bI Tryz.prog 149 ⟨(.slice 177),1,24,[.nil]⟩:=⟨⟨Tryz.t149,by kernel_rfl,rfl,rfl,_,rfl,fun c w=>aD (by rfl)⟩,Tryz.underlying149,rfl⟩
theorem alf:bI Tryz.prog 169 ⟨.scalar,1,8,[.np]⟩:=⟨⟨Tryz.t169,by kernel_rfl,rfl,rfl,_,rfl,fun c w=>aD (by rfl)⟩,⟨_,Tryz.underlying169,(fun _ h=>by cases h),(fun _ _ h=>by cases h)⟩,rfl⟩
theorem alg:bI Tryz.prog 176 ⟨(.struct [(0,3),(1,3),(2,3),(3,3)]),4,32,[.d true (.int .i64 0),.d true (.int .i64 0),.d true (.int .i64 0),.d true (.int .i64 0)]⟩:=⟨⟨Tryz.t176,by kernel_rfl,rfl,rfl,_,rfl,fun c w=>aD (by rfl)⟩,⟨_,Tryz.underlying176,by rfl⟩,rfl⟩
theorem alh:bI Tryz.prog 177 ⟨(.struct [(0,3),(1,3),(2,3),(3,3)]),4,32,[.d true (.int .i64 0),.d true (.int .i64 0),.d true (.int .i64 0),.d true (.int .i64 0)]⟩:=⟨⟨Tryz.t177,by kernel_rfl,rfl,rfl,_,rfl,fun c w=>aD (by rfl)⟩,⟨_,Tryz.underlying177,by rfl⟩,rfl⟩
theorem ali:bI Tryz.prog 201 ⟨(.slice 25),1,24,[.nil]⟩:=⟨⟨Tryz.t201,by kernel_rfl,rfl,rfl,_,rfl,fun c w=>aD (by rfl)⟩,Tryz.underlying201,rfl⟩
theorem alj:bI Tryz.prog 203 ⟨(.slice 93),1,24,[.nil]⟩:=⟨⟨Tryz.t203,by kernel_rfl,rfl,rfl,_,rfl,fun c w=>aD (by rfl)⟩,Tryz.underlying203,rfl⟩
theorem alk:bI Tryz.prog 209 ⟨(.int .i64),1,8,[.d true (.int .i64 0)]⟩:=⟨⟨Tryz.t209,by kernel_rfl,rfl,rfl,_,rfl,fun c w=>aD (by rfl)⟩,Tryz.underlying209,rfl⟩
theorem alm:bI Tryz.prog 216 ⟨(.int .u32),1,4,[.d true (.int .u32 0)]⟩:=⟨⟨Tryz.t216,by kernel_rfl,rfl,rfl,_,rfl,fun c w=>aD (by rfl)⟩,Tryz.underlying216,rfl⟩
theorem aln:bI Tryz.prog 218 ⟨(.int .u64),1,8,[.d true (.int .u64 0)]⟩:=⟨⟨Tryz.t218,by kernel_rfl,rfl,rfl,_,rfl,fun c w=>aD (by rfl)⟩,Tryz.underlying218,rfl⟩
theorem alo:bI Tryz.prog 221 ⟨(.int .u64),1,8,[.d true (.int .u64 0)]⟩:=⟨⟨Tryz.t221,by kernel_rfl,rfl,rfl,_,rfl,fun c w=>aD (by rfl)⟩,Tryz.underlying221,rfl⟩
theorem alp:bI Tryz.prog 225 ⟨.scalar,1,8,[.np]⟩:=⟨⟨Tryz.t225,by kernel_rfl,rfl,rfl,_,rfl,fun c w=>aD (by rfl)⟩,⟨_,Tryz.underlying225,(fun _ h=>by cases h),(fun _ _ h=>by cases h)⟩,rfl⟩
theorem alq:bI Tryz.prog 227 ⟨.scalar,1,8,[.np]⟩:=⟨⟨Tryz.t227,by kernel_rfl,rfl,rfl,_,rfl,fun c w=>aD (by rfl)⟩,⟨_,Tryz.underlying227,(fun _ h=>by cases h),(fun _ _ h=>by cases h)⟩,rfl⟩
theorem alr:bI Tryz.prog 231 ⟨(.struct [(0,17),(1,17),(2,17),(3,9)]),4,40,[.np,.np,.np,.d true (.str ⟨#[]⟩)]⟩:=⟨⟨Tryz.t231,by kernel_rfl,rfl,rfl,_,rfl,fun c w=>aD (by rfl)⟩,⟨_,Tryz.underlying231,by rfl⟩,rfl⟩
theorem als:bI Tryz.prog 232 ⟨(.struct [(0,17),(1,17),(2,17),(3,9)]),4,40,[.np,.np,.np,.d true (.str ⟨#[]⟩)]⟩:=⟨⟨Tryz.t232,by kernel_rfl,rfl,rfl,_,rfl,fun c w=>aD (by rfl)⟩,⟨_,Tryz.underlying232,by rfl⟩,rfl⟩
theorem alu:bI Tryz.prog 237 ⟨(.int .u8),1,1,[.d true (.int .u8 0)]⟩:=⟨⟨Tryz.t237,by kernel_rfl,rfl,rfl,_,rfl,fun c w=>aD (by rfl)⟩,Tryz.underlying237,rfl⟩
theorem alv:bI Tryz.prog 238 ⟨(.int .u8),1,1,[.d true (.int .u8 0)]⟩:=⟨⟨Tryz.t238,by kernel_rfl,rfl,rfl,_,rfl,fun c w=>aD (by rfl)⟩,Tryz.underlying238,rfl⟩
theorem alx:bI Tryz.prog 240 ⟨.scalar,1,8,[.np]⟩:=⟨⟨Tryz.t240,by kernel_rfl,rfl,rfl,_,rfl,fun c w=>aD (by rfl)⟩,⟨_,Tryz.underlying240,(fun _ h=>by cases h),(fun _ _ h=>by cases h)⟩,rfl⟩
theorem aly:bI Tryz.prog 241 ⟨(.int .i32),1,4,[.d true (.int .i32 0)]⟩:=⟨⟨Tryz.t241,by kernel_rfl,rfl,rfl,_,rfl,fun c w=>aD (by rfl)⟩,Tryz.underlying241,rfl⟩
theorem alz:bI Tryz.prog 242 ⟨(.int .i32),1,4,[.d true (.int .i32 0)]⟩:=⟨⟨Tryz.t242,by kernel_rfl,rfl,rfl,_,rfl,fun c w=>aD (by rfl)⟩,Tryz.underlying242,rfl⟩
theorem aqf:∀t y,ty t=some y→bI Tryz.prog t y:=by
  intro t y h
  unfold ty at h
  split at h<;>first | (cases h;done) | skip
  · cases h;exact ok2
  · cases h;exact ok3
  · cases h;exact ok4
  · cases h;exact ok5
  · cases h;exact ok6
  · cases h;exact ok7
  · cases h;exact ok8
  · cases h;exact ok9
  · cases h;exact apF
  · cases h;exact apG
  · cases h;exact apH
  · cases h;exact apI
  · cases h;exact apJ
  · cases h;exact apK
  · cases h;exact ok16
  · cases h;exact apL
  · cases h;exact apM
  · cases h;exact apN
  · cases h;exact apO
  · cases h;exact apP
  · cases h;exact apQ
  · cases h;exact apR
  · cases h;exact apS
  · cases h;exact apT
  · cases h;exact apU
  · cases h;exact apV
  · cases h;exact apW
  · cases h;exact apX
  · cases h;exact apY
  · cases h;exact apZ
  · cases h;exact ap0
  · cases h;exact ap1
  · cases h;exact ap2
  · cases h;exact ap3
  · cases h;exact ap4
  · cases h;exact ap5
  · cases h;exact ap6
  · cases h;exact ap7
  · cases h;exact ap8
  · cases h;exact ap9
  · cases h;exact aqa
  · cases h;exact aqb
  · cases h;exact aqc
  · cases h;exact aqd
  · cases h;exact aqe
  · cases h;exact ak6
  · cases h;exact ak7
  · cases h;exact ak8
  · cases h;exact ak9
  · cases h;exact ala
  · cases h;exact alb
  · cases h;exact alc
  · cases h;exact ald
  · cases h;exact ale
  · cases h;exact alf
  · cases h;exact alg
  · cases h;exact alh
  · cases h;exact ali
  · cases h;exact alj
  · cases h;exact alk
  · cases h;exact alm
  · cases h;exact aln
  · cases h;exact alo
  · cases h;exact alp
  · cases h;exact alq
  · cases h;exact alr
  · cases h;exact als
  · cases h;exact alu
  · cases h;exact alv
  · cases h;exact alx
  · cases h;exact aly
  · cases h;exact alz
def co:TypeId→Option Co
  | 3=>some .i64
  | 4=>some .bool
  | 5=>some .u8
  | 9=>some .str
  | 25=>some .poly
  | 27=>some .poly
  | 29=>some .sym
  | 44=>some .blk
  | 58=>some .cer
  | 62=>some .tab
  | 68=>some .iop
  | 70=>some .ev
  | 93=>some .ints
  | 95=>some .mono
  | 124=>some .atom
  | 177=>some .ins
  | _=>none
def ieq:TypeId→Option Co
  | 68=>some .iop
  | 177=>some .ins
  | _=>none
def X:XT:={ty:=ty,co:=co,glob:=fun g=>none,ieq:=ieq}
noncomputable def E:Tab:={P:=Tryz.prog,ty:=ty,glob:=fun g=>none,ieq:=fun t=>(ieq t).map fun c=>c.size}
end Go.TX.Seat
namespace Go.TX.Seat
open Go Go.AE Go.TX Go.TX.F Go.Proofs
set_option maxRecDepth 100000
theorem afl (A:Alg): @Ru aF.z X E A [] (.seq .u (.seq (.seq .u (.cut ⟨[(0,.c (.rows true .u8))],[]⟩ (.cond .u .u))) .u)) Dz Tryz.f59 [] (Pv A):=fun _=>by kernel_rfl
theorem afm (A:Alg): @Ru aF.z X E A [(7,[(0,([0],[])),(1,([47],[])),(2,([48],[])),(3,([49],[])),(4,([5],[])),(5,([0],[])),(6,([52],[])),(7,([53],[])),(8,([54],[])),(9,([55],[])),(10,([51,56],[])),(11,([50,57],[])),(12,([58],[])),(13,([59],[])),(14,([60],[])),(15,([0],[])),(16,([62],[])),(17,([63],[])),(18,([64],[])),(19,([5],[])),(20,([66],[])),(21,([67],[])),(22,([0],[])),(23,([69],[])),(24,([70],[])),(25,([71],[])),(26,([72],[])),(27,([68,73],[])),(28,([65,74],[])),(29,([75],[])),(30,([76],[])),(31,([77],[])),(32,([61,78],[])),(33,([5],[])),(34,([80],[])),(35,([79,81],[])),(36,([5],[])),(37,([0],[])),(38,([84],[])),(39,([85],[])),(40,([86],[])),(41,([87],[])),(42,([83,88],[])),(43,([89],[])),(44,([82,90],[])),(45,([91],[]))])] .u fH Tryz.f61 [] (Pw A):=fun _=>by kernel_rfl
theorem afn (A:Alg): @Ru aF.z X E A [] .u fJ Tryz.f89 [] (Px A):=fun _=>by kernel_rfl
theorem afo (A:Alg) (bN:Ct A.ah fH): @Ru aF.z X E A [] .u DC Tryz.f158 [(61,⟨_,bN⟩)] (Py A bN.pre bN.fn):=fun _=>by kernel_rfl
theorem afp (A:Alg): @Ru aF.z X E A [] (.seq .u (.seq .u (.seq (.seq .u (.cut ⟨[(3,.c (.int .i64))],[]⟩ (.cond .u .u))) .u))) DF Tryz.f170 [] (Pz A):=fun _=>by kernel_rfl
theorem afq (A:Alg): @Ru aF.z X E A [] .u mI Tryz.f156 [] (PD A):=fun _=>by kernel_rfl
theorem afr (A:Alg) (bO:Ct A.ah fJ): @Ru aF.z X E A [] .u DJ Tryz.f192 [(89,⟨_,bO⟩)] (PE A bO.pre bO.fn):=fun _=>by kernel_rfl
theorem afs (A:Alg) (Fb:Ct A.ah DJ): @Ru aF.z X E A [] .u tK Tryz.f157 [(192,⟨_,Fb⟩)] (PG A Fb.pre Fb.fn):=fun _=>by kernel_rfl
theorem aft (A:Alg) (jc:Ct A.ah mI) (bO:Ct A.ah fJ) (oQ:Ct A.ah tK): @Ru aF.z X E A [] (.seq .u (.seq .u (.seq (.seq .u (.block (.seq .u (.cond .u (.seq .u (.cond .u (.seq .u (.cond .u (.seq (.seq .u (.cut ⟨[(0,.c (.rows false .iop)),(1,.c (.int .i64)),(2,.c (.int .i64)),(7,.c (.pb 0 5 0)),(13,.c (.int .i64)),(78,.c (.bool))],[.box (.sv false .iop)]⟩ (.cond .u .u))) .u))))))))) .u))) DK Tryz.f90 [(156,⟨_,jc⟩),(89,⟨_,bO⟩),(157,⟨_,oQ⟩)] (PI A jc.pre jc.fn bO.pre bO.fn oQ.pre oQ.fn):=fun _=>by kernel_rfl
theorem afu (A:Alg) (jc:Ct A.ah mI) (oQ:Ct A.ah tK): @Ru aF.z X E A [] (.seq .u (.seq .u (.seq (.seq .u (.block (.seq .u (.cond .u (.seq .u (.cond .u (.seq (.seq .u (.cut ⟨[(1,.c (.pb 0 7 0)),(3,.c (.int .i64)),(42,.c (.bool))],[.box (.sv false .blk)]⟩ (.cond .u .u))) .u))))))) .u))) DL Tryz.f91 [(156,⟨_,jc⟩),(157,⟨_,oQ⟩)] (PK A jc.pre jc.fn oQ.pre oQ.fn):=fun _=>by kernel_rfl
theorem afv (A:Alg) (bO:Ct A.ah fJ) (Fe:Ct A.ah DL) (Fg:Ct A.ah DK): @Ru aF.z X E A [] (.seq .u (.seq .u (.seq (.seq .u (.block (.loop ⟨[(1,.c (.pb 0 7 0)),(3,.c (.int .i64))],[.box (.sv false .blk)]⟩ .u))) .u))) gJ Tryz.f30 [(89,⟨_,bO⟩),(91,⟨_,Fe⟩),(90,⟨_,Fg⟩)] (PL A bO.pre bO.fn Fe.pre Fe.fn Fg.pre Fg.fn):=fun _=>by kernel_rfl
theorem afw (A:Alg) (Fh:Ct A.ah DF) (jc:Ct A.ah mI): @Ru aF.z X E A [] .u DN Tryz.f115 [(170,⟨_,Fh⟩),(156,⟨_,jc⟩)] (PN A Fh.pre Fh.fn jc.pre jc.fn):=fun _=>by kernel_rfl
theorem afx (A:Alg): @Ru aF.z X E A [] .u mJ Tryz.f113 [] (PU A):=fun _=>by kernel_rfl
theorem afy (A:Alg) (bO:Ct A.ah fJ): @Ru aF.z X E A [] (.seq .u (.seq .u (.seq (.seq .u (.cut ⟨[(1,.c (.rows false .i64)),(2,.c (.pb 0 5 0)),(4,.c (.pb 1 5 0)),(5,.c (.pb 2 5 0))],[.box (.sv false .iop),.box (.agg [.int .i64,.int .i64,.int .i64,.int .i64,.int .i64]),.box (.sv true .iop)]⟩ (.cond .u .u))) (.seq (.seq .u (.cut ⟨[(4,.c (.pb 0 5 0)),(5,.c (.pb 1 5 0))],[.box (.agg [.int .i64,.int .i64,.int .i64,.int .i64,.int .i64]),.box (.sv true .iop)]⟩ (.cond .u .u))) .u)))) tL Tryz.f125 [(89,⟨_,bO⟩)] (PW A bO.pre bO.fn):=fun _=>by kernel_rfl
theorem afz (A:Alg) (dx:Ct A.ah gJ) (oU:Ct A.ah tL) (jd:Ct A.ah mJ): @Ru aF.z X E A [] (.seq .u (.seq .u (.seq .u (.seq .u (.seq .u (.seq (.seq .u (.block (.loop ⟨[(2,.c (.pb 0 7 0)),(3,.c (.pb 1 7 0)),(4,.c (.own 2)),(5,.c (.own 3)),(6,.c (.int .i64))],[.box (.agg [.int .i64,.int .i64,.nil,.int .i64,.int .i64,.int .i64,.int .i64]),.box (.agg [.int .i64,.int .i64,.own 4,.int .i64,.int .i64,.int .i64,.int .i64]),.rows true .i64,.rows true .i64,.rows true .iop]⟩ (.seq .u (.seq (.block (.seq .u (.seq .u (.seq .u (.seq (.seq .u (.cut ⟨[(2,.c (.pb 0 7 0)),(3,.c (.pb 1 7 0)),(4,.c (.own 2)),(5,.c (.own 3)),(6,.c (.int .i64)),(7,.c (.pb 4 5 0)),(8,.c (.int .i64))],[.box (.agg [.int .i64,.int .i64,.nil,.int .i64,.int .i64,.int .i64,.int .i64]),.box (.agg [.int .i64,.int .i64,.own 5,.int .i64,.int .i64,.int .i64,.int .i64]),.rows true .i64,.rows true .i64,.box (.sv true .iop),.rows true .iop]⟩ (.cond .u .u))) (.seq (.seq .u (.cut ⟨[(2,.c (.pb 0 7 0)),(3,.c (.pb 1 7 0)),(4,.c (.own 2)),(5,.c (.own 3)),(6,.c (.int .i64)),(7,.c (.pb 4 5 0)),(8,.c (.int .i64))],[.box (.agg [.int .i64,.int .i64,.nil,.int .i64,.int .i64,.int .i64,.int .i64]),.box (.agg [.int .i64,.int .i64,.own 5,.int .i64,.int .i64,.int .i64,.int .i64]),.rows true .i64,.rows true .i64,.box (.sv true .iop),.rows true .iop]⟩ (.cond .u .u))) (.seq (.seq .u (.cut ⟨[(2,.c (.pb 0 7 0)),(3,.c (.pb 1 7 0)),(4,.c (.own 2)),(5,.c (.own 3)),(6,.c (.int .i64)),(8,.c (.int .i64))],[.box (.agg [.int .i64,.int .i64,.nil,.int .i64,.int .i64,.int .i64,.int .i64]),.box (.agg [.int .i64,.int .i64,.own 4,.int .i64,.int .i64,.int .i64,.int .i64]),.rows true .i64,.rows true .i64,.rows true .iop]⟩ (.cond .u .u))) .u))))))) .u))))) (.seq (.seq .u (.cut ⟨[(2,.c (.pb 0 7 0)),(3,.c (.pb 1 7 0)),(4,.c (.own 2))],[.box (.agg [.int .i64,.int .i64,.nil,.int .i64,.int .i64,.int .i64,.int .i64]),.box (.agg [.int .i64,.int .i64,.own 3,.int .i64,.int .i64,.int .i64,.int .i64]),.rows true .i64,.rows true .iop]⟩ (.cond .u .u))) (.seq (.seq .u (.cut ⟨[(2,.c (.pb 0 7 0)),(3,.c (.pb 1 7 0))],[.box (.agg [.int .i64,.int .i64,.nil,.int .i64,.int .i64,.int .i64,.int .i64]),.box (.agg [.int .i64,.int .i64,.own 2,.int .i64,.int .i64,.int .i64,.int .i64]),.rows true .iop]⟩ (.cond .u .u))) .u)))))))) tN Tryz.f54 [(30,⟨_,dx⟩),(125,⟨_,oU⟩),(113,⟨_,jd⟩)] (PX A dx.pre dx.fn oU.pre oU.fn jd.pre jd.fn):=fun _=>by kernel_rfl
theorem afA (A:Alg): @Ru aF.z X E A [] .u tO Tryz.f114 [] (P5 A):=fun _=>by kernel_rfl
theorem afB (A:Alg): @Ru aF.z X E A [] .u DR Tryz.f171 [] (P6 A):=fun _=>by kernel_rfl
theorem afC (A:Alg) (Fj:Ct A.ah DR) (oV:Ct A.ah tO): @Ru aF.z X E A [] (.seq .u (.seq .u (.seq .u (.seq (.block (.seq .u (.cond .u (.seq (.seq .u (.cut ⟨[(1,.c (.pb 0 7 0)),(2,.c (.pb 1 7 0)),(4,.c (.bool)),(6,.c (.bool)),(33,.c (.bool))],[.box (.sv false .blk),.box (.agg [.int .i64,.int .i64,.nil,.int .i64,.int .i64,.int .i64,.int .i64])]⟩ (.cond .u .u))) .u)))) .u)))) DT Tryz.f116 [(171,⟨_,Fj⟩),(114,⟨_,oV⟩)] (P7 A Fj.pre Fj.fn oV.pre oV.fn):=fun _=>by kernel_rfl
theorem afD (A:Alg) (dx:Ct A.ah gJ) (Fp:Ct A.ah DN) (Fq:Ct A.ah DT) (oV:Ct A.ah tO) (jd:Ct A.ah mJ): @Ru aF.z X E A [(11,[(0,([3],[])),(1,([53],[])),(2,([4],[])),(3,([5],[])),(4,([56],[])),(5,([6],[])),(6,([8],[])),(7,([57,58,59],[1])),(8,([60],[])),(9,([54,55],[])),(10,([61,62],[]))])] (.seq .u (.seq .u (.seq .u (.seq (.seq .u (.block (.loop ⟨[(2,.c (.pb 0 7 0)),(3,.c (.pb 1 7 0)),(4,.c (.int .i64))],[.box (.agg [.int .i64,.int .i64,.nil,.int .i64,.int .i64,.int .i64,.int .i64]),.box (.agg [.int .i64,.int .i64,.own 2,.int .i64,.int .i64,.int .i64,.int .i64]),.rows true .iop]⟩ (.seq .u (.seq (.block (.seq .u (.seq .u (.seq .u (.seq .u (.cut ⟨[(2,.c (.pb 0 7 0)),(3,.c (.pb 1 7 0)),(4,.c (.int .i64))],[.box (.agg [.int .i64,.int .i64,.nil,.int .i64,.int .i64,.int .i64,.int .i64]),.box (.agg [.int .i64,.int .i64,.own 2,.int .i64,.int .i64,.int .i64,.int .i64]),.rows true .iop]⟩ (.cond .u .u))))))) .u))))) .u)))) DU Tryz.f42 [(30,⟨_,dx⟩),(115,⟨_,Fp⟩),(116,⟨_,Fq⟩),(114,⟨_,oV⟩),(113,⟨_,jd⟩)] (Qa A dx.pre dx.fn Fp.pre Fp.fn Fq.pre Fq.fn oV.pre oV.fn jd.pre jd.fn):=fun _=>by kernel_rfl
theorem afE (A:Alg): @Ru aF.z X E A [(4,[(0,([0],[])),(1,([5],[])),(2,([14,15],[])),(3,([16],[])),(4,([17],[])),(5,([18],[])),(6,([19],[])),(7,([0,20],[])),(8,([5,20],[])),(9,([20,21,22],[])),(10,([20,23],[])),(11,([20,24],[])),(12,([20,25],[])),(13,([20,26],[])),(14,([27],[])),(15,([0,28],[])),(16,([5,28],[])),(17,([28,29,30],[])),(18,([28,31],[])),(19,([28,32],[])),(20,([28,33],[])),(21,([28,34],[])),(22,([0,35],[])),(23,([5,35],[])),(24,([35,36,37],[])),(25,([35,38],[])),(26,([35,39],[])),(27,([0,35],[])),(28,([1,35],[])),(29,([35,41,42],[])),(30,([35,43],[])),(31,([35,44],[])),(32,([35,40,45],[])),(33,([28,35,46],[])),(34,([28,47],[]))]),(6,[(0,([0],[])),(1,([5],[])),(2,([49,50],[])),(3,([51],[])),(4,([52],[])),(5,([53],[])),(6,([54],[])),(7,([0,55],[])),(8,([5,55],[])),(9,([55,56,57],[])),(10,([55,58],[])),(11,([55,59],[])),(12,([0,55],[])),(13,([1,55],[])),(14,([55,61,62],[])),(15,([55,63],[])),(16,([55,64],[])),(17,([55,60,65],[])),(18,([55,66],[]))])] (.seq .u (.seq (.seq .u (.block (.loop ⟨[(0,.c (.rows false .iop)),(1,.c (.int .i64)),(5,.c (.int .i64))],[]⟩ .u))) .u)) DV Tryz.f118 [] (Qb A):=fun _=>by kernel_rfl
theorem afF (A:Alg) (oU:Ct A.ah tL): @Ru aF.z X E A [] (.seq .u (.seq .u (.seq .u (.seq (.seq .u (.block (.loop ⟨[(1,.c (.rows false .bool)),(2,.c (.pb 0 7 0)),(4,.c (.pb 1 7 0)),(5,.c (.own 2)),(6,.c (.own 3)),(7,.c (.int .i64))],[.box (.sv false .blk),.box (.agg [.int .i64,.int .i64,.nil,.int .i64,.int .i64,.int .i64,.int .i64]),.rows true .iop,.rows true .i64]⟩ (.seq .u (.seq (.block (.seq .u (.seq .u (.cut ⟨[(1,.c (.rows false .bool)),(2,.c (.pb 0 7 0)),(4,.c (.pb 1 7 0)),(5,.c (.own 2)),(6,.c (.own 3)),(7,.c (.int .i64))],[.box (.sv false .blk),.box (.agg [.int .i64,.int .i64,.nil,.int .i64,.int .i64,.int .i64,.int .i64]),.rows true .iop,.rows true .i64]⟩ (.cond .u .u))))) .u))))) (.seq .u (.seq .u (.seq (.seq .u (.cut ⟨[(2,.c (.pb 0 7 0)),(4,.c (.pb 1 7 0)),(6,.c (.own 2)),(8,.c (.pb 3 7 0))],[.box (.sv false .blk),.box (.agg [.int .i64,.int .i64,.nil,.int .i64,.int .i64,.int .i64,.int .i64]),.rows true .i64,.box (.agg [.int .i64,.int .i64,.own 4,.int .i64,.int .i64,.int .i64,.int .i64]),.rows true .iop]⟩ (.cond .u .u))) (.seq (.seq .u (.cut ⟨[(4,.c (.pb 0 7 0)),(8,.c (.pb 1 7 0))],[.box (.agg [.int .i64,.int .i64,.nil,.int .i64,.int .i64,.int .i64,.int .i64]),.box (.agg [.int .i64,.int .i64,.own 2,.int .i64,.int .i64,.int .i64,.int .i64]),.rows true .iop]⟩ (.cond .u .u))) .u)))))))) tQ Tryz.f119 [(125,⟨_,oU⟩)] (Qc A oU.pre oU.fn):=fun _=>by kernel_rfl
end Go.TX.Seat
namespace Go.TX.Seat
open Go Go.AE Go.TX Go.TX.F Go.Proofs
set_option maxRecDepth 100000
theorem afG (A:Alg) (dx:Ct A.ah gJ) (oW:Ct A.ah tQ) (Fu:Ct A.ah DV): @Ru aF.z X E A [] (.seq .u (.seq .u (.seq .u (.seq (.seq .u (.block (.loop ⟨[(1,.c (.pb 0 7 0)),(2,.c (.pb 1 7 0)),(3,.c (.own 2)),(4,.c (.int .i64))],[.box (.sv false .blk),.box (.agg [.int .i64,.int .i64,.nil,.int .i64,.int .i64,.int .i64,.int .i64]),.rows true .bool]⟩ .u))) .u)))) tT Tryz.f45 [(30,⟨_,dx⟩),(119,⟨_,oW⟩),(118,⟨_,Fu⟩)] (Qd A dx.pre dx.fn oW.pre oW.fn Fu.pre Fu.fn):=fun _=>by kernel_rfl
theorem afH (A:Alg) (dx:Ct A.ah gJ) (bO:Ct A.ah fJ): @Ru aF.z X E A [] (.seq .u (.seq .u (.seq .u (.seq (.seq .u (.block (.loop ⟨[(1,.c (.pb 0 7 0)),(3,.c (.own 1)),(4,.c (.int .i64))],[.box (.sv false .blk),.rows true .bool]⟩ .u))) (.seq (.seq .u (.cut ⟨[(1,.c (.pb 0 7 0)),(3,.c (.own 1))],[.box (.sv false .blk),.rows true .bool]⟩ (.cond .u .u))) (.seq (.seq .u (.cut ⟨[(1,.c (.pb 0 7 0)),(3,.c (.own 1))],[.box (.sv false .blk),.rows true .bool]⟩ (.cond .u .u))) (.seq (.seq .u (.block (.loop ⟨[(1,.c (.pb 0 7 0)),(3,.c (.own 1)),(5,.c (.int .i64))],[.box (.sv false .blk),.rows true .bool]⟩ (.seq .u (.seq (.cut ⟨[(1,.c (.pb 0 7 0)),(3,.c (.own 1)),(5,.c (.int .i64))],[.box (.sv false .blk),.rows true .bool]⟩ (.block (.seq .u (.seq .u (.seq (.seq .u (.cut ⟨[(1,.c (.pb 0 7 0)),(3,.c (.own 1)),(5,.c (.int .i64)),(6,.c (.pb 2 5 0))],[.box (.sv false .blk),.rows true .bool,.box (.sv false .iop)]⟩ (.cond .u .u))) (.seq .u (.cut ⟨[(1,.c (.pb 0 7 0)),(3,.c (.own 1)),(5,.c (.int .i64))],[.box (.sv false .blk),.rows true .bool]⟩ (.cond .u .u)))))))) .u))))) .u))))))) DW Tryz.f50 [(30,⟨_,dx⟩),(89,⟨_,bO⟩)] (Qg A dx.pre dx.fn bO.pre bO.fn):=fun _=>by kernel_rfl
theorem afI (A:Alg) (dx:Ct A.ah gJ) (Fv:Ct A.ah DW) (oW:Ct A.ah tQ): @Ru aF.z X E A [(3,[(0,([1],[])),(1,([1],[])),(2,([8],[0])),(3,([7,9],[])),(4,([2,10],[]))])] .u DX Tryz.f49 [(30,⟨_,dx⟩),(50,⟨_,Fv⟩),(119,⟨_,oW⟩)] (Qh A dx.pre dx.fn Fv.pre Fv.fn oW.pre oW.fn):=fun _=>by kernel_rfl
theorem afJ (A:Alg) (Fw:Ct A.ah DU) (oZ:Ct A.ah tN) (Fx:Ct A.ah DX) (o7:Ct A.ah tT): @Ru aF.z X E A [] .u DY Tryz.f57 [(42,⟨_,Fw⟩),(54,⟨_,oZ⟩),(49,⟨_,Fx⟩),(45,⟨_,o7⟩)] (Qi A Fw.pre Fw.fn oZ.pre oZ.fn Fx.pre Fx.fn o7.pre o7.fn):=fun _=>by kernel_rfl
theorem afK (A:Alg) (bN:Ct A.ah fH): @Ru aF.z X E A [] (.seq .u (.seq .u (.seq .u (.seq (.seq .u (.block (.seq (.seq .u (.cut ⟨[(0,.c (.pb 0 2 0)),(2,.c (.pb 1 4 0)),(3,.c (.int .i64)),(4,.c (.int .i64)),(10,.c (.int .i64)),(11,.c (.bool))],[.box (.agg [.rows true .u8,.int .i64]),.box (.agg [.int .i64,.int .i64,.int .i64,.int .i64])]⟩ (.cond .u .u))) (.cond .u (.seq .u (.cond .u (.seq (.seq .u (.cut ⟨[(0,.c (.pb 0 2 0)),(2,.c (.pb 1 4 0)),(3,.c (.int .i64)),(4,.c (.int .i64)),(10,.c (.int .i64)),(30,.c (.bool))],[.box (.agg [.rows true .u8,.int .i64]),.box (.agg [.int .i64,.int .i64,.int .i64,.int .i64])]⟩ (.cond .u (.seq .u (.cut ⟨[(0,.c (.pb 0 2 0)),(2,.c (.pb 1 4 0)),(3,.c (.int .i64)),(4,.c (.int .i64)),(10,.c (.int .i64)),(30,.c (.bool))],[.box (.agg [.rows true .u8,.int .i64]),.box (.agg [.int .i64,.int .i64,.int .i64,.int .i64])]⟩ (.cond .u .u)))))) (.cond .u (.seq .u (.cond .u (.seq (.seq .u (.cut ⟨[(0,.c (.pb 0 2 0)),(2,.c (.pb 1 4 0)),(3,.c (.int .i64)),(4,.c (.int .i64)),(10,.c (.int .i64)),(54,.c (.bool))],[.box (.agg [.rows true .u8,.int .i64]),.box (.agg [.int .i64,.int .i64,.int .i64,.int .i64])]⟩ (.cond .u .u))) .u))))))))))) .u)))) DZ Tryz.f204 [(61,⟨_,bN⟩)] (Qn A bN.pre bN.fn):=fun _=>by kernel_rfl
theorem afL (A:Alg): @Ru aF.z X E A [] (.seq .u (.seq (.seq .u (.block (.seq .u (.cond .u (.seq .u (.cond .u (.seq .u (.cond .u (.seq (.seq .u (.cut ⟨[(1,.c (.pb 0 4 0)),(4,.c (.int .i64)),(30,.c (.bool))],[.box (.sv false .ins)]⟩ (.cond .u (.seq .u (.cut ⟨[(1,.c (.pb 0 4 0)),(4,.c (.int .i64)),(30,.c (.bool))],[.box (.sv false .ins)]⟩ (.cond .u (.seq .u (.cut ⟨[(1,.c (.pb 0 4 0)),(4,.c (.int .i64)),(30,.c (.bool))],[.box (.sv false .ins)]⟩ (.cond .u (.seq .u (.cut ⟨[(1,.c (.pb 0 4 0)),(4,.c (.int .i64)),(30,.c (.bool))],[.box (.sv false .ins)]⟩ (.cond .u .u)))))))))))) (.cond .u (.seq .u (.cond .u (.seq .u (.cond .u (.seq (.seq .u (.cut ⟨[(1,.c (.pb 0 4 0)),(54,.c (.bool))],[.box (.sv false .ins)]⟩ (.cond .u .u))) .u))))))))))))))) .u)) D5 Tryz.f222 [] (Qo A):=fun _=>by kernel_rfl
theorem afM (A:Alg) (bO:Ct A.ah fJ) (Fy:Ct A.ah D5): @Ru aF.z X E A [] .u tV Tryz.f206 [(89,⟨_,bO⟩),(222,⟨_,Fy⟩)] (Qp A bO.pre bO.fn Fy.pre Fy.fn):=fun _=>by kernel_rfl
theorem afN (A:Alg): @Ru aF.z X E A [] .u tX Tryz.f207 [] (Qq A):=fun _=>by kernel_rfl
theorem afO (A:Alg) (o8:Ct A.ah tX) (o9:Ct A.ah tV): @Ru aF.z X E A [] .u tY Tryz.f205 [(207,⟨_,o8⟩),(206,⟨_,o9⟩)] (Qr A o8.pre o8.fn o9.pre o9.fn):=fun _=>by kernel_rfl
theorem afP (A:Alg) (Fz:Ct A.ah DZ) (bN:Ct A.ah fH) (pq:Ct A.ah tY): @Ru aF.z X E A [(3,[(0,([3],[])),(1,([9],[])),(2,([3],[])),(3,([11],[])),(4,([0],[])),(5,([13],[1,3])),(6,([10,12,14],[])),(7,([2,15],[]))])] .u D6 Tryz.f182 [(204,⟨_,Fz⟩),(61,⟨_,bN⟩),(205,⟨_,pq⟩)] (Qw A Fz.pre Fz.fn bN.pre bN.fn pq.pre pq.fn):=fun _=>by kernel_rfl
theorem afQ (A:Alg) (FB:Ct A.ah D6) (bN:Ct A.ah fH): @Ru aF.z X E A [] (.seq .u (.seq .u (.seq (.seq .u (.block (.loop ⟨[(0,.c (.pb 0 2 0)),(3,.c (.own 1)),(4,.c (.int .i64))],[.box (.agg [.rows true .u8,.int .i64]),.rows true .ins]⟩ .u))) .u))) D7 Tryz.f139 [(182,⟨_,FB⟩),(61,⟨_,bN⟩)] (Qz A FB.pre FB.fn bN.pre bN.fn):=fun _=>by kernel_rfl
theorem afR (A:Alg) (o8:Ct A.ah tX) (o9:Ct A.ah tV) (bO:Ct A.ah fJ) (pq:Ct A.ah tY): @Ru aF.z X E A [] (.seq .u (.seq .u (.seq (.seq .u (.block (.loop ⟨[(1,.c (.rows false .ins)),(5,.c (.int .i64))],[]⟩ .u))) .u))) D8 Tryz.f183 [(207,⟨_,o8⟩),(206,⟨_,o9⟩),(89,⟨_,bO⟩),(205,⟨_,pq⟩)] (QA A o8.pre o8.fn o9.pre o9.fn bO.pre bO.fn pq.pre pq.fn):=fun _=>by kernel_rfl
theorem afS (A:Alg): @Ru aF.z X E A [(2,[(0,([2],[])),(1,([2],[])),(2,([13],[])),(3,([14],[])),(4,([15],[])),(5,([4,12],[2])),(6,([16],[]))])] .u iE Tryz.f208 [] (QB A):=fun _=>by kernel_rfl
theorem afT (A:Alg) (eU:Ct A.ah iE): @Ru aF.z X E A [] .u tZ Tryz.f209 [(208,⟨_,eU⟩)] (QC A eU.pre eU.fn):=fun _=>by kernel_rfl
theorem afU (A:Alg) (eU:Ct A.ah iE): @Ru aF.z X E A [] .u jF Tryz.f210 [(208,⟨_,eU⟩)] (QD A eU.pre eU.fn):=fun _=>by kernel_rfl
theorem afV (A:Alg) (gK:Ct A.ah jF) (eU:Ct A.ah iE): @Ru aF.z X E A [] .u uf Tryz.f211 [(210,⟨_,gK⟩),(208,⟨_,eU⟩)] (QE A gK.pre gK.fn eU.pre eU.fn):=fun _=>by kernel_rfl
theorem afW (A:Alg): @Ru aF.z X E A [] (.seq .u (.seq .u (.seq (.seq .u (.block (.loop ⟨[(0,.c (.int .i64)),(3,.c (.int .i64)),(4,.c (.int .i64))],[]⟩ .u))) .u))) D9 Tryz.f212 [] (QF A):=fun _=>by kernel_rfl
theorem afX (A:Alg) (gK:Ct A.ah jF) (eU:Ct A.ah iE) (pz:Ct A.ah uf) (pE:Ct A.ah tZ): @Ru aF.z X E A [] .u Ea Tryz.f213 [(210,⟨_,gK⟩),(208,⟨_,eU⟩),(211,⟨_,pz⟩),(209,⟨_,pE⟩)] (QG A gK.pre gK.fn eU.pre eU.fn pz.pre pz.fn pE.pre pE.fn):=fun _=>by kernel_rfl
theorem afY (A:Alg) (gK:Ct A.ah jF): @Ru aF.z X E A [] (.seq .u (.seq .u (.seq .u (.seq .u (.seq .u (.seq (.seq .u (.cut ⟨[(3,.c (.pb 1 4 0)),(4,.c (.pb 2 7 0)),(8,.c (.int .i64)),(9,.c (.pb 3 7 0)),(10,.c (.int .i64))],[.gone,.box (.sv false .ins),.box (.agg [.int .i64,.int .i64,.nil,.int .i64,.int .i64,.int .i64,.int .i64]),.box (.agg [.int .i64,.int .i64,.own 4,.int .i64,.int .i64,.int .i64,.int .i64]),.rows true .iop]⟩ (.cond .u .u))) .u)))))) Eb Tryz.f214 [(210,⟨_,gK⟩)] (QH A gK.pre gK.fn):=fun _=>by kernel_rfl
theorem afZ (A:Alg) (gK:Ct A.ah jF) (FC:Ct A.ah Eb) (eU:Ct A.ah iE) (FD:Ct A.ah Ea) (pz:Ct A.ah uf) (pE:Ct A.ah tZ) (FH:Ct A.ah D9): @Ru aF.z X E A [(9,[(0,([3],[])),(1,([4],[])),(2,([56],[])),(3,([4],[])),(4,([58],[])),(5,([59],[0,2])),(6,([60],[])),(7,([55,57,61],[])),(8,([62],[])),(9,([54],[])),(10,([54],[])),(11,([],[])),(12,([11,63],[])),(13,([64],[]))])] (.seq .u (.seq (.seq .u (.block (.seq .u (.cond .u (.seq .u (.cond .u (.seq .u (.cond .u (.seq (.seq .u (.cut ⟨[(2,.c (.int .i64)),(3,.c (.pb 1 7 0)),(4,.c (.pb 2 4 0)),(6,.c (.pb 3 7 0)),(22,.c (.int .i64)),(70,.c (.bool))],[.rows true .iop,.box (.agg [.int .i64,.int .i64,.own 0,.int .i64,.int .i64,.int .i64,.int .i64]),.box (.sv false .ins),.box (.agg [.int .i64,.int .i64,.nil,.int .i64,.int .i64,.int .i64,.int .i64])]⟩ (.cond .u .u))) (.cond .u (.seq .u (.cond .u (.seq .u (.cond .u (.seq (.seq .u (.cut ⟨[(3,.c (.pb 1 7 0)),(4,.c (.pb 2 4 0)),(6,.c (.pb 3 7 0)),(109,.c (.bool))],[.rows true .iop,.box (.agg [.int .i64,.int .i64,.own 0,.int .i64,.int .i64,.int .i64,.int .i64]),.box (.sv false .ins),.box (.agg [.int .i64,.int .i64,.nil,.int .i64,.int .i64,.int .i64,.int .i64])]⟩ (.cond .u (.seq .u (.cut ⟨[(3,.c (.pb 1 7 0)),(4,.c (.pb 2 4 0)),(6,.c (.pb 3 7 0)),(109,.c (.bool))],[.rows true .iop,.box (.agg [.int .i64,.int .i64,.own 0,.int .i64,.int .i64,.int .i64,.int .i64]),.box (.sv false .ins),.box (.agg [.int .i64,.int .i64,.nil,.int .i64,.int .i64,.int .i64,.int .i64])]⟩ (.cond .u .u)))))) .u))))))))))))))) .u)) Ec Tryz.f184 [(210,⟨_,gK⟩),(214,⟨_,FC⟩),(208,⟨_,eU⟩),(213,⟨_,FD⟩),(211,⟨_,pz⟩),(209,⟨_,pE⟩),(212,⟨_,FH⟩)] (QI A gK.pre gK.fn FC.pre FC.fn eU.pre eU.fn FD.pre FD.fn pz.pre pz.fn pE.pre pE.fn FH.pre FH.fn):=fun _=>by kernel_rfl
theorem af0 (A:Alg) (FJ:Ct A.ah D8) (FK:Ct A.ah Ec): @Ru aF.z X E A [(7,[(0,([5],[])),(1,([1],[])),(2,([6],[])),(3,([27,28],[])),(4,([29],[])),(5,([6],[])),(6,([26,30,31],[])),(7,([5,32],[]))])] (.seq .u (.seq .u (.seq .u (.seq (.seq .u (.block (.loop ⟨[(1,.c (.rows false .ins)),(4,.c (.pb 0 7 0)),(5,.c (.pb 1 7 0)),(6,.c (.int .i64))],[.box (.agg [.int .i64,.int .i64,.nil,.int .i64,.int .i64,.int .i64,.int .i64]),.box (.agg [.int .i64,.int .i64,.own 2,.int .i64,.int .i64,.int .i64,.int .i64]),.rows true .iop]⟩ .u))) .u)))) Ed Tryz.f140 [(183,⟨_,FJ⟩),(184,⟨_,FK⟩)] (QJ A FJ.pre FJ.fn FK.pre FK.fn):=fun _=>by kernel_rfl
theorem af2 (A:Alg) (FL:Ct A.ah Ed) (FN:Ct A.ah DY) (oZ:Ct A.ah tN) (bN:Ct A.ah fH) (FP:Ct A.ah D7): @Ru aF.z X E A [] .u Ee Tryz.f66 [(140,⟨_,FL⟩),(57,⟨_,FN⟩),(54,⟨_,oZ⟩),(61,⟨_,bN⟩),(139,⟨_,FP⟩)] (QK A FL.pre FL.fn FN.pre FN.fn oZ.pre oZ.fn bN.pre bN.fn FP.pre FP.fn):=fun _=>by kernel_rfl
theorem aqg (A:Alg): @Ru aF.z X E A [] .u LK Tryz.f148 [] (aeg A):=fun _=>by kernel_rfl
theorem aqh (A:Alg) (GZ:Ct A.ah LK): @Ru aF.z X E A [] .u Ef Tryz.f80 [(148,⟨_,GZ⟩)] (aeh A GZ.pre GZ.fn):=fun _=>by kernel_rfl
theorem aqi (A:Alg): @Ru aF.z X E A [] (.seq .u (.seq .u (.seq (.seq .u (.block (.loop ⟨[(3,.c (.int .i64)),(6,.c (.rows false .i64)),(7,.c (.int .i64)),(8,.c (.int .i64))],[]⟩ .u))) .u))) LM Tryz.f81 [] (aei A):=fun _=>by kernel_rfl
theorem alA (A:Alg) (xS:Ct A.ah Ef): @Ru aF.z X E A [] (.seq .u (.seq (.seq .u (.block (.loop ⟨[(0,.c (.rows false .i64)),(1,.c (.rows false .i64)),(9,.c (.rows false .i64)),(10,.c (.int .i64)),(11,.c (.int .i64))],[]⟩ .u))) .u)) LP Tryz.f149 [(80,⟨_,xS⟩)] (WU A xS.pre xS.fn):=fun _=>by kernel_rfl
theorem alB (A:Alg) (G5:Ct A.ah LM) (xS:Ct A.ah Ef) (M4:Ct A.ah LP): @Ru aF.z X E A [] .u nX Tryz.f82 [(81,⟨_,G5⟩),(80,⟨_,xS⟩),(149,⟨_,M4⟩)] (WW A G5.pre G5.fn xS.pre xS.fn M4.pre M4.fn):=fun _=>by kernel_rfl
theorem alC (A:Alg): @Ru aF.z X E A [] .u bY Tryz.f121 [] (WX A):=fun _=>by kernel_rfl
theorem aqj (A:Alg) (GZ:Ct A.ah LK): @Ru aF.z X E A [] .u Eh Tryz.f185 [(148,⟨_,GZ⟩)] (ael A GZ.pre GZ.fn):=fun _=>by kernel_rfl
theorem af3 (A:Alg) (xU:Ct A.ah Eh): @Ru aF.z X E A [(4,[(0,([0],[])),(1,([3],[])),(2,([11,12],[])),(3,([13],[])),(4,([0],[])),(5,([3],[])),(6,([16],[])),(7,([15,17],[])),(8,([18],[])),(9,([14,19],[]))])] (.seq .u (.seq (.seq .u (.block (.loop ⟨[(0,.c (.rows false .i64)),(3,.c (.int .i64))],[]⟩ .u))) .u)) Ei Tryz.f141 [(185,⟨_,xU⟩)] (QL A xU.pre xU.fn):=fun _=>by kernel_rfl
theorem alD (A:Alg): @Ru aF.z X E A [] .u LQ Tryz.f187 [] (W9 A):=fun _=>by kernel_rfl
theorem af4 (A:Alg) (M5:Ct A.ah LQ): @Ru aF.z X E A [] (.seq .u (.seq (.seq .u (.block (.loop ⟨[(0,.c (.rows false .i64)),(1,.c (.fn 187 [(0,1)])),(7,.c (.int .i64)),(8,.c (.int .i64))],[.box (.c (.int .i64))]⟩ .u))) .u)) Ej Tryz.f215 [(187,⟨_,M5⟩)] (QM A M5.pre M5.fn):=fun _=>by kernel_rfl
theorem af5 (A:Alg) (FQ:Ct A.ah Ej): @Ru aF.z X E A [] .u El Tryz.f186 [(215,⟨_,FQ⟩)] (QN A FQ.pre FQ.fn):=fun _=>by kernel_rfl
theorem alE (A:Alg) (FR:Ct A.ah El): @Ru aF.z X E A [] (.seq .u (.seq (.seq .u (.block (.loop ⟨[(3,.c (.pb 0 1 0)),(8,.c (.rows false .mono)),(9,.c (.int .i64)),(10,.c (.int .i64))],[.box (.c (.int .i64))]⟩ .u))) .u)) AQ Tryz.f142 [(186,⟨_,FR⟩)] (Xa A FR.pre FR.fn):=fun _=>by kernel_rfl
theorem alF (A:Alg): @Ru aF.z X E A [] .u LU Tryz.f144 [] (Xb A):=fun _=>by kernel_rfl
theorem af6 (A:Alg) (M6:Ct A.ah LU): @Ru aF.z X E A [] (.seq .u (.seq (.seq .u (.block (.loop ⟨[(0,.c (.rows false .mono)),(1,.c (.fn 144 [])),(7,.c (.int .i64)),(8,.c (.int .i64))],[]⟩ .u))) .u)) Em Tryz.f188 [(144,⟨_,M6⟩)] (QO A M6.pre M6.fn):=fun _=>by kernel_rfl
theorem af7 (A:Alg) (FT:Ct A.ah Em): @Ru aF.z X E A [] .u En Tryz.f143 [(188,⟨_,FT⟩)] (QS A FT.pre FT.fn):=fun _=>by kernel_rfl
theorem alG (A:Alg) (aU:Ct A.ah bY) (wC:Ct A.ah AQ) (FU:Ct A.ah Ei) (jo:Ct A.ah nX) (FV:Ct A.ah En): @Ru aF.z X E A [(4,[(0,([4],[])),(1,([13],[])),(2,([14],[])),(3,([15],[])),(4,([16],[])),(5,([4,17],[])),(6,([17,18],[])),(7,([17,19],[])),(8,([17,20],[])),(9,([17,21],[])),(10,([22],[])),(11,([4,23],[])),(12,([23,24],[])),(13,([23,25],[])),(14,([23,26],[])),(15,([23,27],[])),(16,([28],[])),(17,([3,29],[])),(18,([29,30],[])),(19,([29,31],[])),(20,([1,32],[])),(21,([32,33],[])),(22,([3,32],[])),(23,([32,35],[])),(24,([32,34,36],[])),(25,([32,37],[])),(26,([32,38],[])),(27,([4,32],[])),(28,([32,40],[])),(29,([32,39,41],[])),(30,([32,42],[])),(31,([29,32,43],[])),(32,([29,44],[]))])] (.seq .u (.seq (.seq .u (.block (.loop ⟨[(1,.c (.pb 0 1 0)),(6,.c (.rows false .mono)),(7,.c (.int .i64)),(8,.c (.int .i64))],[.box (.sv false .poly)]⟩ .u))) .u)) iF Tryz.f67 [(121,⟨_,aU⟩),(142,⟨_,wC⟩),(141,⟨_,FU⟩),(82,⟨_,jo⟩),(143,⟨_,FV⟩)] (Xc A aU.pre aU.fn wC.pre wC.fn FU.pre FU.fn jo.pre jo.fn FV.pre FV.fn):=fun _=>by kernel_rfl
theorem alH (A:Alg) (dW:Ct A.ah iF): @Ru aF.z X E A [] .u AU Tryz.f22 [(67,⟨_,dW⟩)] (Xd A dW.pre dW.fn):=fun _=>by kernel_rfl
theorem alI (A:Alg) (G5:Ct A.ah LM) (xS:Ct A.ah Ef) (jo:Ct A.ah nX): @Ru aF.z X E A [(7,[(0,([7],[])),(1,([27],[])),(2,([3],[])),(3,([29],[])),(4,([6],[])),(5,([30,31],[])),(6,([32],[])),(7,([33],[])),(9,([7],[])),(10,([36],[])),(11,([3],[])),(12,([38],[])),(13,([6],[])),(14,([39,40],[])),(15,([41],[])),(16,([42],[])),(8,([28,34],[10,12,16])),(17,([37,43],[])),(18,([35,44],[])),(19,([45],[])),(20,([46],[]))])] (.seq .u (.seq .u (.seq (.seq .u (.block (.loop ⟨[(3,.c (.pb 0 1 0)),(20,.c (.rows false .mono)),(21,.c (.int .i64)),(22,.c (.int .i64))],[.box (.sv false .poly)]⟩ .u))) .u))) ug Tryz.f24 [(81,⟨_,G5⟩),(80,⟨_,xS⟩),(82,⟨_,jo⟩)] (Xe A G5.pre G5.fn xS.pre xS.fn jo.pre jo.fn):=fun _=>by kernel_rfl
theorem alJ (A:Alg): @Ru aF.z X E A [] .u AV Tryz.f189 [] (Xf A):=fun _=>by kernel_rfl
theorem alK (A:Alg) (wD:Ct A.ah AV): @Ru ⟨[20],[]⟩ X E A [(5,[(0,([3],[])),(1,([13],[])),(2,([5],[])),(3,([15],[])),(4,([5],[])),(5,([17],[])),(6,([18],[1,3])),(7,([16,19],[])),(8,([20],[1])),(9,([14,21],[])),(10,([3],[])),(11,([22,23],[]))])] (.seq .u (.seq .u (.seq (.seq .u (.block (.loop ⟨[(2,.c (.pb 0 1 0)),(3,.c (.pb 1 1 0)),(7,.c (.rows false .mono)),(8,.c (.int .i64)),(9,.c (.int .i64))],[.box (.agg [.nil]),.box (.agg [.own 2]),.rows true .mono]⟩ .u))) .u))) uh Tryz.f146 [(189,⟨_,wD⟩)] (Xg A wD.pre wD.fn):=fun _=>by kernel_rfl
theorem alL (A:Alg) (mP:Ct A.ah uh): @Ru aF.z X E A [] (.seq .u (.seq .u (.seq (.seq .u (.block (.loop ⟨[(3,.c (.own 0)),(6,.c (.rows false .poly)),(7,.c (.int .i64)),(8,.c (.int .i64))],[.rows true .poly]⟩ .u))) .u))) LW Tryz.f145 [(146,⟨_,mP⟩)] (Xj A mP.pre mP.fn):=fun _=>by kernel_rfl
theorem alM (A:Alg) (mP:Ct A.ah uh) (M7:Ct A.ah LW): @Ru ⟨[42],[]⟩ X E A [(1,[(0,([1],[])),(1,([6],[])),(3,([1],[])),(4,([9],[])),(5,([1],[])),(6,([11],[])),(8,([1],[])),(9,([14],[])),(11,([1],[])),(12,([17],[])),(2,([7],[4,6,9,12])),(7,([12],[4,9,12])),(10,([15],[4,12])),(13,([8,10,13,16,18],[])),(14,([],[])),(15,([3,19],[]))]),(5,[(0,([3],[])),(1,([27],[])),(2,([5],[])),(3,([29],[])),(4,([5],[])),(5,([31],[])),(6,([5],[])),(7,([33],[])),(9,([5],[])),(10,([36],[])),(12,([5],[])),(13,([39],[])),(8,([34],[1,3,5,10,13])),(11,([37],[1,3,5,13])),(14,([40],[1,3,5])),(15,([30,32,35,38,41],[])),(16,([42],[1])),(17,([28,43],[])),(18,([3],[])),(19,([44,45],[]))])] (.seq .u (.seq .u (.seq (.seq .u (.block (.loop ⟨[(2,.c (.pb 0 6 0)),(3,.c (.pb 1 6 0)),(21,.c (.rows false .ev)),(22,.c (.int .i64)),(23,.c (.int .i64))],[.box (.agg [.nil,.nil,.int .i64,.nil,.nil,.int .i64]),.box (.agg [.own 2,.own 3,.int .i64,.own 4,.own 5,.int .i64]),.rows true .ev,.rows true .poly,.rows true .mono,.rows true .mono]⟩ .u))) .u))) LY Tryz.f68 [(146,⟨_,mP⟩),(145,⟨_,M7⟩)] (Xk A mP.pre mP.fn M7.pre M7.fn):=fun _=>by kernel_rfl
theorem alN (A:Alg) (mQ:Ct A.ah ug): @Ru aF.z X E A [] .u jl Tryz.f69 [(24,⟨_,mQ⟩)] (Xl A mQ.pre mQ.fn):=fun _=>by kernel_rfl
theorem alO (A:Alg) (aU:Ct A.ah bY): @Ru aF.z X E A [] .u jm Tryz.f78 [(121,⟨_,aU⟩)] (Xm A aU.pre aU.fn):=fun _=>by kernel_rfl
theorem alP (A:Alg) (fP:Ct A.ah jm): @Ru aF.z X E A [] .u LZ Tryz.f70 [(78,⟨_,fP⟩)] (Xo A fP.pre fP.fn):=fun _=>by kernel_rfl
theorem alQ (A:Alg) (wE:Ct A.ah AU) (dW:Ct A.ah iF) (mQ:Ct A.ah ug) (M8:Ct A.ah LY) (fQ:Ct A.ah jl) (M9:Ct A.ah LZ): @Ru aF.z X E A [] (.seq .u (.seq .u (.seq .u (.seq .u (.seq .u (.seq .u (.seq (.block (.seq .u (.cut ⟨[(4,.c (.pb 0 6 0)),(5,.c (.pb 1 6 0))],[.box (.agg [.nil,.nil,.int .i64,.nil,.nil,.int .i64]),.box (.agg [.own 2,.own 3,.int .i64,.own 4,.own 5,.int .i64]),.rows true .ev,.rows true .poly,.rows true .mono,.rows true .mono]⟩ (.cond .u (.seq .u (.cut ⟨[(4,.c (.pb 0 6 0)),(5,.c (.pb 1 6 0))],[.box (.agg [.nil,.nil,.int .i64,.nil,.nil,.int .i64]),.box (.agg [.own 2,.own 3,.int .i64,.own 4,.own 5,.int .i64]),.rows true .ev,.rows true .poly,.rows true .mono,.rows true .mono]⟩ (.cond .u (.seq .u (.cut ⟨[(4,.c (.pb 0 6 0)),(5,.c (.pb 1 6 0))],[.box (.agg [.nil,.nil,.int .i64,.nil,.nil,.int .i64]),.box (.agg [.own 2,.own 3,.int .i64,.own 4,.own 5,.int .i64]),.rows true .ev,.rows true .poly,.rows true .mono,.rows true .mono]⟩ (.cond (.seq .u (.seq .u (.seq .u (.cut ⟨[(4,.c (.pb 0 6 0)),(5,.c (.pb 1 6 0))],[.box (.agg [.nil,.nil,.int .i64,.nil,.nil,.int .i64]),.box (.agg [.own 2,.own 3,.int .i64,.nil,.nil,.int .i64]),.rows true .ev,.rows true .poly]⟩ (.cond .u .u))))) (.seq .u (.cut ⟨[(4,.c (.pb 0 6 0)),(5,.c (.pb 1 6 0))],[.box (.agg [.nil,.nil,.int .i64,.nil,.nil,.int .i64]),.box (.agg [.own 2,.own 3,.int .i64,.own 4,.own 5,.int .i64]),.rows true .ev,.rows true .poly,.rows true .mono,.rows true .mono]⟩ (.cond .u .u))))))))))))) .u))))))) L6 Tryz.f16 [(22,⟨_,wE⟩),(67,⟨_,dW⟩),(24,⟨_,mQ⟩),(68,⟨_,M8⟩),(69,⟨_,fQ⟩),(70,⟨_,M9⟩)] (Xp A wE.pre wE.fn dW.pre dW.fn mQ.pre mQ.fn M8.pre M8.fn fQ.pre fQ.fn M9.pre M9.fn):=fun _=>by kernel_rfl
theorem alR (A:Alg) (fP:Ct A.ah jm): @Ru aF.z X E A [] .u L8 Tryz.f20 [(78,⟨_,fP⟩)] (Xq A fP.pre fP.fn):=fun _=>by kernel_rfl
theorem af8 (A:Alg) (bN:Ct A.ah fH) (jd:Ct A.ah mJ): @Ru aF.z X E A [(9,[(0,([5],[])),(1,([33],[])),(2,([6],[])),(3,([5],[])),(4,([36],[])),(5,([6],[])),(6,([37,38],[])),(7,([39],[])),(8,([40],[])),(9,([41],[])),(10,([34,35],[])),(11,([43],[])),(12,([42,44],[]))]),(11,[(0,([5],[])),(1,([47],[])),(2,([6],[])),(3,([0],[])),(4,([6],[])),(5,([51],[])),(6,([50,52],[1])),(7,([48,49],[])),(8,([54],[])),(9,([53,55],[]))]),(13,[(0,([5],[])),(1,([58],[])),(2,([6],[])),(3,([0],[])),(4,([6],[])),(5,([62],[])),(6,([61,63],[1])),(7,([59,60],[])),(8,([65],[])),(9,([64,66],[]))]),(15,[(0,([5],[])),(1,([69],[])),(2,([6],[])),(3,([0],[])),(4,([5],[])),(5,([73],[])),(6,([74],[])),(7,([72,75],[1])),(8,([70,71],[])),(9,([77],[])),(10,([76,78],[]))]),(23,[(0,([5],[])),(1,([99],[])),(2,([6],[])),(3,([5],[])),(4,([102],[])),(5,([6],[])),(6,([104],[])),(7,([103,105],[])),(8,([106],[])),(9,([100,101],[])),(10,([107,108],[]))]),(26,[(0,([5],[])),(1,([117],[])),(2,([6],[])),(3,([0],[])),(4,([120],[1])),(5,([121],[])),(6,([118,119],[])),(7,([122,123],[]))])] (.seq .u (.seq .u (.seq .u (.seq .u (.seq (.seq .u (.block (.seq .u (.cut ⟨[(4,.c (.pb 1 7 0)),(5,.c (.pb 2 7 0))],[.box (.agg [.rows true .u8,.int .i64]),.box (.agg [.int .i64,.int .i64,.nil,.int .i64,.int .i64,.int .i64,.int .i64]),.box (.agg [.int .i64,.int .i64,.own 3,.int .i64,.int .i64,.int .i64,.int .i64]),.rows true .iop]⟩ (.cond .u (.seq .u (.cut ⟨[(4,.c (.pb 1 7 0)),(5,.c (.pb 2 7 0))],[.box (.agg [.rows true .u8,.int .i64]),.box (.agg [.int .i64,.int .i64,.nil,.int .i64,.int .i64,.int .i64,.int .i64]),.box (.agg [.int .i64,.int .i64,.own 3,.int .i64,.int .i64,.int .i64,.int .i64]),.rows true .iop]⟩ (.cond .u (.seq .u (.cut ⟨[(4,.c (.pb 1 7 0)),(5,.c (.pb 2 7 0))],[.box (.agg [.rows true .u8,.int .i64]),.box (.agg [.int .i64,.int .i64,.nil,.int .i64,.int .i64,.int .i64,.int .i64]),.box (.agg [.int .i64,.int .i64,.own 3,.int .i64,.int .i64,.int .i64,.int .i64]),.rows true .iop]⟩ (.cond .u (.seq .u (.cut ⟨[(4,.c (.pb 1 7 0)),(5,.c (.pb 2 7 0))],[.box (.agg [.rows true .u8,.int .i64]),.box (.agg [.int .i64,.int .i64,.nil,.int .i64,.int .i64,.int .i64,.int .i64]),.box (.agg [.int .i64,.int .i64,.own 3,.int .i64,.int .i64,.int .i64,.int .i64]),.rows true .iop]⟩ (.cond .u (.seq .u (.cut ⟨[(4,.c (.pb 1 7 0)),(5,.c (.pb 2 7 0))],[.box (.agg [.rows true .u8,.int .i64]),.box (.agg [.int .i64,.int .i64,.nil,.int .i64,.int .i64,.int .i64,.int .i64]),.box (.agg [.int .i64,.int .i64,.own 3,.int .i64,.int .i64,.int .i64,.int .i64]),.rows true .iop]⟩ (.cond .u (.seq .u (.cut ⟨[(4,.c (.pb 1 7 0)),(5,.c (.pb 2 7 0))],[.box (.agg [.rows true .u8,.int .i64]),.box (.agg [.int .i64,.int .i64,.nil,.int .i64,.int .i64,.int .i64,.int .i64]),.box (.agg [.int .i64,.int .i64,.own 3,.int .i64,.int .i64,.int .i64,.int .i64]),.rows true .iop]⟩ (.cond .u (.seq .u (.cut ⟨[(4,.c (.pb 1 7 0)),(5,.c (.pb 2 7 0))],[.box (.agg [.rows true .u8,.int .i64]),.box (.agg [.int .i64,.int .i64,.nil,.int .i64,.int .i64,.int .i64,.int .i64]),.box (.agg [.int .i64,.int .i64,.own 3,.int .i64,.int .i64,.int .i64,.int .i64]),.rows true .iop]⟩ (.cond (.seq .u (.cut ⟨[(4,.c (.pb 1 7 0)),(5,.c (.pb 2 7 0))],[.box (.agg [.rows true .u8,.int .i64]),.box (.agg [.int .i64,.int .i64,.nil,.int .i64,.int .i64,.int .i64,.int .i64]),.box (.agg [.int .i64,.int .i64,.own 3,.int .i64,.int .i64,.int .i64,.int .i64]),.rows true .iop]⟩ (.cond .u .u))) (.seq .u (.cut ⟨[(4,.c (.pb 1 7 0)),(5,.c (.pb 2 7 0))],[.box (.agg [.rows true .u8,.int .i64]),.box (.agg [.int .i64,.int .i64,.nil,.int .i64,.int .i64,.int .i64,.int .i64]),.box (.agg [.int .i64,.int .i64,.own 3,.int .i64,.int .i64,.int .i64,.int .i64]),.rows true .iop]⟩ (.cond .u .u)))))))))))))))))))))))))) .u))))) Eo Tryz.f151 [(61,⟨_,bN⟩),(113,⟨_,jd⟩)] (JH A bN.pre bN.fn jd.pre jd.fn):=fun _=>by kernel_rfl
theorem af9 (A:Alg) (FW:Ct A.ah DC) (bN:Ct A.ah fH) (FX:Ct A.ah Eo) (FY:Ct A.ah Ee): @Ru aF.z X E A [(15,[(0,([5],[])),(1,([54],[])),(2,([],[])),(3,([0],[])),(7,([5],[])),(8,([61],[])),(9,([62],[])),(4,([57],[1,8])),(5,([56,58],[])),(6,([59],[])),(10,([60,63],[])),(11,([64],[])),(12,([55,65],[])),(13,([5],[])),(14,([66,67],[]))])] (.seq .u (.seq .u (.seq (.seq .u (.cut ⟨[(4,.c (.pb 1 7 0)),(5,.c (.pb 2 7 0))],[.box (.agg [.rows true .u8,.int .i64]),.box (.agg [.int .i64,.int .i64,.nil,.int .i64,.int .i64,.int .i64,.int .i64]),.box (.agg [.int .i64,.int .i64,.own 3,.int .i64,.int .i64,.int .i64,.int .i64]),.rows true .iop]⟩ (.cond (.seq .u (.block (.seq .u (.cut ⟨[(4,.c (.pb 1 7 0)),(5,.c (.pb 2 7 0))],[.box (.agg [.rows true .u8,.int .i64]),.box (.agg [.int .i64,.int .i64,.nil,.int .i64,.int .i64,.int .i64,.int .i64]),.box (.agg [.int .i64,.int .i64,.own 3,.int .i64,.int .i64,.int .i64,.int .i64]),.rows true .iop]⟩ (.cond .u (.seq .u (.cut ⟨[(4,.c (.pb 1 7 0)),(5,.c (.pb 2 7 0))],[.box (.agg [.rows true .u8,.int .i64]),.box (.agg [.int .i64,.int .i64,.nil,.int .i64,.int .i64,.int .i64,.int .i64]),.box (.agg [.int .i64,.int .i64,.own 3,.int .i64,.int .i64,.int .i64,.int .i64]),.rows true .iop]⟩ (.cond .u (.seq .u (.cut ⟨[(4,.c (.pb 1 7 0)),(5,.c (.pb 2 7 0))],[.box (.agg [.rows true .u8,.int .i64]),.box (.agg [.int .i64,.int .i64,.nil,.int .i64,.int .i64,.int .i64,.int .i64]),.box (.agg [.int .i64,.int .i64,.own 3,.int .i64,.int .i64,.int .i64,.int .i64]),.rows true .iop]⟩ (.cond (.block (.loop ⟨[(4,.c (.pb 1 7 0)),(5,.c (.pb 2 7 0))],[.box (.agg [.rows true .u8,.int .i64]),.box (.agg [.int .i64,.int .i64,.nil,.int .i64,.int .i64,.int .i64,.int .i64]),.box (.agg [.int .i64,.int .i64,.own 3,.int .i64,.int .i64,.int .i64,.int .i64]),.rows true .iop]⟩ .u)) (.seq .u (.cut ⟨[(4,.c (.pb 1 7 0)),(5,.c (.pb 2 7 0))],[.box (.agg [.rows true .u8,.int .i64]),.box (.agg [.int .i64,.int .i64,.nil,.int .i64,.int .i64,.int .i64,.int .i64]),.box (.agg [.int .i64,.int .i64,.own 3,.int .i64,.int .i64,.int .i64,.int .i64]),.rows true .iop]⟩ (.cond .u .u)))))))))))))) .u))) .u))) Ep Tryz.f98 [(158,⟨_,FW⟩),(61,⟨_,bN⟩),(151,⟨_,FX⟩),(66,⟨_,FY⟩)] (QT A FW.pre FW.fn bN.pre bN.fn FX.pre FX.fn FY.pre FY.fn):=fun _=>by kernel_rfl
end Go.TX.Seat
namespace Go.TX.Seat
open Go Go.AE Go.TX Go.TX.F Go.Proofs
set_option maxRecDepth 100000
theorem alS (A:Alg) (aU:Ct A.ah bY): @Ru aF.z X E A [] .u AX Tryz.f164 [(121,⟨_,aU⟩)] (Xr A aU.pre aU.fn):=fun _=>by kernel_rfl
theorem alT (A:Alg) (aU:Ct A.ah bY): @Ru aF.z X E A [] .u AY Tryz.f165 [(121,⟨_,aU⟩)] (Xt A aU.pre aU.fn):=fun _=>by kernel_rfl
theorem alU (A:Alg) (aU:Ct A.ah bY) (wF:Ct A.ah AX) (wC:Ct A.ah AQ) (dW:Ct A.ah iF) (wG:Ct A.ah AY): @Ru aF.z X E A [] .u AZ Tryz.f108 [(121,⟨_,aU⟩),(164,⟨_,wF⟩),(142,⟨_,wC⟩),(67,⟨_,dW⟩),(165,⟨_,wG⟩)] (Xu A aU.pre aU.fn wF.pre wF.fn wC.pre wC.fn dW.pre dW.fn wG.pre wG.fn):=fun _=>by kernel_rfl
theorem alV (A:Alg) (fQ:Ct A.ah jl): @Ru aF.z X E A [] .u L9 Tryz.f168 [(69,⟨_,fQ⟩)] (Xx A fQ.pre fQ.fn):=fun _=>by kernel_rfl
theorem alW (A:Alg) (Na:Ct A.ah L9): @Ru aF.z X E A [] .u Ma Tryz.f167 [(168,⟨_,Na⟩)] (Xy A Na.pre Na.fn):=fun _=>by kernel_rfl
theorem aga (A:Alg) (Nb:Ct A.ah Ma): @Ru aF.z X E A [] (.seq .u (.seq (.seq .u (.block (.loop ⟨[(0,.c (.rows false .atom)),(1,.c (.fn 167 [(0,4)])),(7,.c (.int .i64)),(8,.c (.int .i64))],[.box (.sv false .atom)]⟩ .u))) .u)) Er Tryz.f166 [(167,⟨_,Nb⟩)] (QU A Nb.pre Nb.fn):=fun _=>by kernel_rfl
theorem alX (A:Alg) (FZ:Ct A.ah Er): @Ru aF.z X E A [] .u A8 Tryz.f109 [(166,⟨_,FZ⟩)] (Xz A FZ.pre FZ.fn):=fun _=>by kernel_rfl
theorem alY (A:Alg) (wH:Ct A.ah AZ) (wI:Ct A.ah A8): @Ru aF.z X E A [] (.seq .u (.seq (.seq .u (.block (.loop ⟨[(1,.c (.pb 0 1 0)),(6,.c (.rows false .atom)),(7,.c (.int .i64)),(8,.c (.int .i64))],[.box (.sv false .tab)]⟩ .u))) .u)) Mc Tryz.f38 [(108,⟨_,wH⟩),(109,⟨_,wI⟩)] (XA A wH.pre wH.fn wI.pre wI.fn):=fun _=>by kernel_rfl
theorem alZ (A:Alg) (aU:Ct A.ah bY): @Ru aF.z X E A [] .u uj Tryz.f100 [(121,⟨_,aU⟩)] (XF A aU.pre aU.fn):=fun _=>by kernel_rfl
theorem al0 (A:Alg) (aU:Ct A.ah bY): @Ru aF.z X E A [] .u Md Tryz.f199 [(121,⟨_,aU⟩)] (XG A aU.pre aU.fn):=fun _=>by kernel_rfl
theorem al1 (A:Alg) (Nc:Ct A.ah Md) (aU:Ct A.ah bY): @Ru aF.z X E A [] .u A9 Tryz.f172 [(199,⟨_,Nc⟩),(121,⟨_,aU⟩)] (XH A Nc.pre Nc.fn aU.pre aU.fn):=fun _=>by kernel_rfl
theorem al2 (A:Alg) (wJ:Ct A.ah A9) (mR:Ct A.ah uj) (fP:Ct A.ah jm) (aU:Ct A.ah bY) (wF:Ct A.ah AX) (wG:Ct A.ah AY): @Ru ⟨[],[27,40]⟩ X E A [(5,[(0,([],[])),(1,([5],[])),(2,([28],[])),(5,([5],[])),(6,([31],[])),(9,([5],[])),(10,([34],[])),(13,([5],[])),(14,([37],[])),(18,([5],[])),(19,([41],[])),(3,([29],[6,10,14,19])),(4,([27,30],[])),(7,([32],[10,14,19])),(8,([27,33],[])),(11,([35],[14,19])),(12,([27,36],[])),(15,([38],[19])),(16,([27,39],[])),(17,([27],[])),(20,([30,33,36,39,40,42],[])),(21,([43],[]))])] .u Me Tryz.f122 [(172,⟨_,wJ⟩),(100,⟨_,mR⟩),(78,⟨_,fP⟩),(121,⟨_,aU⟩),(164,⟨_,wF⟩),(165,⟨_,wG⟩)] (XI A wJ.pre wJ.fn mR.pre mR.fn fP.pre fP.fn aU.pre aU.fn wF.pre wF.fn wG.pre wG.fn):=fun _=>by kernel_rfl
theorem al3 (A:Alg): @Ru aF.z X E A [(1,[(0,([1],[])),(1,([5],[])),(2,([6],[])),(3,([1],[])),(4,([8],[])),(5,([9],[])),(6,([1],[])),(7,([11],[])),(8,([12],[])),(9,([7],[])),(10,([10],[])),(11,([13],[]))])] .u um Tryz.f106 [] (XJ A):=fun _=>by kernel_rfl
theorem al4 (A:Alg) (mU:Ct A.ah um) (wJ:Ct A.ah A9) (fP:Ct A.ah jm) (aU:Ct A.ah bY): @Ru aF.z X E A [] .u Mf Tryz.f123 [(106,⟨_,mU⟩),(172,⟨_,wJ⟩),(78,⟨_,fP⟩),(121,⟨_,aU⟩)] (XK A mU.pre mU.fn wJ.pre wJ.fn fP.pre fP.fn aU.pre aU.fn):=fun _=>by kernel_rfl
theorem al5 (A:Alg) (Ng:Ct A.ah Mf) (Nh:Ct A.ah Me) (aU:Ct A.ah bY): @Ru aF.z X E A [] (.seq .u (.seq .u (.seq (.seq .u (.block (.loop ⟨[(1,.c (.pb 0 7 0)),(25,.c (.int .i64)),(26,.c (.int .i64))],[.box (.sv false .blk)]⟩ .u))) .u))) uo Tryz.f51 [(123,⟨_,Ng⟩),(122,⟨_,Nh⟩),(121,⟨_,aU⟩)] (XL A Ng.pre Ng.fn Nh.pre Nh.fn aU.pre aU.fn):=fun _=>by kernel_rfl
theorem al6 (A:Alg): @Ru aF.z X E A [] .u Mg Tryz.f198 [] (XM A):=fun _=>by kernel_rfl
theorem al7 (A:Alg) (wH:Ct A.ah AZ) (wI:Ct A.ah A8) (Ni:Ct A.ah Mg): @Ru aF.z X E A [(6,[(0,([2],[])),(1,([28],[])),(3,([3],[])),(4,([31],[])),(2,([29],[3])),(5,([30,32],[])),(6,([33],[])),(7,([],[])),(8,([7,34],[]))]),(7,[(0,([7],[])),(1,([2],[])),(2,([36],[])),(3,([37],[])),(4,([4,35],[2])),(5,([38],[]))])] .u Ba Tryz.f162 [(108,⟨_,wH⟩),(109,⟨_,wI⟩),(198,⟨_,Ni⟩)] (XO A wH.pre wH.fn wI.pre wI.fn Ni.pre Ni.fn):=fun _=>by kernel_rfl
theorem al8 (A:Alg) (aU:Ct A.ah bY): @Ru aF.z X E A [] .u Bb Tryz.f163 [(121,⟨_,aU⟩)] (XP A aU.pre aU.fn):=fun _=>by kernel_rfl
theorem al9 (A:Alg) (wK:Ct A.ah Bb) (wL:Ct A.ah Ba): @Ru aF.z X E A [] .u Bc Tryz.f105 [(163,⟨_,wK⟩),(162,⟨_,wL⟩)] (XQ A wK.pre wK.fn wL.pre wL.fn):=fun _=>by kernel_rfl
theorem ama (A:Alg) (wM:Ct A.ah Bc): @Ru aF.z X E A [] (.seq .u (.seq .u (.seq (.seq .u (.block (.loop ⟨[(0,.c (.pb 0 2 0)),(3,.c (.own 1)),(5,.c (.int .i64))],[.box (.agg [.rows true .atom,.bool]),.rows true .poly]⟩ .u))) .u))) Bd Tryz.f99 [(105,⟨_,wM⟩)] (XY A wM.pre wM.fn):=fun _=>by kernel_rfl
theorem amb (A:Alg) (aU:Ct A.ah bY): @Ru aF.z X E A [] .u Mh Tryz.f101 [(121,⟨_,aU⟩)] (XZ A aU.pre aU.fn):=fun _=>by kernel_rfl
theorem amc (A:Alg): @Ru aF.z X E A [] .u Mi Tryz.f102 [] (X0 A):=fun _=>by kernel_rfl
theorem amd (A:Alg) (aU:Ct A.ah bY): @Ru aF.z X E A [] .u uw Tryz.f103 [(121,⟨_,aU⟩)] (X3 A aU.pre aU.fn):=fun _=>by kernel_rfl
theorem ame (A:Alg): @Ru aF.z X E A [] .u uz Tryz.f169 [] (X4 A):=fun _=>by kernel_rfl
theorem amf (A:Alg) (fP:Ct A.ah jm) (mV:Ct A.ah uz): @Ru aF.z X E A [] .u Mj Tryz.f112 [(78,⟨_,fP⟩),(169,⟨_,mV⟩)] (X5 A fP.pre fP.fn mV.pre mV.fn):=fun _=>by kernel_rfl
theorem amg (A:Alg) (jo:Ct A.ah nX): @Ru aF.z X E A [] .u Bf Tryz.f224 [(82,⟨_,jo⟩)] (X6 A jo.pre jo.fn):=fun _=>by kernel_rfl
theorem agb (A:Alg) (nY:Ct A.ah Bf): @Ru aF.z X E A [(4,[(0,([9],[])),(1,([1],[])),(2,([18,19],[])),(3,([20],[])),(4,([3,21],[])),(5,([0,21],[])),(6,([9,21],[])),(7,([21,23,24],[])),(8,([21,25],[])),(9,([0,21],[])),(10,([9,21],[])),(11,([21,28],[])),(12,([21,27,29],[])),(13,([21,30],[])),(14,([21,22,26,31],[])),(15,([21,32],[])),(16,([21,33],[]))]),(6,[(0,([0],[])),(1,([9],[])),(2,([0],[])),(3,([9],[])),(4,([40],[])),(5,([0],[])),(6,([9],[])),(7,([43],[])),(8,([42,44],[])),(9,([45],[])),(10,([0],[])),(11,([9],[])),(12,([47,48],[])),(13,([49],[])),(14,([37,38],[])),(15,([46,51],[])),(16,([39,41],[])),(17,([50,52],[]))])] (.seq .u (.block (.loop ⟨[(0,.c (.own 0)),(1,.c (.int .i64)),(2,.c (.int .i64)),(3,.c (.fn 224 [])),(8,.c (.int .i64))],[.rows false .mono]⟩ (.seq .u (.seq (.block (.seq .u (.block (.loop ⟨[(0,.c (.own 0)),(1,.c (.int .i64)),(2,.c (.int .i64)),(3,.c (.fn 224 [])),(8,.c (.int .i64)),(9,.c (.int .i64))],[.rows false .mono]⟩ .u)))) .u))))) Es Tryz.f240 [(224,⟨_,nY⟩)] (QV A nY.pre nY.fn):=fun _=>by kernel_rfl
theorem agc (A:Alg): @Ru aF.z X E A [(3,[(0,([0],[])),(1,([1],[])),(2,([10],[])),(3,([17,18],[])),(4,([0],[])),(5,([2],[])),(6,([10],[])),(7,([21,22],[])),(8,([0],[])),(9,([2],[])),(10,([10],[])),(11,([25,26],[])),(12,([24,27],[])),(13,([28],[])),(14,([0],[])),(15,([1],[])),(16,([10],[])),(17,([31,32],[])),(18,([30,33],[])),(19,([34],[])),(20,([16,19],[])),(21,([29,36],[])),(22,([20,23],[])),(23,([35,37],[]))])] (.seq .u (.block (.loop ⟨[(0,.c (.own 0)),(1,.c (.int .i64)),(2,.c (.int .i64)),(3,.c (.int .i64)),(10,.c (.int .i64))],[.rows false .mono]⟩ .u))) Eu Tryz.f249 [] (QW A):=fun _=>by kernel_rfl
theorem agd (A:Alg) (F3:Ct A.ah Eu): @Ru aF.z X E A [] (.seq .u (.seq .u (.seq (.block (.loop ⟨[(0,.c (.own 0)),(2,.c (.int .i64)),(4,.c (.fn 224 [])),(10,.c (.int .i64)),(11,.c (.int .i64))],[.rows false .mono]⟩ (.seq .u (.block (.seq .u (.cut ⟨[(0,.c (.own 0)),(2,.c (.int .i64)),(4,.c (.fn 224 [])),(10,.c (.int .i64)),(11,.c (.int .i64))],[.rows false .mono]⟩ (.cond .u .u))))))) .u))) Ew Tryz.f247 [(249,⟨_,F3⟩)] (QX A F3.pre F3.fn):=fun _=>by kernel_rfl
theorem agf (A:Alg) (nY:Ct A.ah Bf) (qY:Ct A.ah Ew) (pF:Ct A.ah mK): @Ru aF.z X E A [(5,[(0,([4],[])),(1,([0],[])),(2,([12],[])),(3,([41,42],[])),(4,([43],[])),(5,([0],[])),(6,([1],[])),(7,([45,46],[])),(8,([47],[])),(9,([40,44,48],[])),(10,([49],[]))]),(11,[(0,([0],[])),(1,([13],[])),(2,([0],[])),(3,([13],[])),(4,([64],[])),(5,([0],[])),(6,([13],[])),(7,([67],[])),(8,([66,68],[])),(9,([69],[])),(10,([0],[])),(11,([13],[])),(12,([71,72],[])),(13,([73],[])),(14,([61,62],[])),(15,([70,75],[])),(16,([63,65],[])),(17,([74,76],[]))]),(17,[(0,([4],[])),(1,([0],[])),(2,([2],[])),(3,([93,94],[])),(4,([95],[])),(5,([0],[])),(6,([16],[])),(7,([97,98],[])),(8,([99],[])),(9,([92,96,100],[])),(10,([101],[])),(11,([102],[]))]),(23,[(0,([0],[])),(1,([17],[])),(2,([0],[])),(3,([17],[])),(4,([116],[])),(5,([0],[])),(6,([17],[])),(7,([119],[])),(8,([118,120],[])),(9,([121],[])),(10,([0],[])),(11,([17],[])),(12,([123,124],[])),(13,([125],[])),(14,([113,114],[])),(15,([122,127],[])),(16,([115,117],[])),(17,([126,128],[]))]),(35,[(0,([4],[])),(1,([0],[])),(2,([22],[])),(3,([23],[])),(4,([160,161],[])),(5,([159,162],[])),(6,([163],[])),(7,([0],[])),(8,([23],[])),(9,([165,166],[])),(10,([167],[])),(11,([158,164,168],[])),(12,([169],[])),(13,([170],[]))])] (.seq (.seq .u (.cond (.seq .u (.seq .u (.seq (.block (.loop ⟨[(0,.c (.own 0)),(1,.c (.int .i64)),(4,.c (.fn 224 [])),(10,.c (.int .i64)),(11,.c (.int .i64))],[.rows false .mono]⟩ (.seq .u (.block (.seq .u (.seq .u (.cut ⟨[(0,.c (.own 0)),(1,.c (.int .i64)),(4,.c (.fn 224 [])),(10,.c (.int .i64)),(11,.c (.int .i64))],[.rows false .mono]⟩ (.cond .u .u)))))))) (.seq (.seq .u (.block (.loop ⟨[(0,.c (.own 0)),(10,.c (.int .i64)),(13,.c (.int .i64))],[.rows false .mono]⟩ .u))) .u)))) .u)) (.seq (.seq .u (.cond (.seq .u (.seq .u (.seq (.block (.loop ⟨[(0,.c (.own 0)),(2,.c (.int .i64)),(4,.c (.fn 224 [])),(14,.c (.int .i64)),(15,.c (.int .i64))],[.rows false .mono]⟩ (.seq .u (.block (.seq .u (.seq .u (.cut ⟨[(0,.c (.own 0)),(2,.c (.int .i64)),(4,.c (.fn 224 [])),(14,.c (.int .i64)),(15,.c (.int .i64))],[.rows false .mono]⟩ (.cond .u .u)))))))) (.seq (.seq .u (.block (.loop ⟨[(0,.c (.own 0)),(14,.c (.int .i64)),(17,.c (.int .i64))],[.rows false .mono]⟩ .u))) .u)))) .u)) (.seq .u (.seq .u (.seq .u (.seq (.seq .u (.cut ⟨[(0,.c (.own 0)),(1,.c (.int .i64)),(2,.c (.int .i64)),(3,.c (.int .i64)),(4,.c (.fn 224 [])),(18,.c (.int .i64)),(19,.c (.int .i64)),(20,.c (.int .i64)),(21,.c (.int .i64))],[.rows false .mono]⟩ (.cond .u .u))) (.seq .u (.seq (.block (.loop ⟨[(0,.c (.own 0)),(1,.c (.int .i64)),(2,.c (.int .i64)),(3,.c (.int .i64)),(4,.c (.fn 224 [])),(18,.c (.int .i64)),(19,.c (.int .i64)),(20,.c (.int .i64)),(21,.c (.int .i64)),(22,.c (.int .i64))],[.rows false .mono]⟩ (.seq .u (.block (.seq .u (.seq .u (.cut ⟨[(0,.c (.own 0)),(1,.c (.int .i64)),(2,.c (.int .i64)),(3,.c (.int .i64)),(4,.c (.fn 224 [])),(18,.c (.int .i64)),(19,.c (.int .i64)),(20,.c (.int .i64)),(21,.c (.int .i64)),(22,.c (.int .i64))],[.rows false .mono]⟩ (.cond .u .u)))))))) (.seq .u (.seq (.seq .u (.cut ⟨[(0,.c (.own 0)),(1,.c (.int .i64)),(3,.c (.int .i64)),(4,.c (.fn 224 [])),(18,.c (.int .i64)),(20,.c (.int .i64)),(24,.c (.int .i64))],[.rows false .mono]⟩ (.cond .u .u))) (.seq (.seq .u (.cut ⟨[(0,.c (.own 0)),(3,.c (.int .i64)),(4,.c (.fn 224 [])),(18,.c (.int .i64)),(24,.c (.int .i64))],[.rows false .mono]⟩ (.cond .u .u))) (.seq .u (.cut ⟨[],[.rows false .mono]⟩ (.cond .u .u)))))))))))))) mK Tryz.f241 [(224,⟨_,nY⟩),(247,⟨_,qY⟩),(241,⟨_,pF⟩)] (E8 A nY.pre nY.fn qY.pre qY.fn pF.pre pF.fn):=fun _=>by kernel_rfl
theorem agh (A:Alg) (F4:Ct A.ah Es) (pF:Ct A.ah mK): @Ru aF.z X E A [] (.seq .u (.seq .u (.seq (.block (.loop ⟨[(0,.c (.own 0)),(1,.c (.int .i64)),(2,.c (.fn 224 [])),(6,.c (.int .i64)),(7,.c (.int .i64)),(8,.c (.int .i64))],[.rows false .mono]⟩ .u)) (.seq .u (.block (.loop ⟨[(0,.c (.own 0)),(1,.c (.int .i64)),(2,.c (.fn 224 [])),(6,.c (.int .i64))],[.rows false .mono]⟩ (.seq .u (.block (.seq .u (.seq (.block (.loop ⟨[(0,.c (.own 0)),(1,.c (.int .i64)),(2,.c (.fn 224 [])),(6,.c (.int .i64)),(7,.c (.int .i64)),(8,.c (.int .i64))],[.rows false .mono]⟩ .u)) (.seq (.seq .u (.seq .u (.cut ⟨[(0,.c (.own 0)),(1,.c (.int .i64)),(2,.c (.fn 224 [])),(6,.c (.int .i64))],[.rows false .mono]⟩ (.cond .u .u)))) .u))))))))))) Ey Tryz.f229 [(240,⟨_,F4⟩),(241,⟨_,pF⟩)] (Q0 A F4.pre F4.fn pF.pre pF.fn):=fun _=>by kernel_rfl
theorem agi (A:Alg) (F5:Ct A.ah Ey): @Ru aF.z X E A [] .u Ez Tryz.f223 [(229,⟨_,F5⟩)] (Q5 A F5.pre F5.fn):=fun _=>by kernel_rfl
theorem amh (A:Alg) (jo:Ct A.ah nX) (dW:Ct A.ah iF) (mV:Ct A.ah uz) (wD:Ct A.ah AV) (F6:Ct A.ah Ez): @Ru ⟨[51],[]⟩ X E A [(5,[(0,([0],[])),(1,([5],[])),(2,([14,15],[])),(3,([16],[])),(5,([],[])),(4,([],[])),(6,([7,17],[]))]),(6,[(0,([5],[])),(1,([0],[])),(2,([19],[])),(3,([18,20],[])),(4,([21],[])),(5,([7,22],[])),(6,([22,23],[])),(7,([0,22],[])),(8,([5,22],[])),(9,([22,25,26],[])),(10,([22,27],[])),(11,([22,28],[])),(12,([22,24,29],[])),(13,([22,30],[])),(14,([22,31],[]))]),(10,[(0,([4],[])),(1,([45],[])),(2,([6],[])),(3,([7],[])),(4,([48],[])),(5,([49],[1])),(6,([47,50],[])),(7,([51],[1])),(8,([46,52],[])),(9,([4],[])),(10,([53,54],[]))])] (.seq .u (.seq .u (.seq .u (.seq (.seq .u (.block (.loop ⟨[(0,.c (.own 0)),(2,.c (.pb 1 1 0)),(4,.c (.pb 2 1 0)),(5,.c (.int .i64))],[.rows false .mono,.box (.agg [.nil]),.box (.agg [.own 3]),.rows true .mono]⟩ (.seq .u (.block (.seq .u (.seq (.block (.loop ⟨[(0,.c (.own 0)),(2,.c (.pb 1 1 0)),(4,.c (.pb 2 1 0)),(5,.c (.int .i64)),(6,.c (.int .i64)),(7,.c (.pb 3 2 0))],[.rows false .mono,.box (.agg [.nil]),.box (.agg [.own 4]),.box (.sv false .mono),.rows true .mono]⟩ .u)) (.seq .u (.cut ⟨[(0,.c (.own 0)),(2,.c (.pb 1 1 0)),(4,.c (.pb 2 1 0)),(5,.c (.int .i64))],[.rows false .mono,.box (.agg [.nil]),.box (.agg [.own 3]),.rows true .mono]⟩ (.cond .u .u)))))))))) .u)))) Bg Tryz.f217 [(82,⟨_,jo⟩),(67,⟨_,dW⟩),(169,⟨_,mV⟩),(189,⟨_,wD⟩),(223,⟨_,F6⟩)] (X9 A jo.pre jo.fn dW.pre dW.fn mV.pre mV.fn wD.pre wD.fn F6.pre F6.fn):=fun _=>by kernel_rfl
theorem agj (A:Alg): @Ru aF.z X E A [] (.seq .u (.seq .u (.seq (.seq .u (.seq .u (.cut ⟨[(0,.c (.own 0))],[.rows true .mono]⟩ (.cond .u .u)))) .u))) EA Tryz.f225 [] (Q6 A):=fun _=>by kernel_rfl
theorem ami (A:Alg) (F7:Ct A.ah EA): @Ru aF.z X E A [] (.seq .u (.seq .u (.seq (.seq .u (.block (.loop ⟨[(0,.c (.rows false .poly)),(3,.c (.int .i64)),(9,.c (.rows false .poly)),(10,.c (.int .i64)),(11,.c (.int .i64))],[]⟩ .u))) (.seq .u (.seq (.seq .u (.block (.loop ⟨[(6,.c (.own 0)),(25,.c (.rows false .poly)),(26,.c (.int .i64)),(27,.c (.int .i64))],[.rows false .mono]⟩ .u))) .u))))) Mk Tryz.f218 [(225,⟨_,F7⟩)] (Ya A F7.pre F7.fn):=fun _=>by kernel_rfl
theorem amj (A:Alg) (dW:Ct A.ah iF) (wN:Ct A.ah Bg) (Nj:Ct A.ah Mk): @Ru aF.z X E A [] .u Ml Tryz.f195 [(67,⟨_,dW⟩),(217,⟨_,wN⟩),(218,⟨_,Nj⟩)] (Yb A dW.pre dW.fn wN.pre wN.fn Nj.pre Nj.fn):=fun _=>by kernel_rfl
theorem agk (A:Alg): @Ru aF.z X E A [] (.seq .u (.seq .u (.seq (.seq .u (.seq .u (.cut ⟨[(0,.c (.own 0))],[.rows true .i64]⟩ (.cond .u .u)))) .u))) EB Tryz.f226 [] (Q7 A):=fun _=>by kernel_rfl
theorem amk (A:Alg) (F8:Ct A.ah EB): @Ru aF.z X E A [] (.seq .u (.seq .u (.seq (.seq .u (.block (.loop ⟨[(0,.c (.rows false .ints)),(3,.c (.int .i64)),(9,.c (.rows false .ints)),(10,.c (.int .i64)),(11,.c (.int .i64))],[]⟩ .u))) (.seq .u (.seq (.seq .u (.block (.loop ⟨[(6,.c (.own 0)),(25,.c (.rows false .ints)),(26,.c (.int .i64)),(27,.c (.int .i64))],[.rows true .i64]⟩ .u))) .u))))) Mq Tryz.f219 [(226,⟨_,F8⟩)] (Ye A F8.pre F8.fn):=fun _=>by kernel_rfl
theorem agl (A:Alg) (xU:Ct A.ah Eh): @Ru aF.z X E A [(4,[(0,([7],[])),(1,([1],[])),(2,([16,17],[])),(3,([18],[])),(4,([0,19],[])),(5,([7,19],[])),(6,([19,20,21],[])),(7,([19,22],[])),(8,([0,19],[])),(9,([7,19],[])),(10,([19,25],[])),(11,([19,24,26],[])),(12,([19,27],[])),(13,([19,23,28],[])),(14,([19,29],[]))]),(6,[(0,([0],[])),(1,([7],[])),(2,([0],[])),(3,([7],[])),(4,([36],[])),(5,([0],[])),(6,([7],[])),(7,([39],[])),(8,([38,40],[])),(9,([41],[])),(10,([0],[])),(11,([7],[])),(12,([43,44],[])),(13,([45],[])),(14,([33,34],[])),(15,([42,47],[])),(16,([35,37],[])),(17,([46,48],[]))])] (.seq .u (.block (.loop ⟨[(0,.c (.own 0)),(1,.c (.int .i64)),(2,.c (.int .i64)),(6,.c (.int .i64))],[.rows true .i64]⟩ (.seq .u (.seq (.block (.seq .u (.block (.loop ⟨[(0,.c (.own 0)),(1,.c (.int .i64)),(2,.c (.int .i64)),(6,.c (.int .i64)),(7,.c (.int .i64))],[.rows true .i64]⟩ .u)))) .u))))) EC Tryz.f230 [(185,⟨_,xU⟩)] (Q8 A xU.pre xU.fn):=fun _=>by kernel_rfl
theorem agm (A:Alg) (xU:Ct A.ah Eh) (F9:Ct A.ah EC) (zZ:Ct A.ah ED) (z8:Ct A.ah EF) (Aa:Ct A.ah EG) (Ab:Ct A.ah EH) (Ac:Ct A.ah EI) (Ad:Ct A.ah EJ) (Ae:Ct A.ah EK) (qZ:Ct A.ah oL): @Ru aF.z X E A [(17,[(0,([1],[])),(1,([73],[])),(2,([74],[])),(3,([0,75],[])),(4,([1,75],[])),(5,([75,77],[])),(6,([75,76,78],[])),(7,([75,79],[])),(8,([0,75],[])),(9,([11,75],[])),(10,([75,81,82],[])),(11,([75,83],[])),(12,([75,80,84],[])),(13,([75,85],[])),(14,([75,86],[]))])] (.seq .u (.seq .u (.block (.loop ⟨[(0,.c (.own 0)),(1,.c (.int .i64)),(2,.c (.int .i64)),(3,.c (.int .i64)),(8,.c (.bool)),(9,.c (.bool))],[.rows true .i64]⟩ (.cut ⟨[(0,.c (.own 0)),(1,.c (.int .i64)),(2,.c (.int .i64)),(3,.c (.int .i64)),(8,.c (.bool)),(9,.c (.bool))],[.rows true .i64]⟩ (.block (.seq .u (.seq .u (.seq .u (.seq (.seq .u (.cut ⟨[(0,.c (.own 0)),(1,.c (.int .i64)),(2,.c (.int .i64)),(3,.c (.int .i64)),(8,.c (.bool)),(9,.c (.bool)),(10,.c (.int .i64))],[.rows true .i64]⟩ (.cond .u .u))) (.seq .u (.seq (.seq .u (.cut ⟨[(0,.c (.own 0)),(1,.c (.int .i64)),(2,.c (.int .i64)),(3,.c (.int .i64)),(8,.c (.bool)),(9,.c (.bool)),(10,.c (.int .i64)),(11,.c (.int .i64)),(12,.c (.int .i64))],[.rows true .i64]⟩ (.cond .u .u))) (.seq (.seq .u (.cut ⟨[(0,.c (.own 0)),(1,.c (.int .i64)),(2,.c (.int .i64)),(3,.c (.int .i64)),(8,.c (.bool)),(9,.c (.bool)),(10,.c (.int .i64)),(11,.c (.int .i64))],[.rows true .i64]⟩ (.cond .u .u))) (.seq .u (.seq .u (.seq .u (.seq .u (.seq .u (.seq .u (.cut ⟨[(0,.c (.own 0)),(1,.c (.int .i64)),(2,.c (.int .i64)),(3,.c (.int .i64)),(8,.c (.bool)),(9,.c (.bool))],[.rows true .i64]⟩ (.cond .u .u))))))))))))))))))))) oL Tryz.f227 [(185,⟨_,xU⟩),(230,⟨_,F9⟩),(231,⟨_,zZ⟩),(232,⟨_,z8⟩),(233,⟨_,Aa⟩),(234,⟨_,Ab⟩),(235,⟨_,Ac⟩),(236,⟨_,Ad⟩),(237,⟨_,Ae⟩),(227,⟨_,qZ⟩)] (Q9 A xU.pre xU.fn F9.pre F9.fn zZ.pre zZ.fn z8.pre z8.fn Aa.pre Aa.fn Ab.pre Ab.fn Ac.pre Ac.fn Ad.pre Ad.fn Ae.pre Ae.fn qZ.pre qZ.fn):=fun _=>by kernel_rfl
theorem agn (A:Alg) (qZ:Ct A.ah oL) (Ga:Ct A.ah TM): @Ru aF.z X E A [] .u EL Tryz.f220 [(227,⟨_,qZ⟩),(228,⟨_,Ga⟩)] (Ra A qZ.pre qZ.fn Ga.pre Ga.fn):=fun _=>by kernel_rfl
theorem aml (A:Alg) (dW:Ct A.ah iF) (mV:Ct A.ah uz) (wN:Ct A.ah Bg) (Nk:Ct A.ah Mq) (Gb:Ct A.ah EL): @Ru aF.z X E A [] (.seq .u (.seq .u (.seq .u (.seq (.seq .u (.block (.loop ⟨[(3,.c (.pb 0 1 0)),(4,.c (.pb 1 1 0)),(6,.c (.own 2)),(22,.c (.rows false .mono)),(23,.c (.int .i64)),(24,.c (.int .i64))],[.box (.sv false .poly),.box (.agg [.nil]),.rows true .mono]⟩ (.seq .u (.seq .u (.seq (.block (.seq .u (.seq .u (.block (.loop ⟨[(3,.c (.pb 0 1 0)),(4,.c (.pb 1 1 0)),(6,.c (.own 2)),(8,.c (.pb 3 2 0)),(22,.c (.rows false .mono)),(23,.c (.int .i64)),(24,.c (.int .i64)),(29,.c (.rows false .mono)),(30,.c (.int .i64)),(31,.c (.int .i64))],[.box (.sv false .poly),.box (.agg [.nil]),.rows true .mono,.box (.sv false .mono)]⟩ .u))))) .u)))))) .u)))) Bh Tryz.f197 [(67,⟨_,dW⟩),(169,⟨_,mV⟩),(217,⟨_,wN⟩),(219,⟨_,Nk⟩),(220,⟨_,Gb⟩)] (Yf A dW.pre dW.fn mV.pre mV.fn wN.pre wN.fn Nk.pre Nk.fn Gb.pre Gb.fn):=fun _=>by kernel_rfl
theorem amm (A:Alg) (dW:Ct A.ah iF) (mW:Ct A.ah uw) (fP:Ct A.ah jm) (wO:Ct A.ah Bh): @Ru aF.z X E A [(3,[(0,([2],[])),(1,([1],[])),(2,([18],[0])),(3,([17,19],[])),(4,([20],[])),(5,([16],[])),(6,([16],[])),(7,([],[])),(8,([5,21],[])),(9,([22],[]))])] .u Mr Tryz.f196 [(67,⟨_,dW⟩),(103,⟨_,mW⟩),(78,⟨_,fP⟩),(197,⟨_,wO⟩)] (Yg A dW.pre dW.fn mW.pre mW.fn fP.pre fP.fn wO.pre wO.fn):=fun _=>by kernel_rfl
theorem amn (A:Alg) (fQ:Ct A.ah jl) (mW:Ct A.ah uw) (Nl:Ct A.ah Mj) (Nn:Ct A.ah Ml) (wO:Ct A.ah Bh) (Np:Ct A.ah Mr) (wE:Ct A.ah AU): @Ru aF.z X E A [(5,[(0,([4],[])),(1,([5],[])),(2,([23],[0])),(3,([22,24],[])),(4,([25],[])),(5,([25],[])),(6,([6,26],[])),(7,([27],[]))])] (.seq .u (.seq .u (.seq .u (.seq .u (.seq .u (.seq (.seq .u (.cut ⟨[(0,.c (.int .i64)),(4,.c (.pb 0 1 0)),(6,.c (.pb 1 1 0)),(10,.c (.int .i64)),(11,.c (.bool))],[.box (.sv true .poly),.box (.agg [.nil])]⟩ (.cond .u .u))) .u)))))) Ms Tryz.f161 [(69,⟨_,fQ⟩),(103,⟨_,mW⟩),(112,⟨_,Nl⟩),(195,⟨_,Nn⟩),(197,⟨_,wO⟩),(196,⟨_,Np⟩),(22,⟨_,wE⟩)] (Yj A fQ.pre fQ.fn mW.pre mW.fn Nl.pre Nl.fn Nn.pre Nn.fn wO.pre wO.fn Np.pre Np.fn wE.pre wE.fn):=fun _=>by kernel_rfl
theorem amo (A:Alg) (mQ:Ct A.ah ug) (Nq:Ct A.ah Ms) (wL:Ct A.ah Ba) (wK:Ct A.ah Bb): @Ru aF.z X E A [(3,[(0,([4],[])),(1,([11],[])),(2,([8,23],[1])),(3,([9,24],[])),(4,([],[]))]),(9,[(0,([13],[])),(1,([14],[])),(2,([49],[0])),(3,([8,48],[])),(4,([9,50],[])),(5,([],[]))])] (.seq .u (.seq .u (.seq (.seq .u (.cut ⟨[(1,.c (.int .i64)),(4,.c (.pb 0 1 0)),(6,.c (.pb 1 1 0)),(7,.c (.pb 2 1 0)),(8,.c (.pb 3 1 0)),(9,.c (.pb 4 1 0))],[.box (.sv true .tab),.box (.sv true .poly),.box (.sv true .poly),.box (.agg [.nil]),.box (.agg [.nil])]⟩ (.cond .u .u))) .u))) Mt Tryz.f104 [(24,⟨_,mQ⟩),(161,⟨_,Nq⟩),(162,⟨_,wL⟩),(163,⟨_,wK⟩)] (Yk A mQ.pre mQ.fn Nq.pre Nq.fn wL.pre wL.fn wK.pre wK.fn):=fun _=>by kernel_rfl
theorem amq (A:Alg) (mP:Ct A.ah uh): @Ru ⟨[25],[]⟩ X E A [(5,[(0,([3],[])),(1,([13],[])),(2,([5],[])),(3,([15],[])),(4,([5],[])),(5,([17],[])),(6,([5],[])),(7,([19],[])),(9,([5],[])),(10,([22],[])),(8,([20],[1,3,5,10])),(11,([23],[1,3,5])),(12,([16,18,21,24],[])),(13,([25],[1])),(14,([14,26],[])),(15,([3],[])),(16,([27,28],[]))])] (.seq .u (.seq .u (.seq (.seq .u (.block (.loop ⟨[(2,.c (.pb 0 1 0)),(3,.c (.pb 1 1 0)),(7,.c (.rows false .atom)),(8,.c (.int .i64)),(9,.c (.int .i64))],[.box (.agg [.nil]),.box (.agg [.own 2]),.rows true .atom]⟩ .u))) .u))) Bj Tryz.f107 [(146,⟨_,mP⟩)] (Yl A mP.pre mP.fn):=fun _=>by kernel_rfl
theorem amr (A:Alg) (mU:Ct A.ah um) (mX:Ct A.ah uo) (Nr:Ct A.ah Mh) (mR:Ct A.ah uj) (mW:Ct A.ah uw) (Ns:Ct A.ah L6) (Nt:Ct A.ah Mc) (wP:Ct A.ah Bj) (Nu:Ct A.ah Mt) (wM:Ct A.ah Bc) (wQ:Ct A.ah Bd) (Nv:Ct A.ah Mi): @Ru aF.z X E A [(4,[(0,([6],[])),(2,([3],[])),(3,([47],[])),(4,([3],[])),(5,([49],[])),(1,([45],[3,5])),(6,([46,48,50],[])),(7,([],[])),(8,([7,51],[]))]),(27,[(0,([6],[])),(1,([134],[])),(2,([135],[])),(3,([136],[])),(4,([12],[])),(5,([138],[])),(6,([17],[])),(7,([18],[])),(8,([137,139,140,141],[])),(9,([142],[])),(10,([133],[])),(11,([133],[])),(12,([133],[])),(13,([],[])),(14,([],[])),(15,([20,143],[])),(16,([21,144],[])),(17,([145],[]))]),(30,[(0,([6],[])),(1,([8],[])),(2,([11],[])),(3,([20],[])),(4,([21],[])),(5,([150],[])),(6,([155],[])),(7,([153,156],[4])),(8,([151,152],[])),(9,([154,157],[]))]),(47,[(0,([6],[])),(1,([213],[])),(2,([214],[])),(3,([215],[])),(5,([7],[])),(6,([3],[])),(7,([219],[])),(8,([3],[])),(9,([221],[])),(10,([220,222],[])),(4,([216],[5,7,9])),(11,([218,223],[])),(12,([4,217],[])),(13,([5,224],[]))])] (.seq .u (.seq .u (.seq .u (.seq .u (.seq .u (.seq .u (.seq (.seq .u (.block (.loop ⟨[(3,.c (.pb 0 7 0)),(4,.c (.pb 1 1 0)),(5,.c (.pb 2 6 0)),(6,.c (.pb 3 2 0)),(7,.c (.pb 4 6 0)),(8,.c (.own 5)),(9,.c (.int .i64)),(10,.c (.int .i64)),(57,.c (.rows false .iop)),(58,.c (.int .i64)),(59,.c (.int .i64))],[.box (.sv false .blk),.box (.agg [.nil]),.box (.agg [.nil,.nil,.int .i64,.nil,.nil,.int .i64]),.box (.agg [.rows true .atom,.bool]),.box (.agg [.own 6,.own 7,.int .i64,.nil,.nil,.int .i64]),.rows true .poly,.rows true .ev,.rows true .poly]⟩ (.seq .u (.seq .u (.seq (.block (.seq .u (.seq .u (.seq .u (.seq (.seq .u (.cut ⟨[(3,.c (.pb 0 7 0)),(4,.c (.pb 1 1 0)),(5,.c (.pb 2 6 0)),(6,.c (.pb 3 2 0)),(7,.c (.pb 4 6 0)),(8,.c (.own 5)),(9,.c (.int .i64)),(10,.c (.int .i64)),(11,.c (.int .i64)),(12,.c (.pb 6 5 0)),(14,.c (.bool)),(17,.c (.pb 7 1 0)),(18,.c (.pb 8 1 0)),(57,.c (.rows false .iop)),(58,.c (.int .i64)),(59,.c (.int .i64))],[.box (.sv false .blk),.box (.agg [.nil]),.box (.agg [.nil,.nil,.int .i64,.nil,.nil,.int .i64]),.box (.agg [.rows true .atom,.bool]),.box (.agg [.own 9,.own 10,.int .i64,.nil,.nil,.int .i64]),.rows true .poly,.box (.sv false .iop),.box (.sv true .poly),.box (.agg [.nil]),.rows true .ev,.rows true .poly]⟩ (.cond .u .u))) (.seq (.seq .u (.cut ⟨[(3,.c (.pb 0 7 0)),(4,.c (.pb 1 1 0)),(5,.c (.pb 2 6 0)),(6,.c (.pb 3 2 0)),(7,.c (.pb 4 6 0)),(8,.c (.own 5)),(9,.c (.int .i64)),(10,.c (.int .i64)),(11,.c (.int .i64)),(12,.c (.pb 6 5 0)),(17,.c (.pb 7 1 0)),(18,.c (.pb 8 1 0)),(57,.c (.rows false .iop)),(58,.c (.int .i64)),(59,.c (.int .i64))],[.box (.sv false .blk),.box (.agg [.nil]),.box (.agg [.nil,.nil,.int .i64,.nil,.nil,.int .i64]),.box (.agg [.rows true .atom,.bool]),.box (.agg [.own 9,.own 10,.int .i64,.nil,.nil,.int .i64]),.rows true .poly,.box (.sv false .iop),.box (.sv true .poly),.box (.sv true .poly),.rows true .ev,.rows true .poly]⟩ (.cond .u .u))) (.seq (.seq .u (.cut ⟨[(3,.c (.pb 0 7 0)),(4,.c (.pb 1 1 0)),(5,.c (.pb 2 6 0)),(6,.c (.pb 3 2 0)),(7,.c (.pb 4 6 0)),(8,.c (.own 5)),(9,.c (.int .i64)),(10,.c (.int .i64)),(11,.c (.int .i64)),(12,.c (.pb 6 5 0)),(17,.c (.pb 7 1 0)),(18,.c (.pb 8 1 0)),(57,.c (.rows false .iop)),(58,.c (.int .i64)),(59,.c (.int .i64))],[.box (.sv false .blk),.box (.agg [.nil]),.box (.agg [.nil,.nil,.int .i64,.nil,.nil,.int .i64]),.box (.agg [.rows true .atom,.bool]),.box (.agg [.own 9,.own 10,.int .i64,.nil,.nil,.int .i64]),.rows true .poly,.box (.sv false .iop),.box (.sv true .poly),.box (.sv true .poly),.rows true .ev,.rows true .poly]⟩ (.cond (.seq .u (.seq (.seq .u (.cut ⟨[(3,.c (.pb 0 7 0)),(4,.c (.pb 1 1 0)),(5,.c (.pb 2 6 0)),(6,.c (.pb 3 2 0)),(7,.c (.pb 4 6 0)),(8,.c (.own 5)),(9,.c (.int .i64)),(10,.c (.int .i64)),(11,.c (.int .i64)),(12,.c (.pb 6 5 0)),(17,.c (.pb 7 1 0)),(18,.c (.pb 8 1 0)),(19,.c (.pb 9 5 0)),(57,.c (.rows false .iop)),(58,.c (.int .i64)),(59,.c (.int .i64))],[.box (.sv false .blk),.box (.agg [.nil]),.box (.agg [.nil,.nil,.int .i64,.nil,.nil,.int .i64]),.box (.agg [.rows true .atom,.bool]),.box (.agg [.own 10,.own 11,.int .i64,.nil,.nil,.int .i64]),.rows true .poly,.box (.sv false .iop),.box (.sv true .poly),.box (.sv true .poly),.box (.agg [.int .i64,.int .i64,.rows true .mono,.rows true .mono,.own 12]),.rows true .ev,.rows true .poly,.rows true .poly]⟩ (.cond .u .u))) .u)) .u))) (.seq .u (.block (.seq .u (.cut ⟨[(3,.c (.pb 0 7 0)),(4,.c (.pb 1 1 0)),(5,.c (.pb 2 6 0)),(6,.c (.pb 3 2 0)),(7,.c (.pb 4 6 0)),(8,.c (.own 5)),(9,.c (.int .i64)),(10,.c (.int .i64)),(57,.c (.rows false .iop)),(58,.c (.int .i64)),(59,.c (.int .i64))],[.box (.sv false .blk),.box (.agg [.nil]),.box (.agg [.nil,.nil,.int .i64,.nil,.nil,.int .i64]),.box (.agg [.rows true .atom,.bool]),.box (.agg [.own 6,.own 7,.int .i64,.nil,.nil,.int .i64]),.rows true .poly,.rows true .ev,.rows true .poly]⟩ (.cond .u (.seq .u (.cut ⟨[(3,.c (.pb 0 7 0)),(4,.c (.pb 1 1 0)),(5,.c (.pb 2 6 0)),(6,.c (.pb 3 2 0)),(7,.c (.pb 4 6 0)),(8,.c (.own 5)),(9,.c (.int .i64)),(10,.c (.int .i64)),(57,.c (.rows false .iop)),(58,.c (.int .i64)),(59,.c (.int .i64))],[.box (.sv false .blk),.box (.agg [.nil]),.box (.agg [.nil,.nil,.int .i64,.nil,.nil,.int .i64]),.box (.agg [.rows true .atom,.bool]),.box (.agg [.own 6,.own 7,.int .i64,.nil,.nil,.int .i64]),.rows true .poly,.rows true .ev,.rows true .poly]⟩ (.cond .u (.seq .u (.cut ⟨[(3,.c (.pb 0 7 0)),(4,.c (.pb 1 1 0)),(5,.c (.pb 2 6 0)),(6,.c (.pb 3 2 0)),(7,.c (.pb 4 6 0)),(8,.c (.own 5)),(9,.c (.int .i64)),(10,.c (.int .i64)),(57,.c (.rows false .iop)),(58,.c (.int .i64)),(59,.c (.int .i64))],[.box (.sv false .blk),.box (.agg [.nil]),.box (.agg [.nil,.nil,.int .i64,.nil,.nil,.int .i64]),.box (.agg [.rows true .atom,.bool]),.box (.agg [.own 6,.own 7,.int .i64,.nil,.nil,.int .i64]),.rows true .poly,.rows true .ev,.rows true .poly]⟩ (.cond .u (.seq .u (.cut ⟨[(3,.c (.pb 0 7 0)),(4,.c (.pb 1 1 0)),(5,.c (.pb 2 6 0)),(6,.c (.pb 3 2 0)),(7,.c (.pb 4 6 0)),(8,.c (.own 5)),(9,.c (.int .i64)),(10,.c (.int .i64)),(57,.c (.rows false .iop)),(58,.c (.int .i64)),(59,.c (.int .i64))],[.box (.sv false .blk),.box (.agg [.nil]),.box (.agg [.nil,.nil,.int .i64,.nil,.nil,.int .i64]),.box (.agg [.rows true .atom,.bool]),.box (.agg [.own 6,.own 7,.int .i64,.nil,.nil,.int .i64]),.rows true .poly,.rows true .ev,.rows true .poly]⟩ (.cond .u (.seq .u (.cut ⟨[(3,.c (.pb 0 7 0)),(4,.c (.pb 1 1 0)),(5,.c (.pb 2 6 0)),(6,.c (.pb 3 2 0)),(7,.c (.pb 4 6 0)),(8,.c (.own 5)),(9,.c (.int .i64)),(10,.c (.int .i64)),(57,.c (.rows false .iop)),(58,.c (.int .i64)),(59,.c (.int .i64))],[.box (.sv false .blk),.box (.agg [.nil]),.box (.agg [.nil,.nil,.int .i64,.nil,.nil,.int .i64]),.box (.agg [.rows true .atom,.bool]),.box (.agg [.own 6,.own 7,.int .i64,.nil,.nil,.int .i64]),.rows true .poly,.rows true .ev,.rows true .poly]⟩ (.cond .u (.seq .u (.cut ⟨[(3,.c (.pb 0 7 0)),(4,.c (.pb 1 1 0)),(5,.c (.pb 2 6 0)),(6,.c (.pb 3 2 0)),(7,.c (.pb 4 6 0)),(8,.c (.own 5)),(9,.c (.int .i64)),(10,.c (.int .i64)),(57,.c (.rows false .iop)),(58,.c (.int .i64)),(59,.c (.int .i64))],[.box (.sv false .blk),.box (.agg [.nil]),.box (.agg [.nil,.nil,.int .i64,.nil,.nil,.int .i64]),.box (.agg [.rows true .atom,.bool]),.box (.agg [.own 6,.own 7,.int .i64,.nil,.nil,.int .i64]),.rows true .poly,.rows true .ev,.rows true .poly]⟩ (.cond .u .u))))))))))))))))))))))))))) .u)))))) (.seq .u (.seq (.seq .u (.cut ⟨[(3,.c (.pb 0 7 0)),(4,.c (.pb 1 1 0)),(5,.c (.pb 2 6 0)),(6,.c (.pb 3 2 0)),(7,.c (.pb 4 6 0)),(8,.c (.own 5)),(24,.c (.bool))],[.box (.sv false .blk),.box (.agg [.nil]),.box (.agg [.nil,.nil,.int .i64,.nil,.nil,.int .i64]),.box (.agg [.rows true .atom,.bool]),.box (.agg [.own 6,.own 7,.int .i64,.rows true .mono,.nil,.int .i64]),.rows true .poly,.rows true .ev,.rows true .poly]⟩ (.cond .u .u))) (.seq (.seq .u (.cut ⟨[(3,.c (.pb 0 7 0)),(4,.c (.pb 1 1 0)),(5,.c (.pb 2 6 0)),(6,.c (.pb 3 2 0)),(7,.c (.pb 4 6 0))],[.box (.sv false .blk),.box (.agg [.nil]),.box (.agg [.nil,.nil,.int .i64,.nil,.nil,.int .i64]),.box (.agg [.rows true .atom,.bool]),.box (.agg [.own 5,.own 6,.int .i64,.rows true .mono,.rows true .mono,.int .i64]),.rows true .ev,.rows true .poly]⟩ (.cond .u .u))) .u)))))))))) Mv Tryz.f37 [(106,⟨_,mU⟩),(51,⟨_,mX⟩),(101,⟨_,Nr⟩),(100,⟨_,mR⟩),(103,⟨_,mW⟩),(16,⟨_,Ns⟩),(38,⟨_,Nt⟩),(107,⟨_,wP⟩),(104,⟨_,Nu⟩),(105,⟨_,wM⟩),(99,⟨_,wQ⟩),(102,⟨_,Nv⟩)] (Ym A mU.pre mU.fn mX.pre mX.fn Nr.pre Nr.fn mR.pre mR.fn mW.pre mW.fn Ns.pre Ns.fn Nt.pre Nt.fn wP.pre wP.fn Nu.pre Nu.fn wM.pre wM.fn wQ.pre wQ.fn Nv.pre Nv.fn):=fun _=>by kernel_rfl
theorem agp (A:Alg): @Ru aF.z X E A [(6,[(0,([0],[])),(1,([5],[])),(2,([16,17],[])),(3,([18],[])),(4,([1],[])),(5,([5],[])),(6,([20,21],[])),(7,([22],[])),(8,([19,23],[]))])] (.seq .u (.seq .u (.seq (.seq .u (.block (.loop ⟨[(0,.c (.rows false .iop)),(1,.c (.rows false .iop)),(12,.c (.int .i64)),(13,.c (.int .i64))],[]⟩ .u))) .u))) EM Tryz.f152 [] (Rb A):=fun _=>by kernel_rfl
theorem ams (A:Alg) (Gc:Ct A.ah EM): @Ru aF.z X E A [] .u Mw Tryz.f84 [(152,⟨_,Gc⟩)] (Yr A Gc.pre Gc.fn):=fun _=>by kernel_rfl
theorem amt (A:Alg) (wP:Ct A.ah Bj) (wQ:Ct A.ah Bd): @Ru aF.z X E A [] .u Mx Tryz.f85 [(107,⟨_,wP⟩),(99,⟨_,wQ⟩)] (Yt A wP.pre wP.fn wQ.pre wQ.fn):=fun _=>by kernel_rfl
theorem amu (A:Alg) (fQ:Ct A.ah jl): @Ru aF.z X E A [] .u MB Tryz.f191 [(69,⟨_,fQ⟩)] (Yu A fQ.pre fQ.fn):=fun _=>by kernel_rfl
theorem agq (A:Alg) (Nw:Ct A.ah MB): @Ru aF.z X E A [] (.seq .u (.seq .u (.seq (.seq .u (.block (.loop ⟨[(1,.c (.rows false .poly)),(2,.c (.fn 191 [])),(15,.c (.rows false .poly)),(16,.c (.int .i64)),(17,.c (.int .i64))],[]⟩ .u))) .u))) EN Tryz.f190 [(191,⟨_,Nw⟩)] (Rc A Nw.pre Nw.fn):=fun _=>by kernel_rfl
theorem amv (A:Alg) (Gd:Ct A.ah EN): @Ru aF.z X E A [] .u Bn Tryz.f155 [(190,⟨_,Gd⟩)] (Yv A Gd.pre Gd.fn):=fun _=>by kernel_rfl
theorem amw (A:Alg) (fQ:Ct A.ah jl) (wR:Ct A.ah Bn): @Ru aF.z X E A [] .u MC Tryz.f154 [(69,⟨_,fQ⟩),(155,⟨_,wR⟩)] (Yw A fQ.pre fQ.fn wR.pre wR.fn):=fun _=>by kernel_rfl
theorem agr (A:Alg) (Ny:Ct A.ah MC): @Ru aF.z X E A [] (.seq .u (.seq .u (.seq (.seq .u (.block (.loop ⟨[(1,.c (.rows false .ev)),(2,.c (.fn 154 [])),(15,.c (.rows false .ev)),(16,.c (.int .i64)),(17,.c (.int .i64))],[]⟩ .u))) .u))) EO Tryz.f153 [(154,⟨_,Ny⟩)] (Rf A Ny.pre Ny.fn):=fun _=>by kernel_rfl
theorem amx (A:Alg) (fQ:Ct A.ah jl) (wR:Ct A.ah Bn) (Gf:Ct A.ah EO): @Ru aF.z X E A [] .u ME Tryz.f86 [(69,⟨_,fQ⟩),(155,⟨_,wR⟩),(153,⟨_,Gf⟩)] (Yz A fQ.pre fQ.fn wR.pre wR.fn Gf.pre Gf.fn):=fun _=>by kernel_rfl
theorem aqk (A:Alg) (mX:Ct A.ah uo) (Nz:Ct A.ah Mw) (NA:Ct A.ah Mx) (NC:Ct A.ah Mv) (ND:Ct A.ah ME): @Ru aF.z X E A [] .u WL Tryz.f26 [(51,⟨_,mX⟩),(84,⟨_,Nz⟩),(85,⟨_,NA⟩),(37,⟨_,NC⟩),(86,⟨_,ND⟩)] (afe A mX.pre mX.fn Nz.pre Nz.fn NA.pre NA.fn NC.pre NC.fn ND.pre ND.fn):=fun _=>by kernel_rfl
end Go.TX.Seat
