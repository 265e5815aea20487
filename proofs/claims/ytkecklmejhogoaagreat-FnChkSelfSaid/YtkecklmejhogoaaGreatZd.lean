/- Part 4 of a proof: what the last part needs. No condition. -/
import Derived.Test.YtkecklmejhogoaaGreatZc
import Derived.Test.YtkecklmejhogoaaGreatProg
import Derived.KernelRfl
set_option linter.all false
set_option linter.unusedSectionVars false
set_option linter.unusedVariables false
set_option linter.unusedSimpArgs false
namespace Go.TX.F
open Go Go.AE Go.TX
set_option maxRecDepth 100000
@[reducible] def dK : Sig := ⟨[.c (.pb 0 2 0), .c (.int .i64)], [.box (.agg [.rows true .u8, .int .i64])], [.c (.int .i64)], [.box (.agg [.rows true .u8, .int .i64])]⟩
@[reducible] def Eo : Sig := ⟨[.c (.pb 0 2 0), .c (.int .i64)], [.box (.agg [.rows true .u8, .int .i64])], [.c .bool], [.box (.agg [.rows true .u8, .int .i64])]⟩
@[reducible] def fK : Sig := ⟨[.c (.int .i64), .c (.int .i64), .c (.int .i64)], [], [.c .bool], []⟩
@[reducible] def mZ : Sig := ⟨[.c (.int .i64)], [], [.c .bool], []⟩
@[reducible] def Ep : Sig := ⟨[.c (.int .i64)], [], [.c .bool], []⟩
@[reducible] def uo : Sig := ⟨[.c (.rows false .iop), .c (.int .i64), .c (.int .i64)], [], [.c .bool], []⟩
@[reducible] def Er : Sig := ⟨[.c (.rows false .iop), .c (.int .i64), .c (.int .i64)], [], [.c .bool], []⟩
@[reducible] def Es : Sig := ⟨[.sv false .blk], [], [.c .bool], []⟩
@[reducible] def fM : Sig := ⟨[.sv false .blk], [], [.c .bool], []⟩
@[reducible] def jS : Sig := ⟨[.sv false .blk], [], [.agg [.int .i64, .int .i64, .own 0, .int .i64, .int .i64, .int .i64, .int .i64]], [.rows true .iop]⟩
@[reducible] def uw : Sig := ⟨[.sv false .iop, .c (.rows false .i64)], [], [.sv true .iop], []⟩
@[reducible] def nu : Sig := ⟨[.sv false .blk], [], [.agg [.int .i64, .int .i64, .own 0, .int .i64, .int .i64, .int .i64, .int .i64]], [.rows true .iop]⟩
@[reducible] def uz : Sig := ⟨[.sv false .blk, .c (.rows false .bool)], [], [.agg [.int .i64, .int .i64, .own 0, .int .i64, .int .i64, .int .i64, .int .i64]], [.rows true .iop]⟩
@[reducible] def Eu : Sig := ⟨[.sv false .blk], [], [.c (.own 0)], [.rows true .bool]⟩
@[reducible] def Ew : Sig := ⟨[.sv false .blk], [], [.agg [.int .i64, .int .i64, .own 0, .int .i64, .int .i64, .int .i64, .int .i64]], [.rows true .iop]⟩
@[reducible] def Ey : Sig := ⟨[.c (.rows false .iop), .c (.int .i64)], [], [.c .bool], []⟩
@[reducible] def Ez : Sig := ⟨[.sv false .blk], [], [.agg [.int .i64, .int .i64, .own 0, .int .i64, .int .i64, .int .i64, .int .i64]], [.rows true .iop]⟩
@[reducible] def uD : Sig := ⟨[.c (.rows false .iop), .c (.int .i64)], [], [.c (.int .i64), .c .bool], []⟩
@[reducible] def EA : Sig := ⟨[.c (.int .i64)], [], [.c (.int .i64)], []⟩
@[reducible] def EB : Sig := ⟨[.c (.int .i64), .c (.int .i64), .c (.int .i64)], [], [.c (.int .i64)], []⟩
@[reducible] def EC : Sig := ⟨[.sv false .blk, .c (.int .i64)], [], [.agg [.int .i64, .int .i64, .rows false .iop, .int .i64, .int .i64, .int .i64, .int .i64]], []⟩
@[reducible] def ED : Sig := ⟨[.sv false .blk], [], [.sv false .blk], []⟩
@[reducible] def EF : Sig := ⟨[.sv false .blk], [], [.sv false .blk], []⟩
@[reducible] def uE : Sig := ⟨[.sv false .blk], [], [.agg [.int .i64, .int .i64, .own 0, .int .i64, .int .i64, .int .i64, .int .i64]], [.rows true .iop]⟩
@[reducible] def EG : Sig := ⟨[.c (.pb 0 2 0)], [.box (.agg [.rows true .u8, .int .i64])], [.agg [.int .i64, .int .i64, .int .i64, .int .i64]], [.box (.agg [.rows true .u8, .int .i64])]⟩
@[reducible] def EH : Sig := ⟨[.sv false .ins], [], [.c .bool], []⟩
@[reducible] def uF : Sig := ⟨[.sv false .ins], [], [.c .bool], []⟩
@[reducible] def uG : Sig := ⟨[.c (.int .i64)], [], [.c .bool], []⟩
@[reducible] def uH : Sig := ⟨[.sv false .ins], [], [.c .bool], []⟩
@[reducible] def EI : Sig := ⟨[.c (.pb 0 2 0)], [.box (.agg [.rows true .u8, .int .i64])], [.agg [.int .i64, .int .i64, .int .i64, .int .i64]], [.box (.agg [.rows true .u8, .int .i64])]⟩
@[reducible] def EJ : Sig := ⟨[.c (.pb 0 2 0)], [.box (.agg [.rows true .u8, .int .i64])], [.c (.own 1)], [.box (.agg [.rows true .u8, .int .i64]), .rows true .ins]⟩
@[reducible] def EK : Sig := ⟨[.c (.int .i64), .c (.rows false .ins)], [], [.c .bool], []⟩
@[reducible] def iK : Sig := ⟨[.agg [.int .i64, .int .i64, .own 0, .int .i64, .int .i64, .int .i64, .int .i64], .sv false .iop], [.rows true .iop], [.agg [.int .i64, .int .i64, .own 1, .int .i64, .int .i64, .int .i64, .int .i64], .c (.int .i64)], [.gone, .rows true .iop]⟩
@[reducible] def uI : Sig := ⟨[.agg [.int .i64, .int .i64, .own 0, .int .i64, .int .i64, .int .i64, .int .i64], .c (.int .i64), .c (.int .i64)], [.rows true .iop], [.agg [.int .i64, .int .i64, .own 1, .int .i64, .int .i64, .int .i64, .int .i64]], [.gone, .rows true .iop]⟩
@[reducible] def jT : Sig := ⟨[.agg [.int .i64, .int .i64, .own 0, .int .i64, .int .i64, .int .i64, .int .i64], .c (.int .i64)], [.rows true .iop], [.agg [.int .i64, .int .i64, .own 1, .int .i64, .int .i64, .int .i64, .int .i64], .c (.int .i64)], [.gone, .rows true .iop]⟩
@[reducible] def uJ : Sig := ⟨[.agg [.int .i64, .int .i64, .own 0, .int .i64, .int .i64, .int .i64, .int .i64], .c (.int .i64), .c (.int .i64), .sv false .iop], [.rows true .iop], [.agg [.int .i64, .int .i64, .own 1, .int .i64, .int .i64, .int .i64, .int .i64], .c (.int .i64)], [.gone, .rows true .iop]⟩
@[reducible] def EL : Sig := ⟨[.c (.int .i64)], [], [.c (.int .i64)], []⟩
@[reducible] def EM : Sig := ⟨[.agg [.int .i64, .int .i64, .own 0, .int .i64, .int .i64, .int .i64, .int .i64], .sv false .ins, .c (.int .i64)], [.rows true .iop], [.agg [.int .i64, .int .i64, .own 1, .int .i64, .int .i64, .int .i64, .int .i64]], [.gone, .rows true .iop]⟩
@[reducible] def EN : Sig := ⟨[.agg [.int .i64, .int .i64, .own 0, .int .i64, .int .i64, .int .i64, .int .i64], .sv false .ins], [.rows true .iop], [.agg [.int .i64, .int .i64, .own 1, .int .i64, .int .i64, .int .i64, .int .i64]], [.gone, .rows true .iop]⟩
@[reducible] def EO : Sig := ⟨[.agg [.int .i64, .int .i64, .own 0, .int .i64, .int .i64, .int .i64, .int .i64], .sv false .ins, .c (.int .i64)], [.rows true .iop], [.agg [.int .i64, .int .i64, .own 1, .int .i64, .int .i64, .int .i64, .int .i64]], [.gone, .rows true .iop]⟩
@[reducible] def EP : Sig := ⟨[.c (.int .i64), .c (.rows false .ins)], [], [.agg [.int .i64, .int .i64, .own 0, .int .i64, .int .i64, .int .i64, .int .i64]], [.rows true .iop]⟩
@[reducible] def ER : Sig := ⟨[.c (.pb 0 2 0)], [.box (.agg [.rows true .u8, .int .i64])], [.agg [.int .i64, .int .i64, .own 1, .int .i64, .int .i64, .int .i64, .int .i64]], [.box (.agg [.rows true .u8, .int .i64]), .rows true .iop]⟩
@[reducible] def uK : Sig := ⟨[.c (.pb 0 2 0), .sv false .blk], [.box (.agg [.rows true .u8, .int .i64])], [.agg [.int .i64, .int .i64, .own 1, .int .i64, .int .i64, .int .i64, .int .i64]], [.box (.agg [.rows true .u8, .int .i64]), .rows true .iop]⟩
@[reducible] def ET : Sig := ⟨[.c (.pb 0 2 0), .c (.int .i64)], [.box (.agg [.rows true .u8, .int .i64])], [.sv true .blk], [.box (.agg [.rows true .u8, .int .i64])]⟩
@[reducible] def EU : Sig := ⟨[.c (.rows true .u8)], [], [.c (.pb 0 2 0)], [.box (.agg [.rows true .u8, .int .i64])]⟩
@[reducible] def cZ : Sig := ⟨[.c (.int .i64), .c (.int .i64), .c (.int .i64)], [], [.c .bool], []⟩
@[reducible] def jD : Sig := ⟨[.c (.int .i64)], [], [.c .bool], []⟩
@[reducible] def Bw : Sig := ⟨[.sv false .iop], [], [.c .bool, .c .bool, .c .bool, .c .bool], []⟩
@[reducible] def Bz : Sig := ⟨[.c (.int .i64)], [], [.c .bool], []⟩
@[reducible] def BA : Sig := ⟨[.c (.int .i64)], [], [.c .bool], []⟩
@[reducible] def MR : Sig := ⟨[.sv false .iop], [], [.c .bool], []⟩
@[reducible] def BD : Sig := ⟨[.sv false .blk, .c (.int .i64), .c (.int .i64)], [], [.c .bool], []⟩
@[reducible] def MS : Sig := ⟨[.sv false .blk, .c (.int .i64)], [], [.c .bool], []⟩
@[reducible] def BF : Sig := ⟨[.sv false .blk], [], [.c .bool, .c .bool, .c .bool], []⟩
@[reducible] def MU : Sig := ⟨[.sv false .blk], [], [.c .bool], []⟩
@[reducible] def BG : Sig := ⟨[.sv false .blk], [], [.c .bool], []⟩
@[reducible] def MV : Sig := ⟨[], [], [.c .bool], []⟩
@[reducible] def EW : Sig := ⟨[.c (.rows false .iop), .c (.rows false .iop)], [], [.c .bool], []⟩
@[reducible] def MW : Sig := ⟨[.sv false .blk, .sv false .blk], [], [.c .bool], []⟩
@[reducible] def MX : Sig := ⟨[.c (.int .i64), .c (.pb 0 1 0)], [.box (.c (.int .i64))], [.c .bool], [.box (.c (.int .i64))]⟩
@[reducible] def EX : Sig := ⟨[.c (.rows false .i64), .c (.fn 252 [(0, 1)])], [.box (.c (.int .i64))], [.c (.int .i64)], [.box (.c (.int .i64))]⟩
@[reducible] def EY : Sig := ⟨[.c (.rows false .i64), .c (.fn 252 [(0, 1)])], [.box (.c (.int .i64))], [.c .bool], [.box (.c (.int .i64))]⟩
@[reducible] def BH : Sig := ⟨[.sv false .poly, .c (.int .i64)], [], [.c .bool], []⟩
@[reducible] def MZ : Sig := ⟨[.c (.int .i64)], [], [.c .bool], []⟩
@[reducible] def EZ : Sig := ⟨[.c (.int .i64), .c (.int .i64)], [], [.c (.int .i64)], []⟩
@[reducible] def M0 : Sig := ⟨[.c (.rows false .i64)], [], [.c (.int .i64)], []⟩
@[reducible] def M4 : Sig := ⟨[.c (.rows false .i64), .c (.rows false .i64)], [], [.c (.int .i64)], []⟩
@[reducible] def ow : Sig := ⟨[.c (.rows false .i64), .c (.rows false .i64)], [], [.c (.int .i64)], []⟩
@[reducible] def E5 : Sig := ⟨[.c (.int .i64), .c (.int .i64)], [], [.c .bool], []⟩
@[reducible] def E8 : Sig := ⟨[.c (.rows false .i64)], [], [.c .bool], []⟩
@[reducible] def M5 : Sig := ⟨[.sv false .mono], [], [.c .bool], []⟩
@[reducible] def E9 : Sig := ⟨[.c (.rows false .mono), .c (.fn 223 [])], [], [.c (.int .i64)], []⟩
@[reducible] def Fa : Sig := ⟨[.c (.rows false .mono), .c (.fn 223 [])], [], [.c .bool], []⟩
@[reducible] def iL : Sig := ⟨[.sv false .poly], [], [.c .bool], []⟩
@[reducible] def BI : Sig := ⟨[.sv false .atom, .c (.int .i64)], [], [.c .bool], []⟩
@[reducible] def uL : Sig := ⟨[.sv false .poly, .sv false .poly], [], [.c (.int .i64)], []⟩
@[reducible] def jE : Sig := ⟨[.sv false .poly, .sv false .poly], [], [.c .bool], []⟩
@[reducible] def M6 : Sig := ⟨[.sv false .atom, .sv false .atom], [], [.c .bool], []⟩
@[reducible] def M7 : Sig := ⟨[.sv false .atom, .c (.pb 0 4 0)], [.box (.sv false .atom)], [.c .bool], [.box (.sv false .atom)]⟩
@[reducible] def Fb : Sig := ⟨[.c (.rows false .atom), .c (.fn 212 [(0, 4)])], [.box (.sv false .atom)], [.c (.int .i64)], [.box (.sv false .atom)]⟩
@[reducible] def BJ : Sig := ⟨[.sv false .tab, .sv false .atom], [], [.c (.int .i64)], []⟩
@[reducible] def M8 : Sig := ⟨[.c (.rows true .atom)], [], [.c (.clip true .atom)], []⟩
@[reducible] def BK : Sig := ⟨[.sv true .tab, .sv true .atom], [], [.sv true .tab, .c (.int .i64)], []⟩
@[reducible] def BL : Sig := ⟨[.c (.int .i64)], [], [.agg [.own 0]], [.rows true .mono]⟩
@[reducible] def BM : Sig := ⟨[.c (.pb 0 2 0), .c (.int .i64), .c (.int .i64)], [.box (.agg [.rows true .atom, .bool])], [.sv true .poly], [.box (.agg [.rows true .atom, .bool])]⟩
@[reducible] def BN : Sig := ⟨[.c (.pb 0 2 0)], [.box (.agg [.rows true .atom, .bool])], [.c (.own 1)], [.box (.agg [.rows true .atom, .bool]), .rows true .poly]⟩
@[reducible] def BO : Sig := ⟨[.c (.rows false .i64)], [], [.c (.own 0)], [.rows true .i64]⟩
@[reducible] def uM : Sig := ⟨[.sv false .poly], [], [.agg [.own 0]], [.rows true .mono]⟩
@[reducible] def BP : Sig := ⟨[.sv false .tab], [], [.agg [.own 0]], [.rows true .atom]⟩
@[reducible] def M9 : Sig := ⟨[], [], [.sv true .tab, .c (.rows true .poly)], []⟩
@[reducible] def BQ : Sig := ⟨[.sv false .iop], [], [.c .bool], []⟩
@[reducible] def Na : Sig := ⟨[.sv false .tab], [], [.c .bool], []⟩
@[reducible] def Nb : Sig := ⟨[.c (.own 0)], [.rows true .poly], [.c (.own 1)], [.rows true .poly, .rows true .poly]⟩
@[reducible] def uN : Sig := ⟨[.c (.int .i64)], [], [.agg [.own 0]], [.rows true .mono]⟩
@[reducible] def uO : Sig := ⟨[.c (.int .i64)], [], [.c (.int .i64)], []⟩
@[reducible] def Nc : Sig := ⟨[.c (.int .i64), .c (.int .i64), .c (.int .i64)], [], [.c (.int .i64)], []⟩
@[reducible] def BR : Sig := ⟨[.sv false .poly], [], [.c (.int .i64), .c .bool], []⟩
@[reducible] def BS : Sig := ⟨[.sv false .mono, .sv false .mono], [], [.c (.int .i64)], []⟩
@[reducible] def Fe : Sig := ⟨[.c (.own 0), .c (.int .i64), .c (.int .i64), .c (.fn 277 [])], [.rows false .mono], [], [.rows false .mono]⟩
@[reducible] def Fg : Sig := ⟨[.c (.own 0), .c (.int .i64), .c (.int .i64), .c (.int .i64), .c (.fn 277 [])], [.rows false .mono], [], [.rows false .mono]⟩
@[reducible] def Fh : Sig := ⟨[.c (.own 0), .c (.int .i64), .c (.int .i64), .c (.int .i64), .c (.fn 277 [])], [.rows false .mono], [], [.rows false .mono]⟩
@[reducible] def nA : Sig := ⟨[.c (.own 0), .c (.int .i64), .c (.int .i64), .c (.int .i64), .c (.fn 277 [])], [.rows false .mono], [], [.rows false .mono]⟩
@[reducible] def Fj : Sig := ⟨[.c (.own 0), .c (.int .i64), .c (.fn 277 [])], [.rows false .mono], [], [.rows false .mono]⟩
@[reducible] def Fp : Sig := ⟨[.c (.own 0), .c (.fn 277 [])], [.rows false .mono], [], [.rows false .mono]⟩
@[reducible] def BU : Sig := ⟨[.c (.own 0)], [.rows false .mono], [.agg [.own 1], .c .bool], [.rows false .mono, .rows true .mono]⟩
@[reducible] def Fq : Sig := ⟨[.c (.nil), .c (.int .i64)], [], [.c (.own 0)], [.rows true .mono]⟩
@[reducible] def Ng : Sig := ⟨[.c (.rows false .poly)], [], [.c (.own 0)], [.rows false .mono]⟩
@[reducible] def Nh : Sig := ⟨[.sv false .poly, .sv false .poly], [], [.agg [.own 0], .c .bool], [.rows true .mono]⟩
@[reducible] def Fu : Sig := ⟨[.c (.nil), .c (.int .i64)], [], [.c (.own 0)], [.rows true .i64]⟩
@[reducible] def Fv : Sig := ⟨[.c (.rows false .ints)], [], [.c (.own 0)], [.rows true .i64]⟩
@[reducible] def Fw : Sig := ⟨[.c (.own 0), .c (.int .i64), .c (.int .i64)], [.rows true .i64], [], [.rows true .i64]⟩
@[reducible] def Fx : Sig := ⟨[.c (.own 0), .c (.int .i64), .c (.int .i64)], [.rows true .i64], [], [.rows true .i64]⟩
@[reducible] def Fy : Sig := ⟨[.c (.own 0), .c (.int .i64), .c (.int .i64)], [.rows true .i64], [], [.rows true .i64]⟩
@[reducible] def Fz : Sig := ⟨[.c (.own 0), .c (.int .i64), .c (.int .i64)], [.rows true .i64], [.c (.int .i64), .c (.int .i64)], [.rows true .i64]⟩
@[reducible] def FB : Sig := ⟨[.c (.own 0), .c (.int .i64), .c (.int .i64)], [.rows true .i64], [], [.rows true .i64]⟩
@[reducible] def FC : Sig := ⟨[.c (.own 0), .c (.int .i64), .c (.int .i64)], [.rows true .i64], [.c .bool], [.rows true .i64]⟩
@[reducible] def FD : Sig := ⟨[.c (.own 0), .c (.int .i64), .c (.int .i64), .c (.int .i64)], [.rows true .i64], [.c (.int .i64)], [.rows true .i64]⟩
@[reducible] def FH : Sig := ⟨[.c (.own 0), .c (.int .i64), .c (.int .i64), .c (.int .i64)], [.rows true .i64], [.c (.int .i64), .c .bool], [.rows true .i64]⟩
@[reducible] def oW : Sig := ⟨[.c (.own 0), .c (.int .i64), .c (.int .i64), .c (.int .i64)], [.rows true .i64], [], [.rows true .i64]⟩
@[reducible] def UH : Sig := ⟨[.c (.int .u64)], [], [.c (.int .i64)], []⟩
@[reducible] def FJ : Sig := ⟨[.c (.own 0)], [.rows true .i64], [], [.rows true .i64]⟩
@[reducible] def BX : Sig := ⟨[.sv false .poly, .sv false .poly], [], [.agg [.own 0], .c .bool], [.rows true .mono]⟩
@[reducible] def Ni : Sig := ⟨[.sv false .poly, .c (.int .i64)], [], [.agg [.own 0]], [.rows true .mono]⟩
@[reducible] def Nj : Sig := ⟨[.c (.int .i64), .sv true .poly, .sv true .poly], [], [.sv true .poly, .c .bool], []⟩
@[reducible] def Nk : Sig := ⟨[.sv true .tab, .c (.int .i64), .sv true .poly, .sv true .poly], [], [.sv true .tab, .sv true .poly, .c .bool], []⟩
@[reducible] def Nl : Sig := ⟨[.c (.int .i64), .c (.int .i64), .c (.int .i64)], [], [.c .bool], []⟩
@[reducible] def Nn : Sig := ⟨[.c (.rows false .poly)], [], [.c (.own 0)], [.rows true .poly]⟩
@[reducible] def Np : Sig := ⟨[.sv false .sym], [], [.agg [.own 0, .own 1, .int .i64, .own 2, .own 3, .int .i64]], [.rows true .ev, .rows true .poly, .rows true .mono, .rows true .mono]⟩
@[reducible] def Nq : Sig := ⟨[.sv false .sym, .c (.int .i64)], [], [.sv true .sym], []⟩
@[reducible] def Nr : Sig := ⟨[.sv true .tab, .sv false .blk], [], [.sv true .tab, .sv true .sym], []⟩
@[reducible] def Ns : Sig := ⟨[.sv false .poly, .sv false .poly], [], [.c .bool], []⟩
@[reducible] def FK : Sig := ⟨[.c (.rows false .poly), .c (.rows false .poly), .c (.fn 168 [])], [], [.c .bool], []⟩
@[reducible] def BZ : Sig := ⟨[.c (.rows false .poly), .c (.rows false .poly)], [], [.c .bool], []⟩
@[reducible] def Nt : Sig := ⟨[.sv false .ev, .sv false .ev], [], [.c .bool], []⟩
@[reducible] def FL : Sig := ⟨[.c (.rows false .ev), .c (.rows false .ev), .c (.fn 127 [])], [], [.c .bool], []⟩
@[reducible] def Nu : Sig := ⟨[.sv false .sym, .sv false .sym], [], [.c .bool], []⟩
@[reducible] def Nv : Sig := ⟨[.sv false .blk, .sv false .blk], [], [.c .bool], []⟩
@[reducible] def Nw : Sig := ⟨[.sv false .blk], [], [.c (.int .i64)], []⟩
@[reducible] def FN : Sig := ⟨[.c (.pb 0 2 0), .sv false .blk], [.box (.agg [.rows true .u8, .int .i64])], [.agg [.int .i64, .int .i64, .own 1, .int .i64, .int .i64, .int .i64, .int .i64]], [.box (.agg [.rows true .u8, .int .i64]), .rows true .iop]⟩
@[reducible] def FP : Sig := ⟨[.c (.pb 0 2 0), .c (.int .i64)], [.box (.agg [.rows true .u8, .int .i64])], [.sv true .blk, .sv true .blk], [.box (.agg [.rows true .u8, .int .i64])]⟩
@[reducible] def FQ : Sig := ⟨[.c (.rows true .u8)], [], [.sv true .blk, .sv true .blk], []⟩
@[reducible] def ade : Sig := ⟨[.c (.rows true .u8)], [], [.c .bool], []⟩
def Qk (A:Alg) (x:Tup A.ah [.i,.l .u8,.i]):Ot A dK:=
 A.l1 .i (A.lit 0) fun x0=>
 A.l1 .i (A.arith .add .i64 x.2.2.1 (A.lit 1)) fun x1=>
 A.cond (A.ak (A.cmp .lss x.1 (A.lit 1)) (A.bl true) (A.cmp .eql (A.len .u8 x.2.1) (A.lit 0))) (A.l1 .i (A.lit 0) fun x2=>
 A.ret _ (x2.1,x.2.1,x1.1,()))<|
 A.l1 .i (A.arith .sub .i64 x1.1 (A.lit 1)) fun x2=>
 A.cond (A.cmp .lss x2.1 (A.len .u8 x.2.1)) (A.bd .u8 x.2.1 x2.1<|
 A.chk (A.cmp .neq x.1 (A.lit 0))<|
 A.l1 .i (A.arith .rem .i64 (A.conv .i64 (A.fI .u8 0 (A.get .u8 x.2.1 x2.1))) x.1) fun x3=>
 A.ret _ (x3.1,x.2.1,x1.1,()))<|
 A.chk (A.cmp .neq (A.len .u8 x.2.1) (A.lit 0))<|
 A.bd .u8 x.2.1 (A.arith .rem .i64 x2.1 (A.len .u8 x.2.1))<|
 A.chk (A.cmp .neq (A.len .u8 x.2.1) (A.lit 0))<|
 A.bd .u8 x.2.1 (A.arith .rem .i64 (A.arith .add .i64 (A.arith .mul .i64 x2.1 (A.lit 7)) (A.lit 3)) (A.len .u8 x.2.1))<|
 A.chk (A.cmp .neq (A.len .u8 x.2.1) (A.lit 0))<|
 A.l1 .i (A.arith .add .i64 (A.arith .add .i64 (A.arith .add .i64 (A.arith .mul .i64 (A.conv .i64 (A.fI .u8 0 (A.get .u8 x.2.1 (A.arith .rem .i64 x2.1 (A.len .u8 x.2.1))))) (A.lit 131)) (A.arith .mul .i64 (A.conv .i64 (A.fI .u8 0 (A.get .u8 x.2.1 (A.arith .rem .i64 (A.arith .add .i64 (A.arith .mul .i64 x2.1 (A.lit 7)) (A.lit 3)) (A.len .u8 x.2.1))))) (A.lit 1117))) (A.arith .mul .i64 x2.1 (A.lit 29))) (A.arith .mul .i64 (A.arith .quo .i64 x2.1 (A.len .u8 x.2.1)) (A.lit 53))) fun x3=>
 A.chk (A.cmp .neq (A.lit 64) (A.lit 0))<|
 A.l1 .i (A.arith .xor .i64 x3.1 (A.arith .quo .i64 x3.1 (A.lit 64))) fun x4=>
 A.chk (A.cmp .neq x.1 (A.lit 0))<|
 A.l1 .i (A.arith .rem .i64 x4.1 x.1) fun x5=>
 A.ret _ (x5.1,x.2.1,x1.1,())
def Ql (A:Alg) (aV:Pt A dK) (aW:Ft A dK) (x:Tup A.ah [.i,.l .u8,.i]):Ot A Eo:=
 A.l1 .b (A.bl false) fun x0=>
 A.cl aV aW (x.1,x.2.1,x.2.2.1,()) fun x1=>
 A.l1 .b (A.cmp .eql x1.1 (A.arith .sub .i64 x.1 (A.lit 1))) fun x2=>
 A.ret _ (x2.1,x1.2.1,x1.2.2.1,())
def Qm (A:Alg) (x:Tup A.ah [.i,.i,.i]):Ot A fK:=
 A.l1 .b (A.bl false) fun x0=>
 A.rb (A.ak (A.cmp .geq x.1 x.2.1) (A.cmp .leq x.1 x.2.2.1) (A.bl false))
def Qn (A:Alg) (x:Tup A.ah [.i]):Ot A mZ:=
 A.l1 .b (A.bl false) fun x0=>
 A.rb (A.ak (A.cmp .geq x.1 (A.lit 0)) (A.cmp .lss x.1 (A.lit 65536)) (A.bl false))
def Qo (A:Alg) (fO:Pt A fK) (fP:Ft A fK) (x:Tup A.ah [.i]):Ot A Ep:=
 A.l1 .b (A.bl false) fun x0=>
 A.cl fO fP (x.1,A.lit 1,A.lit 4,()) fun x1=>
 A.rb (A.ak x1.1 (A.bl true) (A.cmp .eql x.1 (A.lit 6)))
def Qp (A:Alg) (aeV:Pt A Ep) (aeW:Ft A Ep) (x:Tup A.ah [.l .iop,.i,.i]):Ot A uo:=
 A.l1 .b (A.bl false) fun x0=>
 A.chk (A.orB (A.aB (A.ak (A.cmp .geq x.2.1 (A.lit 0)) (A.cmp .lss x.2.1 x.2.2.1) (A.bl false))) (A.cmp .leq (A.lit 0) x.2.1))<|
 A.chk (A.orB (A.aB (A.ak (A.cmp .geq x.2.1 (A.lit 0)) (A.cmp .lss x.2.1 x.2.2.1) (A.bl false))) (A.cmp .lss x.2.1 (A.len .iop x.1)))<|
 A.cg (A.ak (A.cmp .geq x.2.1 (A.lit 0)) (A.cmp .lss x.2.1 x.2.2.1) (A.bl false)) aeV aeW (A.fI .iop 0 (A.get .iop x.1 x.2.1),()) fun x1=>
 A.rb (A.ak (A.ak (A.cmp .geq x.2.1 (A.lit 0)) (A.cmp .lss x.2.1 x.2.2.1) (A.bl false)) x1.1 (A.bl false))
def Qq (A:Alg) (yg:Pt A mZ) (yh:Ft A mZ) (fO:Pt A fK) (fP:Ft A fK) (oZ:Pt A uo) (o7:Ft A uo) (x:Tup A.ah [.l .iop,.i,.i]):Ot A Er:=
 A.l1 .b (A.bl false) fun x0=>
 A.bd .iop x.1 x.2.1<|
 A.l1 (.x .iop) (A.get .iop x.1 x.2.1) fun x1=>
 A.l1 .b (A.cmp .eql (A.fI .iop 0 x1.1) (A.lit 1)) fun x2=>
 A.cond x2.1 (A.cg (A.ak (A.cmp .eql (A.fI .iop 1 x1.1) (A.lit 0)) (A.cmp .eql (A.fI .iop 2 x1.1) (A.lit 0)) (A.bl false)) yg yh (A.fI .iop 3 x1.1,()) fun x3=>
 A.rb (A.ak (A.ak (A.ak (A.cmp .eql (A.fI .iop 1 x1.1) (A.lit 0)) (A.cmp .eql (A.fI .iop 2 x1.1) (A.lit 0)) (A.bl false)) x3.1 (A.bl false)) (A.cmp .eql (A.fI .iop 4 x1.1) (A.lit 0)) (A.bl false)))<|
 A.l1 .b (A.cmp .eql (A.fI .iop 0 x1.1) (A.lit 2)) fun x3=>
 A.cond x3.1 (A.cg (A.ak (A.cmp .eql (A.fI .iop 1 x1.1) (A.lit 0)) (A.cmp .eql (A.fI .iop 2 x1.1) (A.lit 0)) (A.bl false)) fO fP (A.fI .iop 3 x1.1,A.lit 0,A.lit 3,()) fun x4=>
 A.rb (A.ak (A.ak (A.ak (A.cmp .eql (A.fI .iop 1 x1.1) (A.lit 0)) (A.cmp .eql (A.fI .iop 2 x1.1) (A.lit 0)) (A.bl false)) x4.1 (A.bl false)) (A.cmp .eql (A.fI .iop 4 x1.1) (A.lit 0)) (A.bl false)))<|
 A.l1 .b (A.cmp .eql (A.fI .iop 0 x1.1) (A.lit 3)) fun x4=>
 A.cond x4.1 (A.cl oZ o7 (x.1,A.fI .iop 1 x1.1,x.2.1,()) fun x5=>
 A.cg x5.1 oZ o7 (x.1,A.fI .iop 2 x1.1,x.2.1,()) fun x6=>
 A.cg (A.ak x5.1 x6.1 (A.bl false)) fO fP (A.fI .iop 3 x1.1,A.lit 1,A.lit 5,()) fun x7=>
 A.rb (A.ak (A.ak (A.ak x5.1 x6.1 (A.bl false)) x7.1 (A.bl false)) (A.cmp .eql (A.fI .iop 4 x1.1) (A.lit 0)) (A.bl false)))<|
 A.l1 .b (A.cmp .eql (A.fI .iop 0 x1.1) (A.lit 4)) fun x5=>
 A.bind [.l .iop,.i,.i,.i,.b,.x .iop] (A.cond x5.1 (A.ret _ (x.1,x.2.1,x.2.2.1,A.fI .iop 0 x1.1,x5.1,x1.1,()))<|
 A.l1 .b (A.cmp .eql (A.fI .iop 0 x1.1) (A.lit 7)) fun x6=>
 A.ret _ (x.1,x.2.1,x.2.2.1,A.fI .iop 0 x1.1,x6.1,x1.1,())) fun x6=>
 A.cond x6.q.1 (A.cl oZ o7 (x6.1,A.fI .iop 1 x6.q.2.1,x6.2.1,()) fun x7=>
 A.cg (A.ak (A.ak x7.1 (A.cmp .eql (A.fI .iop 2 x6.q.2.1) (A.lit 0)) (A.bl false)) (A.cmp .eql (A.fI .iop 3 x6.q.2.1) (A.lit 0)) (A.bl false)) fO fP (A.fI .iop 4 x6.q.2.1,A.lit 0,A.arith .sub .i64 x6.2.2.1 (A.lit 1),()) fun x8=>
 A.rb (A.ak (A.ak (A.ak x7.1 (A.cmp .eql (A.fI .iop 2 x6.q.2.1) (A.lit 0)) (A.bl false)) (A.cmp .eql (A.fI .iop 3 x6.q.2.1) (A.lit 0)) (A.bl false)) x8.1 (A.bl false)))<|
 A.l1 .b (A.cmp .eql x6.2.2.2.1 (A.lit 5)) fun x7=>
 A.cond x7.1 (A.cl oZ o7 (x6.1,A.fI .iop 1 x6.q.2.1,x6.2.1,()) fun x8=>
 A.cg x8.1 oZ o7 (x6.1,A.fI .iop 2 x6.q.2.1,x6.2.1,()) fun x9=>
 A.cg (A.ak (A.ak x8.1 x9.1 (A.bl false)) (A.cmp .eql (A.fI .iop 3 x6.q.2.1) (A.lit 0)) (A.bl false)) fO fP (A.fI .iop 4 x6.q.2.1,A.lit 0,A.arith .sub .i64 x6.2.2.1 (A.lit 1),()) fun x10=>
 A.rb (A.ak (A.ak (A.ak x8.1 x9.1 (A.bl false)) (A.cmp .eql (A.fI .iop 3 x6.q.2.1) (A.lit 0)) (A.bl false)) x10.1 (A.bl false)))<|
 A.l1 .b (A.cmp .eql x6.2.2.2.1 (A.lit 6)) fun x8=>
 A.cond x8.1 (A.cg (A.ak (A.ak (A.cmp .eql (A.fI .iop 1 x6.q.2.1) (A.lit 0)) (A.cmp .eql (A.fI .iop 2 x6.q.2.1) (A.lit 0)) (A.bl false)) (A.cmp .eql (A.fI .iop 3 x6.q.2.1) (A.lit 0)) (A.bl false)) fO fP (A.fI .iop 4 x6.q.2.1,A.lit 0,A.arith .sub .i64 x6.2.2.1 (A.lit 1),()) fun x9=>
 A.rb (A.ak (A.ak (A.ak (A.cmp .eql (A.fI .iop 1 x6.q.2.1) (A.lit 0)) (A.cmp .eql (A.fI .iop 2 x6.q.2.1) (A.lit 0)) (A.bl false)) (A.cmp .eql (A.fI .iop 3 x6.q.2.1) (A.lit 0)) (A.bl false)) x9.1 (A.bl false)))<|
 A.l1 .b (A.cmp .eql x6.2.2.2.1 (A.lit 8)) fun x9=>
 A.cond x9.1 (A.cl oZ o7 (x6.1,A.fI .iop 1 x6.q.2.1,x6.2.1,()) fun x10=>
 A.cg (A.ak x10.1 (A.cmp .eql (A.fI .iop 2 x6.q.2.1) (A.lit 0)) (A.bl false)) fO fP (A.fI .iop 3 x6.q.2.1,A.lit 0,A.lit 3,()) fun x11=>
 A.rb (A.ak (A.ak (A.ak x10.1 (A.cmp .eql (A.fI .iop 2 x6.q.2.1) (A.lit 0)) (A.bl false)) x11.1 (A.bl false)) (A.cmp .eql (A.fI .iop 4 x6.q.2.1) (A.lit 0)) (A.bl false)))<|
 A.rb (A.bl false)
def Qr (A:Alg) (yg:Pt A mZ) (yh:Ft A mZ) (oZ:Pt A uo) (o7:Ft A uo) (x:Tup A.ah [.x .blk]):Ot A Es:=
 A.l1 .b (A.bl false) fun x0=>
 A.l1 .i (A.len .iop (A.fL .blk 2 .iop x.1)) fun x1=>
 A.l1 .b (A.cmp .eql (A.fI .blk 3 x.1) (A.lit 1)) fun x2=>
 A.cond x2.1 (A.cg (A.ak (A.cmp .eql (A.fI .blk 4 x.1) (A.lit 0)) (A.cmp .eql (A.fI .blk 5 x.1) (A.lit 0)) (A.bl false)) yg yh (A.fI .blk 6 x.1,()) fun x3=>
 A.rb (A.ak (A.ak (A.cmp .eql (A.fI .blk 4 x.1) (A.lit 0)) (A.cmp .eql (A.fI .blk 5 x.1) (A.lit 0)) (A.bl false)) x3.1 (A.bl false)))<|
 A.l1 .b (A.cmp .eql (A.fI .blk 3 x.1) (A.lit 2)) fun x3=>
 A.cond x3.1 (A.cl oZ o7 (A.fL .blk 2 .iop x.1,A.fI .blk 4 x.1,x1.1,()) fun x4=>
 A.rb (A.ak (A.ak x4.1 (A.cmp .eql (A.fI .blk 5 x.1) (A.lit 0)) (A.bl false)) (A.cmp .eql (A.fI .blk 6 x.1) (A.lit 0)) (A.bl false)))<|
 A.l1 .b (A.cmp .eql (A.fI .blk 3 x.1) (A.lit 3)) fun x4=>
 A.bind [.i,.b,.x .blk] (A.cond x4.1 (A.ret _ (x1.1,x4.1,x.1,()))<|
 A.l1 .b (A.cmp .eql (A.fI .blk 3 x.1) (A.lit 4)) fun x5=>
 A.ret _ (x1.1,x5.1,x.1,())) fun x5=>
 A.cond x5.2.1 (A.cl oZ o7 (A.fL .blk 2 .iop x5.2.2.1,A.fI .blk 4 x5.2.2.1,x5.1,()) fun x6=>
 A.cg x6.1 oZ o7 (A.fL .blk 2 .iop x5.2.2.1,A.fI .blk 5 x5.2.2.1,x5.1,()) fun x7=>
 A.cg (A.ak x6.1 x7.1 (A.bl false)) yg yh (A.fI .blk 6 x5.2.2.1,()) fun x8=>
 A.rb (A.ak (A.ak x6.1 x7.1 (A.bl false)) x8.1 (A.bl false)))<|
 A.rb (A.bl false)
def Qs (A:Alg) (fO:Pt A fK) (fP:Ft A fK) (aeX:Pt A Es) (aeY:Ft A Es) (aeZ:Pt A Er) (ae0:Ft A Er) (x:Tup A.ah [.x .blk]):Ot A fM:=
 A.l1 .b (A.bl false) fun x0=>
 A.cl fO fP (A.fI .blk 1 x.1,A.lit 1,A.lit 8,()) fun x1=>
 A.cg (A.aB (A.aB x1.1)) fO fP (A.fI .blk 0 x.1,A.lit 0,A.arith .sub .i64 (A.lit 64) (A.fI .blk 1 x.1),()) fun x2=>
 A.cond (A.ak (A.ak (A.aB x1.1) (A.bl true) (A.aB x2.1)) (A.bl true) (A.cmp .gtr (A.len .iop (A.fL .blk 2 .iop x.1)) (A.lit 48))) (A.rb (A.bl false))<|
 A.l1 .i (A.lit 0) fun x3=>
 A.iter [.i,.x .blk] (fun x4=>
 A.cond (A.cmp .lss x4.1 (A.len .iop (A.fL .blk 2 .iop x4.2.1))) (A.cl aeZ ae0 (A.fL .blk 2 .iop x4.2.1,x4.1,A.fI .blk 1 x4.2.1,()) fun x5=>
 A.cond (A.aB x5.1) (A.l1 .b (A.bl false) fun x6=>
 A.inr _<|A.ret _ (x6.1,()))<|
 A.l1 .i (A.arith .add .i64 x4.1 (A.lit 1)) fun x6=>
 A.inl _ (x6.1,x4.2.1,()))<|
 A.inr _<|A.cl aeX aeY (x4.2.1,()) fun x5=>
 A.rb x5.1) (x3.1,x.1,())
def Qt (A:Alg) (x:Tup A.ah [.x .blk]):Ot A jS:=
 A.l1 (.x .blk) x.1 fun x0=>
 A.l1 (.l .iop) (A.lst .iop []) fun x1=>
 A.chk (A.cmp .leq (A.addN (A.len .iop x1.1) (A.len .iop (A.fL .blk 2 .iop x.1))) (A.lit 1073741824))<|
 A.l1 (.l .iop) (A.app .iop x1.1 (A.fL .blk 2 .iop x.1)) fun x2=>
 A.ret _ (A.fI .blk 0 x0.1,A.fI .blk 1 x0.1,A.fI .blk 3 x0.1,A.fI .blk 4 x0.1,A.fI .blk 5 x0.1,A.fI .blk 6 x0.1,x2.1,())
def Qu (A:Alg) (fO:Pt A fK) (fP:Ft A fK) (x:Tup A.ah [.x .iop,.l .i64]):Ot A uw:=
 A.l1 (.x .iop) x.1 fun x0=>
 A.cl fO fP (A.fI .iop 0 x.1,A.lit 3,A.lit 5,()) fun x1=>
 A.bind [.l .i64,.x .iop,.i,.i,.i,.i,.i,.x .iop] (A.cond (A.ak (A.ak x1.1 (A.bl true) (A.cmp .eql (A.fI .iop 0 x.1) (A.lit 7))) (A.bl true) (A.cmp .eql (A.fI .iop 0 x.1) (A.lit 8))) (A.bd .i64 x.2.1 (A.fI .iop 1 x.1)<|
 A.l1 .i (A.fI .i64 0 (A.get .i64 x.2.1 (A.fI .iop 1 x.1))) fun x2=>
 A.ret _ (x.2.1,x.1,A.lit 0,A.lit 0,A.lit 0,A.lit 0,A.lit 0,A.mkX .iop (A.fI .iop 0 x0.1,x2.1,A.fI .iop 2 x0.1,A.fI .iop 3 x0.1,A.fI .iop 4 x0.1,()),()))<|
 A.ret _ (x.2.1,x.1,A.lit 0,A.lit 0,A.lit 0,A.lit 0,A.lit 0,x0.1,())) fun x2=>
 A.bind [.i,.i,.i,.i,.i,.x .iop] (A.cond (A.ak (A.cmp .eql (A.fI .iop 0 x2.2.1) (A.lit 3)) (A.bl true) (A.cmp .eql (A.fI .iop 0 x2.2.1) (A.lit 5))) (A.bd .i64 x2.1 (A.fI .iop 2 x2.2.1)<|
 A.l1 .i (A.fI .i64 0 (A.get .i64 x2.1 (A.fI .iop 2 x2.2.1))) fun x3=>
 A.ret _ (x2.2.2.1,x2.2.2.2.1,x2.q.1,x2.q.2.1,x2.q.2.2.1,A.mkX .iop (A.fI .iop 0 x2.q.2.2.2.1,A.fI .iop 1 x2.q.2.2.2.1,x3.1,A.fI .iop 3 x2.q.2.2.2.1,A.fI .iop 4 x2.q.2.2.2.1,()),()))<|
 A.ret _ (x2.2.2.1,x2.2.2.2.1,x2.q.1,x2.q.2.1,x2.q.2.2.1,x2.q.2.2.2.1,())) fun x3=>
 A.l1 (.x .iop) x3.q.2.1 fun x4=>
 A.ret _ (x4.1,())
def Qv (A:Alg) (kI:Pt A fM) (kJ:Ft A fM) (Qw:Pt A uw) (Qx:Ft A uw) (yj:Pt A jS) (yu:Ft A jS) (x:Tup A.ah [.x .blk]):Ot A nu:=
 A.cl kI kJ (x.1,()) fun x0=>
 A.cond (A.aB x0.1) (A.ret _ (A.lit 0,A.lit 0,A.lit 0,A.lit 0,A.lit 0,A.lit 0,A.cu .iop,()))<|
 A.cl yj yu (x.1,()) fun x1=>
 A.l1 (.l .i64) (A.lst .i64 []) fun x2=>
 A.l1 (.l .i64) (A.lst .i64 [A.mkX .i64 (A.lit (-1),()),A.mkX .i64 (A.lit (-1),()),A.mkX .i64 (A.lit (-1),()),A.mkX .i64 (A.lit (-1),())]) fun x3=>
 A.l1 .i (A.lit 0) fun x4=>
 A.iter [.i,.i,.i,.i,.i,.i,.i,.i,.i,.i,.i,.i,.i,.l .i64,.l .i64,.l .iop] (fun x5=>
 A.cond (A.cmp .lss x5.1 (A.len .iop x5.o.q.2.2.2.1)) (A.bd .iop x5.o.q.2.2.2.1 x5.1<|
 A.bd .iop x5.o.q.2.2.2.1 x5.1<|
 A.cl Qw Qx (A.get .iop x5.o.q.2.2.2.1 x5.1,x5.o.q.2.1,()) fun x6=>
 A.l1 (.x .iop) x6.1 fun x7=>
 A.bd .iop x5.o.q.2.2.2.1 x5.1<|
 A.bd .iop x5.o.q.2.2.2.1 x5.1<|
 A.l1 (.x .iop) x7.1 fun x8=>
 A.l1 .i x5.1 fun x9=>
 A.chk (A.orB (A.aB (A.cmp .eql (A.fI .iop 0 x7.1) (A.lit 2))) (A.cmp .leq (A.lit 0) (A.fI .iop 3 x7.1)))<|
 A.chk (A.orB (A.aB (A.cmp .eql (A.fI .iop 0 x7.1) (A.lit 2))) (A.cmp .lss (A.fI .iop 3 x7.1) (A.len .i64 x5.o.q.2.2.1)))<|
 A.chk (A.orB (A.aB (A.cmp .eql (A.fI .iop 0 x7.1) (A.lit 2))) (A.cmp .leq (A.lit 0) (A.fI .iop 3 x7.1)))<|
 A.chk (A.orB (A.aB (A.cmp .eql (A.fI .iop 0 x7.1) (A.lit 2))) (A.cmp .lss (A.fI .iop 3 x7.1) (A.len .i64 x5.o.q.2.2.1)))<|
 A.bind [.i,.i,.i,.i,.i,.i,.i,.i,.i,.i,.i,.i,.i,.i,.l .i64,.l .i64,.x .iop,.l .iop] (A.cond (A.ak (A.cmp .eql (A.fI .iop 0 x7.1) (A.lit 2)) (A.cmp .geq (A.fI .i64 0 (A.get .i64 x5.o.q.2.2.1 (A.fI .iop 3 x7.1))) (A.lit 0)) (A.bl false)) (A.bd .i64 x5.o.q.2.2.1 (A.fI .iop 3 x7.1)<|
 A.bd .i64 x5.o.q.2.2.1 (A.fI .iop 3 x7.1)<|
 A.l1 .i (A.fI .i64 0 (A.get .i64 x5.o.q.2.2.1 (A.fI .iop 3 x7.1))) fun x10=>
 A.ret _ (x5.1,x10.1,x5.2.1,x5.2.2.1,x5.2.2.2.1,x5.q.1,x5.q.2.1,x5.q.2.2.1,x5.q.2.2.2.1,x5.o.1,x5.o.2.1,x5.o.2.2.1,x5.o.2.2.2.1,x5.o.q.1,x5.o.q.2.1,x5.o.q.2.2.1,x7.1,A.set .iop x5.o.q.2.2.2.1 x5.1 x8.1,()))<|
 A.ret _ (x5.1,x9.1,x5.2.1,x5.2.2.1,x5.2.2.2.1,x5.q.1,x5.q.2.1,x5.q.2.2.1,x5.q.2.2.2.1,x5.o.1,x5.o.2.1,x5.o.2.2.1,x5.o.2.2.2.1,x5.o.q.1,x5.o.q.2.1,x5.o.q.2.2.1,x7.1,A.set .iop x5.o.q.2.2.2.1 x5.1 x8.1,())) fun x10=>
 A.bind [.i,.i,.i,.i,.i,.i,.i,.i,.i,.i,.i,.i,.i,.i,.l .i64,.l .i64,.x .iop,.l .iop] (A.cond (A.cmp .eql (A.fI .iop 0 x10.o.o.1) (A.lit 2)) (A.bd .i64 x10.o.q.2.2.2.1 (A.fI .iop 3 x10.o.o.1)<|
 A.bd .i64 x10.o.q.2.2.2.1 (A.fI .iop 3 x10.o.o.1)<|
 A.l1 .i x10.2.1 fun x11=>
 A.ret _ (x10.1,x10.2.1,x10.2.2.1,x10.2.2.2.1,x10.q.1,x10.q.2.1,x10.q.2.2.1,x10.q.2.2.2.1,x10.o.1,x10.o.2.1,x10.o.2.2.1,x10.o.2.2.2.1,x10.o.q.1,x10.o.q.2.1,x10.o.q.2.2.1,A.set .i64 x10.o.q.2.2.2.1 (A.fI .iop 3 x10.o.o.1) (A.mkX .i64 (x11.1,())),x10.o.o.1,x10.o.o.2.1,()))<|
 A.ret _ (x10.1,x10.2.1,x10.2.2.1,x10.2.2.2.1,x10.q.1,x10.q.2.1,x10.q.2.2.1,x10.q.2.2.2.1,x10.o.1,x10.o.2.1,x10.o.2.2.1,x10.o.2.2.2.1,x10.o.q.1,x10.o.q.2.1,x10.o.q.2.2.1,x10.o.q.2.2.2.1,x10.o.o.1,x10.o.o.2.1,())) fun x11=>
 A.bind [.i,.i,.i,.i,.i,.i,.i,.i,.i,.i,.i,.i,.i,.i,.l .i64,.l .i64,.l .iop] (A.cond (A.cmp .eql (A.fI .iop 0 x11.o.o.1) (A.lit 8)) (A.bd .i64 x11.o.q.2.2.2.1 (A.fI .iop 3 x11.o.o.1)<|
 A.bd .i64 x11.o.q.2.2.2.1 (A.fI .iop 3 x11.o.o.1)<|
 A.l1 .i (A.fI .iop 1 x11.o.o.1) fun x12=>
 A.ret _ (x11.1,x11.2.1,x11.2.2.1,x11.2.2.2.1,x11.q.1,x11.q.2.1,x11.q.2.2.1,x11.q.2.2.2.1,x11.o.1,x11.o.2.1,x11.o.2.2.1,x11.o.2.2.2.1,x11.o.q.1,x11.o.q.2.1,x11.o.q.2.2.1,A.set .i64 x11.o.q.2.2.2.1 (A.fI .iop 3 x11.o.o.1) (A.mkX .i64 (x12.1,())),x11.o.o.2.1,()))<|
 A.ret _ (x11.1,x11.2.1,x11.2.2.1,x11.2.2.2.1,x11.q.1,x11.q.2.1,x11.q.2.2.1,x11.q.2.2.2.1,x11.o.1,x11.o.2.1,x11.o.2.2.1,x11.o.2.2.2.1,x11.o.q.1,x11.o.q.2.1,x11.o.q.2.2.1,x11.o.q.2.2.2.1,x11.o.o.2.1,())) fun x12=>
 A.l1 (.l .i64) (A.lst .i64 [A.mkX .i64 (x12.2.1,())]) fun x13=>
 A.chk (A.cmp .leq (A.addN (A.len .i64 x12.o.q.2.2.1) (A.len .i64 x13.1)) (A.lit 1073741824))<|
 A.l1 (.l .i64) (A.app .i64 x12.o.q.2.2.1 x13.1) fun x14=>
 A.l1 .i (A.arith .add .i64 x12.1 (A.lit 1)) fun x15=>
 A.inl _ (x15.1,x12.2.2.1,x12.2.2.2.1,x12.q.1,x12.q.2.1,x12.q.2.2.1,x12.q.2.2.2.1,x12.o.1,x12.o.2.1,x12.o.2.2.1,x12.o.2.2.2.1,x12.o.q.1,x12.o.q.2.1,x14.1,x12.o.q.2.2.2.1,x12.o.o.1,()))<|
 A.inr _<|A.bind [.i,.i,.i,.i,.i,.i,.i,.i,.i,.i,.i,.i,.l .i64,.l .iop] (A.cond (A.cmp .neq x5.o.2.1 (A.lit 1)) (A.bd .i64 x5.o.q.2.1 x5.o.2.2.1<|
 A.bd .i64 x5.o.q.2.1 x5.o.2.2.1<|
 A.l1 .i (A.fI .i64 0 (A.get .i64 x5.o.q.2.1 x5.o.2.2.1)) fun x6=>
 A.ret _ (x5.2.1,x5.2.2.1,x5.2.2.2.1,x5.q.1,x5.q.2.1,x5.q.2.2.1,x5.q.2.2.2.1,x5.o.1,x5.o.2.1,x6.1,x5.o.2.2.2.1,x5.o.q.1,x5.o.q.2.1,x5.o.q.2.2.2.1,()))<|
 A.ret _ (x5.2.1,x5.2.2.1,x5.2.2.2.1,x5.q.1,x5.q.2.1,x5.q.2.2.1,x5.q.2.2.2.1,x5.o.1,x5.o.2.1,x5.o.2.2.1,x5.o.2.2.2.1,x5.o.q.1,x5.o.q.2.1,x5.o.q.2.2.2.1,())) fun x6=>
 A.bind [.i,.i,.i,.i,.i,.i,.i,.i,.i,.i,.i,.i,.l .iop] (A.cond (A.ak (A.cmp .eql x6.o.1 (A.lit 3)) (A.bl true) (A.cmp .eql x6.o.1 (A.lit 4))) (A.bd .i64 x6.o.q.1 x6.o.2.2.1<|
 A.bd .i64 x6.o.q.1 x6.o.2.2.1<|
 A.l1 .i (A.fI .i64 0 (A.get .i64 x6.o.q.1 x6.o.2.2.1)) fun x7=>
 A.ret _ (x6.1,x6.2.1,x6.2.2.1,x6.2.2.2.1,x6.q.1,x6.q.2.1,x6.q.2.2.1,x6.q.2.2.2.1,x6.o.1,x6.o.2.1,x7.1,x6.o.2.2.2.1,x6.o.q.2.1,()))<|
 A.ret _ (x6.1,x6.2.1,x6.2.2.1,x6.2.2.2.1,x6.q.1,x6.q.2.1,x6.q.2.2.1,x6.q.2.2.2.1,x6.o.1,x6.o.2.1,x6.o.2.2.1,x6.o.2.2.2.1,x6.o.q.2.1,())) fun x7=>
 A.ret _ (x7.q.2.2.1,x7.q.2.2.2.1,x7.o.1,x7.o.2.1,x7.o.2.2.1,x7.o.2.2.2.1,x7.o.q.1,())) (x4.1,A.lit 0,A.lit 0,A.lit 0,A.lit 0,A.lit 0,A.lit 0,x1.1,x1.2.1,x1.2.2.1,x1.2.2.2.1,x1.q.1,x1.q.2.1,x2.1,x3.1,x1.q.2.2.1,())
def Qy (A:Alg) (Qw:Pt A uw) (Qx:Ft A uw) (x:Tup A.ah [.x .blk,.l .bool]):Ot A uz:=
 A.l1 (.l .iop) (A.lst .iop []) fun x0=>
 A.l1 (.l .i64) (A.lst .i64 []) fun x1=>
 A.l1 .i (A.lit 0) fun x2=>
 A.iter [.l .bool,.i,.x .blk,.i,.i,.i,.i,.i,.i,.l .iop,.l .i64] (fun x3=>
 A.cond (A.cmp .lss x3.2.1 (A.len .iop (A.fL .blk 2 .iop x3.2.2.1))) (A.l1 (.l .i64) (A.lst .i64 [A.mkX .i64 (A.len .iop x3.o.2.1,())]) fun x4=>
 A.chk (A.cmp .leq (A.addN (A.len .i64 x3.o.2.2.1) (A.len .i64 x4.1)) (A.lit 1073741824))<|
 A.l1 (.l .i64) (A.app .i64 x3.o.2.2.1 x4.1) fun x5=>
 A.bd .bool x3.1 x3.2.1<|
 A.bind [.l .bool,.i,.x .blk,.i,.i,.i,.i,.i,.i,.l .iop,.l .i64] (A.cond (A.fB .bool 0 (A.get .bool x3.1 x3.2.1)) (A.bd .iop (A.fL .blk 2 .iop x3.2.2.1) x3.2.1<|
 A.cl Qw Qx (A.get .iop (A.fL .blk 2 .iop x3.2.2.1) x3.2.1,x5.1,()) fun x6=>
 A.l1 (.l .iop) (A.lst .iop [x6.1]) fun x7=>
 A.chk (A.cmp .leq (A.addN (A.len .iop x3.o.2.1) (A.len .iop x7.1)) (A.lit 1073741824))<|
 A.l1 (.l .iop) (A.app .iop x3.o.2.1 x7.1) fun x8=>
 A.ret _ (x3.1,x3.2.1,x3.2.2.1,x3.2.2.2.1,x3.q.1,x3.q.2.1,x3.q.2.2.1,x3.q.2.2.2.1,x3.o.1,x8.1,x5.1,()))<|
 A.ret _ (x3.1,x3.2.1,x3.2.2.1,x3.2.2.2.1,x3.q.1,x3.q.2.1,x3.q.2.2.1,x3.q.2.2.2.1,x3.o.1,x3.o.2.1,x5.1,())) fun x6=>
 A.l1 .i (A.arith .add .i64 x6.2.1 (A.lit 1)) fun x7=>
 A.inl _ (x6.1,x7.1,x6.2.2.1,x6.2.2.2.1,x6.q.1,x6.q.2.1,x6.q.2.2.1,x6.q.2.2.2.1,x6.o.1,x6.o.2.1,x6.o.2.2.1,()))<|
 A.inr _<|A.l1 (.x .blk) x3.2.2.1 fun x4=>
 A.bind [.x .blk,.i,.i,.i,.i,.i,.i,.l .i64,.i,.i,.i,.i,.i,.i,.l .iop] (A.cond (A.cmp .neq (A.fI .blk 3 x3.2.2.1) (A.lit 1)) (A.bd .i64 x3.o.2.2.1 (A.fI .blk 4 x3.2.2.1)<|
 A.bd .i64 x3.o.2.2.1 (A.fI .blk 4 x3.2.2.1)<|
 A.l1 .i (A.fI .i64 0 (A.get .i64 x3.o.2.2.1 (A.fI .blk 4 x3.2.2.1))) fun x5=>
 A.ret _ (x3.2.2.1,x3.2.2.2.1,x3.q.1,x3.q.2.1,x3.q.2.2.1,x3.q.2.2.2.1,x3.o.1,x3.o.2.2.1,A.fI .blk 0 x4.1,A.fI .blk 1 x4.1,A.fI .blk 3 x4.1,x5.1,A.fI .blk 5 x4.1,A.fI .blk 6 x4.1,x3.o.2.1,()))<|
 A.ret _ (x3.2.2.1,x3.2.2.2.1,x3.q.1,x3.q.2.1,x3.q.2.2.1,x3.q.2.2.2.1,x3.o.1,x3.o.2.2.1,A.fI .blk 0 x4.1,A.fI .blk 1 x4.1,A.fI .blk 3 x4.1,A.fI .blk 4 x4.1,A.fI .blk 5 x4.1,A.fI .blk 6 x4.1,x3.o.2.1,())) fun x5=>
 A.bind [.i,.i,.i,.i,.i,.i,.i,.i,.i,.i,.i,.i,.l .iop] (A.cond (A.ak (A.cmp .eql (A.fI .blk 3 x5.1) (A.lit 3)) (A.bl true) (A.cmp .eql (A.fI .blk 3 x5.1) (A.lit 4))) (A.bd .i64 x5.q.2.2.2.1 (A.fI .blk 5 x5.1)<|
 A.bd .i64 x5.q.2.2.2.1 (A.fI .blk 5 x5.1)<|
 A.l1 .i (A.fI .i64 0 (A.get .i64 x5.q.2.2.2.1 (A.fI .blk 5 x5.1))) fun x6=>
 A.ret _ (x5.2.1,x5.2.2.1,x5.2.2.2.1,x5.q.1,x5.q.2.1,x5.q.2.2.1,x5.o.1,x5.o.2.1,x5.o.2.2.1,x5.o.2.2.2.1,x6.1,x5.o.q.2.1,x5.o.q.2.2.1,()))<|
 A.ret _ (x5.2.1,x5.2.2.1,x5.2.2.2.1,x5.q.1,x5.q.2.1,x5.q.2.2.1,x5.o.1,x5.o.2.1,x5.o.2.2.1,x5.o.2.2.2.1,x5.o.q.1,x5.o.q.2.1,x5.o.q.2.2.1,())) fun x6=>
 A.ret _ (x6.q.2.2.1,x6.q.2.2.2.1,x6.o.1,x6.o.2.1,x6.o.2.2.1,x6.o.2.2.2.1,x6.o.q.1,())) (x.2.1,x2.1,x.1,A.lit 0,A.lit 0,A.lit 0,A.lit 0,A.lit 0,A.lit 0,x0.1,x1.1,())
def Qz (A:Alg) (kI:Pt A fM) (kJ:Ft A fM) (fO:Pt A fK) (fP:Ft A fK) (x:Tup A.ah [.x .blk]):Ot A Eu:=
 A.l1 (.l .bool) (A.lst .bool []) fun x0=>
 A.cl kI kJ (x.1,()) fun x1=>
 A.cond (A.aB x1.1) (A.ret _ (x0.1,()))<|
 A.l1 .i (A.lit 0) fun x2=>
 A.iter [.i,.x .blk,.l .bool] (fun x3=>
 A.cond (A.cmp .lss x3.1 (A.len .iop (A.fL .blk 2 .iop x3.2.1))) (A.bd .iop (A.fL .blk 2 .iop x3.2.1) x3.1<|
 A.l1 (.l .bool) (A.lst .bool [A.mkX .bool (A.cmp .geq (A.fI .iop 0 (A.get .iop (A.fL .blk 2 .iop x3.2.1) x3.1)) (A.lit 4),())]) fun x4=>
 A.chk (A.cmp .leq (A.addN (A.len .bool x3.2.2.1) (A.len .bool x4.1)) (A.lit 1073741824))<|
 A.l1 (.l .bool) (A.app .bool x3.2.2.1 x4.1) fun x5=>
 A.l1 .i (A.arith .add .i64 x3.1 (A.lit 1)) fun x6=>
 A.inl _ (x6.1,x3.2.1,x5.1,()))<|
 A.inr _<|A.bind [.x .blk,.l .bool] (A.cond (A.cmp .neq (A.fI .blk 3 x3.2.1) (A.lit 1)) (A.bd .bool x3.2.2.1 (A.fI .blk 4 x3.2.1)<|
 A.bd .bool x3.2.2.1 (A.fI .blk 4 x3.2.1)<|
 A.l1 .b (A.bl true) fun x4=>
 A.ret _ (x3.2.1,A.set .bool x3.2.2.1 (A.fI .blk 4 x3.2.1) (A.mkX .bool (x4.1,())),()))<|
 A.ret _ (x3.2.1,x3.2.2.1,())) fun x4=>
 A.bind [.x .blk,.l .bool] (A.cond (A.ak (A.cmp .eql (A.fI .blk 3 x4.1) (A.lit 3)) (A.bl true) (A.cmp .eql (A.fI .blk 3 x4.1) (A.lit 4))) (A.bd .bool x4.2.1 (A.fI .blk 5 x4.1)<|
 A.bd .bool x4.2.1 (A.fI .blk 5 x4.1)<|
 A.l1 .b (A.bl true) fun x5=>
 A.ret _ (x4.1,A.set .bool x4.2.1 (A.fI .blk 5 x4.1) (A.mkX .bool (x5.1,())),()))<|
 A.ret _ (x4.1,x4.2.1,())) fun x5=>
 A.l1 .i (A.arith .sub .i64 (A.len .iop (A.fL .blk 2 .iop x5.1)) (A.lit 1)) fun x6=>
 A.iter [.i,.x .blk,.l .bool] (fun x7=>
 A.cond (A.cmp .geq x7.1 (A.lit 0)) (A.lu [.i,.x .blk,.l .bool] (A.bd .iop (A.fL .blk 2 .iop x7.2.1) x7.1<|
 A.l1 (.x .iop) (A.get .iop (A.fL .blk 2 .iop x7.2.1) x7.1) fun x8=>
 A.bd .bool x7.2.2.1 x7.1<|
 A.bd .bool x7.2.2.1 x7.1<|
 A.cond (A.aB (A.fB .bool 0 (A.get .bool x7.2.2.1 x7.1))) (A.inl _ (x7.1,x7.2.1,x7.2.2.1,()))<|
 A.cl fO fP (A.fI .iop 0 x8.1,A.lit 3,A.lit 5,()) fun x9=>
 A.bind [.i,.x .blk,.l .bool,.x .iop] (A.cond (A.ak (A.ak x9.1 (A.bl true) (A.cmp .eql (A.fI .iop 0 x8.1) (A.lit 7))) (A.bl true) (A.cmp .eql (A.fI .iop 0 x8.1) (A.lit 8))) (A.bd .bool x7.2.2.1 (A.fI .iop 1 x8.1)<|
 A.bd .bool x7.2.2.1 (A.fI .iop 1 x8.1)<|
 A.l1 .b (A.bl true) fun x10=>
 A.ret _ (x7.1,x7.2.1,A.set .bool x7.2.2.1 (A.fI .iop 1 x8.1) (A.mkX .bool (x10.1,())),x8.1,()))<|
 A.ret _ (x7.1,x7.2.1,x7.2.2.1,x8.1,())) fun x10=>
 A.bind [.i,.x .blk,.l .bool] (A.cond (A.ak (A.cmp .eql (A.fI .iop 0 x10.2.2.2.1) (A.lit 3)) (A.bl true) (A.cmp .eql (A.fI .iop 0 x10.2.2.2.1) (A.lit 5))) (A.bd .bool x10.2.2.1 (A.fI .iop 2 x10.2.2.2.1)<|
 A.bd .bool x10.2.2.1 (A.fI .iop 2 x10.2.2.2.1)<|
 A.l1 .b (A.bl true) fun x11=>
 A.ret _ (x10.1,x10.2.1,A.set .bool x10.2.2.1 (A.fI .iop 2 x10.2.2.2.1) (A.mkX .bool (x11.1,())),()))<|
 A.ret _ (x10.1,x10.2.1,x10.2.2.1,())) fun x11=>
 A.inl _ (x11.1,x11.2.1,x11.2.2.1,())) fun x8=>
 A.l1 .i (A.arith .sub .i64 x8.1 (A.lit 1)) fun x9=>
 A.inl _ (x9.1,x8.2.1,x8.2.2.1,()))<|
 A.inr _<|A.ret _ (x7.2.2.1,())) (x6.1,x5.1,x5.2.1,())) (x2.1,x.1,x0.1,())
def QA (A:Alg) (kI:Pt A fM) (kJ:Ft A fM) (ae1:Pt A Eu) (ae2:Ft A Eu) (QB:Pt A uz) (QC:Ft A uz) (x:Tup A.ah [.x .blk]):Ot A Ew:=
 A.cl kI kJ (x.1,()) fun x0=>
 A.cond (A.aB x0.1) (A.ret _ (A.lit 0,A.lit 0,A.lit 0,A.lit 0,A.lit 0,A.lit 0,A.cu .iop,()))<|
 A.cl ae1 ae2 (x.1,()) fun x1=>
 A.cl QB QC (x.1,x1.1,()) fun x2=>
 A.ret _ (x2.1,x2.2.1,x2.2.2.1,x2.2.2.2.1,x2.q.1,x2.q.2.1,x2.q.2.2.1,())
def QD (A:Alg) (x:Tup A.ah [.l .iop,.i]):Ot A Ey:=
 A.l1 .b (A.bl false) fun x0=>
 A.l1 .i (A.arith .add .i64 x.2.1 (A.lit 1)) fun x1=>
 A.iter [.l .iop,.i,.i] (fun x2=>
 A.cond (A.cmp .lss x2.2.2.1 (A.len .iop x2.1)) (A.bd .iop x2.1 x2.2.2.1<|
 A.chk (A.orB (A.aB (A.aB (A.cmp .eql (A.fI .iop 0 (A.get .iop x2.1 x2.2.2.1)) (A.lit 4)))) (A.cmp .leq (A.lit 0) x2.2.2.1))<|
 A.chk (A.orB (A.aB (A.aB (A.cmp .eql (A.fI .iop 0 (A.get .iop x2.1 x2.2.2.1)) (A.lit 4)))) (A.cmp .lss x2.2.2.1 (A.len .iop x2.1)))<|
 A.chk (A.orB (A.aB (A.aB (A.ak (A.cmp .eql (A.fI .iop 0 (A.get .iop x2.1 x2.2.2.1)) (A.lit 4)) (A.bl true) (A.cmp .eql (A.fI .iop 0 (A.get .iop x2.1 x2.2.2.1)) (A.lit 5))))) (A.cmp .leq (A.lit 0) x2.2.2.1))<|
 A.chk (A.orB (A.aB (A.aB (A.ak (A.cmp .eql (A.fI .iop 0 (A.get .iop x2.1 x2.2.2.1)) (A.lit 4)) (A.bl true) (A.cmp .eql (A.fI .iop 0 (A.get .iop x2.1 x2.2.2.1)) (A.lit 5))))) (A.cmp .lss x2.2.2.1 (A.len .iop x2.1)))<|
 A.chk (A.orB (A.aB (A.mU (A.aB (A.ak (A.cmp .eql (A.fI .iop 0 (A.get .iop x2.1 x2.2.2.1)) (A.lit 4)) (A.bl true) (A.cmp .eql (A.fI .iop 0 (A.get .iop x2.1 x2.2.2.1)) (A.lit 5)))) (A.cmp .eql (A.fI .iop 0 (A.get .iop x2.1 x2.2.2.1)) (A.lit 2)))) (A.cmp .leq (A.lit 0) x2.2.2.1))<|
 A.chk (A.orB (A.aB (A.mU (A.aB (A.ak (A.cmp .eql (A.fI .iop 0 (A.get .iop x2.1 x2.2.2.1)) (A.lit 4)) (A.bl true) (A.cmp .eql (A.fI .iop 0 (A.get .iop x2.1 x2.2.2.1)) (A.lit 5)))) (A.cmp .eql (A.fI .iop 0 (A.get .iop x2.1 x2.2.2.1)) (A.lit 2)))) (A.cmp .lss x2.2.2.1 (A.len .iop x2.1)))<|
 A.chk (A.orB (A.aB (A.mU (A.aB (A.ak (A.cmp .eql (A.fI .iop 0 (A.get .iop x2.1 x2.2.2.1)) (A.lit 4)) (A.bl true) (A.cmp .eql (A.fI .iop 0 (A.get .iop x2.1 x2.2.2.1)) (A.lit 5)))) (A.cmp .eql (A.fI .iop 0 (A.get .iop x2.1 x2.2.2.1)) (A.lit 2)))) (A.cmp .leq (A.lit 0) x2.2.1))<|
 A.chk (A.orB (A.aB (A.mU (A.aB (A.ak (A.cmp .eql (A.fI .iop 0 (A.get .iop x2.1 x2.2.2.1)) (A.lit 4)) (A.bl true) (A.cmp .eql (A.fI .iop 0 (A.get .iop x2.1 x2.2.2.1)) (A.lit 5)))) (A.cmp .eql (A.fI .iop 0 (A.get .iop x2.1 x2.2.2.1)) (A.lit 2)))) (A.cmp .lss x2.2.1 (A.len .iop x2.1)))<|
 A.cond (A.ak (A.ak (A.cmp .eql (A.fI .iop 0 (A.get .iop x2.1 x2.2.2.1)) (A.lit 4)) (A.bl true) (A.cmp .eql (A.fI .iop 0 (A.get .iop x2.1 x2.2.2.1)) (A.lit 5))) (A.bl true) (A.ak (A.cmp .eql (A.fI .iop 0 (A.get .iop x2.1 x2.2.2.1)) (A.lit 2)) (A.cmp .eql (A.fI .iop 3 (A.get .iop x2.1 x2.2.2.1)) (A.fI .iop 3 (A.get .iop x2.1 x2.2.1))) (A.bl false))) (A.l1 .b (A.bl false) fun x3=>
 A.inr _<|A.ret _ (x3.1,()))<|
 A.bd .iop x2.1 x2.2.2.1<|
 A.chk (A.orB (A.aB (A.cmp .eql (A.fI .iop 0 (A.get .iop x2.1 x2.2.2.1)) (A.lit 8))) (A.cmp .leq (A.lit 0) x2.2.2.1))<|
 A.chk (A.orB (A.aB (A.cmp .eql (A.fI .iop 0 (A.get .iop x2.1 x2.2.2.1)) (A.lit 8))) (A.cmp .lss x2.2.2.1 (A.len .iop x2.1)))<|
 A.chk (A.orB (A.aB (A.cmp .eql (A.fI .iop 0 (A.get .iop x2.1 x2.2.2.1)) (A.lit 8))) (A.cmp .leq (A.lit 0) x2.2.1))<|
 A.chk (A.orB (A.aB (A.cmp .eql (A.fI .iop 0 (A.get .iop x2.1 x2.2.2.1)) (A.lit 8))) (A.cmp .lss x2.2.1 (A.len .iop x2.1)))<|
 A.cond (A.ak (A.cmp .eql (A.fI .iop 0 (A.get .iop x2.1 x2.2.2.1)) (A.lit 8)) (A.cmp .eql (A.fI .iop 3 (A.get .iop x2.1 x2.2.2.1)) (A.fI .iop 3 (A.get .iop x2.1 x2.2.1))) (A.bl false)) (A.l1 .b (A.bl true) fun x3=>
 A.inr _<|A.ret _ (x3.1,()))<|
 A.l1 .i (A.arith .add .i64 x2.2.2.1 (A.lit 1)) fun x3=>
 A.inl _ (x2.1,x2.2.1,x3.1,()))<|
 A.inr _<|A.rb (A.bl false)) (x.1,x.2.1,x1.1,())
def QE (A:Alg) (kI:Pt A fM) (kJ:Ft A fM) (QB:Pt A uz) (QC:Ft A uz) (ae3:Pt A Ey) (ae4:Ft A Ey) (x:Tup A.ah [.x .blk]):Ot A Ez:=
 A.cl kI kJ (x.1,()) fun x0=>
 A.cond (A.aB x0.1) (A.ret _ (A.lit 0,A.lit 0,A.lit 0,A.lit 0,A.lit 0,A.lit 0,A.cu .iop,()))<|
 A.l1 (.l .bool) (A.lst .bool []) fun x1=>
 A.l1 .i (A.lit 0) fun x2=>
 A.iter [.i,.x .blk,.i,.i,.i,.i,.i,.i,.l .bool] (fun x3=>
 A.cond (A.cmp .lss x3.1 (A.len .iop (A.fL .blk 2 .iop x3.2.1))) (A.bd .iop (A.fL .blk 2 .iop x3.2.1) x3.1<|
 A.cg (A.aB (A.cmp .neq (A.fI .iop 0 (A.get .iop (A.fL .blk 2 .iop x3.2.1) x3.1)) (A.lit 8))) ae3 ae4 (A.fL .blk 2 .iop x3.2.1,x3.1,()) fun x4=>
 A.l1 (.l .bool) (A.lst .bool [A.mkX .bool (A.ak (A.cmp .neq (A.fI .iop 0 (A.get .iop (A.fL .blk 2 .iop x3.2.1) x3.1)) (A.lit 8)) (A.bl true) (A.aB x4.1),())]) fun x5=>
 A.chk (A.cmp .leq (A.addN (A.len .bool x3.o.1) (A.len .bool x5.1)) (A.lit 1073741824))<|
 A.l1 (.l .bool) (A.app .bool x3.o.1 x5.1) fun x6=>
 A.l1 .i (A.arith .add .i64 x3.1 (A.lit 1)) fun x7=>
 A.inl _ (x7.1,x3.2.1,x3.2.2.1,x3.2.2.2.1,x3.q.1,x3.q.2.1,x3.q.2.2.1,x3.q.2.2.2.1,x6.1,()))<|
 A.inr _<|A.cl QB QC (x3.2.1,x3.o.1,()) fun x4=>
 A.ret _ (x4.1,x4.2.1,x4.2.2.1,x4.2.2.2.1,x4.q.1,x4.q.2.1,x4.q.2.2.1,())) (x2.1,x.1,A.lit 0,A.lit 0,A.lit 0,A.lit 0,A.lit 0,A.lit 0,x1.1,())
def QF (A:Alg) (x:Tup A.ah [.l .iop,.i]):Ot A uD:=
 A.l1 .i (A.lit 0) fun x0=>
 A.l1 .b (A.bl false) fun x1=>
 A.chk (A.orB (A.aB (A.aB (A.ak (A.cmp .lss x.2.1 (A.lit 0)) (A.bl true) (A.cmp .geq x.2.1 (A.len .iop x.1))))) (A.cmp .leq (A.lit 0) x.2.1))<|
 A.chk (A.orB (A.aB (A.aB (A.ak (A.cmp .lss x.2.1 (A.lit 0)) (A.bl true) (A.cmp .geq x.2.1 (A.len .iop x.1))))) (A.cmp .lss x.2.1 (A.len .iop x.1)))<|
 A.cond (A.ak (A.ak (A.cmp .lss x.2.1 (A.lit 0)) (A.bl true) (A.cmp .geq x.2.1 (A.len .iop x.1))) (A.bl true) (A.cmp .neq (A.fI .iop 0 (A.get .iop x.1 x.2.1)) (A.lit 1))) (A.l1 .i (A.lit 0) fun x2=>
 A.l1 .b (A.bl false) fun x3=>
 A.ret _ (x2.1,x3.1,()))<|
 A.bd .iop x.1 x.2.1<|
 A.l1 .i (A.fI .iop 3 (A.get .iop x.1 x.2.1)) fun x2=>
 A.l1 .b (A.bl true) fun x3=>
 A.ret _ (x2.1,x3.1,())
def QG (A:Alg) (x:Tup A.ah [.i]):Ot A EA:=
 A.l1 .i (A.lit 0) fun x0=>
 A.chk (A.cmp .neq (A.lit 65536) (A.lit 0))<|
 A.l1 .i (A.arith .rem .i64 x.1 (A.lit 65536)) fun x1=>
 A.bind [.i] (A.cond (A.cmp .lss x1.1 (A.lit 0)) (A.l1 .i (A.arith .add .i64 x1.1 (A.lit 65536)) fun x2=>
 A.ret _ (x2.1,()))<|
 A.ret _ (x1.1,())) fun x2=>
 A.l1 .i x2.1 fun x3=>
 A.ret _ (x3.1,())
def QH (A:Alg) (QI:Pt A EA) (QJ:Ft A EA) (yg:Pt A mZ) (yh:Ft A mZ) (x:Tup A.ah [.i,.i,.i]):Ot A EB:=
 A.l1 .i (A.lit 0) fun x0=>
 A.cl yg yh (x.2.1,()) fun x1=>
 A.cg (A.aB (A.aB x1.1)) yg yh (x.2.2.1,()) fun x2=>
 A.cond (A.ak (A.aB x1.1) (A.bl true) (A.aB x2.1)) (A.l1 .i (A.lit 0) fun x3=>
 A.ret _ (x3.1,()))<|
 A.l1 .b (A.cmp .eql x.1 (A.lit 1)) fun x3=>
 A.cond x3.1 (A.cl QI QJ (A.arith .add .i64 x.2.1 x.2.2.1,()) fun x4=>
 A.l1 .i x4.1 fun x5=>
 A.ret _ (x5.1,()))<|
 A.l1 .b (A.cmp .eql x.1 (A.lit 2)) fun x4=>
 A.cond x4.1 (A.cl QI QJ (A.arith .sub .i64 x.2.1 x.2.2.1,()) fun x5=>
 A.l1 .i x5.1 fun x6=>
 A.ret _ (x6.1,()))<|
 A.l1 .b (A.cmp .eql x.1 (A.lit 3)) fun x5=>
 A.cond x5.1 (A.cl QI QJ (A.arith .mul .i64 x.2.1 x.2.2.1,()) fun x6=>
 A.l1 .i x6.1 fun x7=>
 A.ret _ (x7.1,()))<|
 A.l1 .b (A.cmp .eql x.1 (A.lit 4)) fun x6=>
 A.cond x6.1 (A.l1 .i (A.arith .and .i64 x.2.1 x.2.2.1) fun x7=>
 A.ret _ (x7.1,()))<|
 A.l1 .b (A.cmp .eql x.1 (A.lit 5)) fun x7=>
 A.cond x7.1 (A.l1 .i (A.arith .xor .i64 x.2.1 x.2.2.1) fun x8=>
 A.ret _ (x8.1,()))<|
 A.l1 .i (A.lit 0) fun x8=>
 A.ret _ (x8.1,())
def QK (A:Alg) (x:Tup A.ah [.x .blk,.i]):Ot A EC:=
 A.l1 .i (A.lit 1) fun x0=>
 A.l1 .i (A.lit 0) fun x1=>
 A.l1 .i (A.lit 0) fun x2=>
 A.l1 .i x.2.1 fun x3=>
 A.ret _ (A.fI .blk 0 x.1,A.fI .blk 1 x.1,A.fL .blk 2 .iop x.1,x0.1,x1.1,x2.1,x3.1,())
def QL (A:Alg) (QM:Pt A EC) (QN:Ft A EC) (FR:Pt A uD) (FT:Ft A uD) (x:Tup A.ah [.x .blk]):Ot A ED:=
 A.cl FR FT (A.fL .blk 2 .iop x.1,A.fI .blk 4 x.1,()) fun x0=>
 A.l1 .i x0.1 fun x1=>
 A.l1 .b x0.2.1 fun x2=>
 A.cl FR FT (A.fL .blk 2 .iop x.1,A.fI .blk 5 x.1,()) fun x3=>
 A.l1 .i x3.1 fun x4=>
 A.l1 .b x3.2.1 fun x5=>
 A.l1 .b (A.ak (A.cmp .eql (A.fI .blk 3 x.1) (A.lit 2)) x2.1 (A.bl false)) fun x6=>
 A.cond x6.1 (A.cl QM QN (x.1,x1.1,()) fun x7=>
 A.ret _ (A.mkX .blk (x7.1,x7.2.1,x7.2.2.1,x7.2.2.2.1,x7.q.1,x7.q.2.1,x7.q.2.2.1,()),()))<|
 A.l1 .b (A.ak (A.ak (A.ak (A.cmp .eql (A.fI .blk 3 x.1) (A.lit 3)) x2.1 (A.bl false)) x5.1 (A.bl false)) (A.cmp .eql x1.1 x4.1) (A.bl false)) fun x7=>
 A.bind [.b,.b,.b,.x .blk,.i,.i,.i,.i,.i,.i] (A.cond x7.1 (A.ret _ (x2.1,x5.1,x7.1,x.1,A.lit 0,A.lit 0,A.lit 0,A.lit 0,A.lit 0,A.lit 0,()))<|
 A.l1 .b (A.ak (A.ak (A.ak (A.cmp .eql (A.fI .blk 3 x.1) (A.lit 4)) x2.1 (A.bl false)) x5.1 (A.bl false)) (A.cmp .lss x1.1 x4.1) (A.bl false)) fun x8=>
 A.ret _ (x2.1,x5.1,x8.1,x.1,A.lit 0,A.lit 0,A.lit 0,A.lit 0,A.lit 0,A.lit 0,())) fun x8=>
 A.cond x8.2.2.1 (A.cl QM QN (x8.2.2.2.1,A.fI .blk 6 x8.2.2.2.1,()) fun x9=>
 A.ret _ (A.mkX .blk (x9.1,x9.2.1,x9.2.2.1,x9.2.2.2.1,x9.q.1,x9.q.2.1,x9.q.2.2.1,()),()))<|
 A.l1 .b (A.ak (A.ak (A.ak (A.cmp .eql (A.fI .blk 3 x8.2.2.2.1) (A.lit 3)) (A.bl true) (A.cmp .eql (A.fI .blk 3 x8.2.2.2.1) (A.lit 4))) x8.1 (A.bl false)) x8.2.1 (A.bl false)) fun x9=>
 A.cond x9.1 (A.cl QM QN (x8.2.2.2.1,A.arith .add .i64 (A.fI .blk 0 x8.2.2.2.1) (A.fI .blk 1 x8.2.2.2.1),()) fun x10=>
 A.ret _ (A.mkX .blk (x10.1,x10.2.1,x10.2.2.1,x10.2.2.2.1,x10.q.1,x10.q.2.1,x10.q.2.2.1,()),()))<|
 A.l1 (.x .blk) x8.2.2.2.1 fun x10=>
 A.ret _ (x10.1,())
def QO (A:Alg) (kI:Pt A fM) (kJ:Ft A fM) (ae5:Pt A EB) (ae6:Ft A EB) (ae7:Pt A ED) (ae8:Ft A ED) (FR:Pt A uD) (FT:Ft A uD) (yj:Pt A jS) (yu:Ft A jS) (x:Tup A.ah [.x .blk]):Ot A EF:=
 A.cl kI kJ (x.1,()) fun x0=>
 A.cond (A.aB x0.1) (A.ret _ (A.mkX .blk (A.lit 0,A.lit 0,A.cu .iop,A.lit 0,A.lit 0,A.lit 0,A.lit 0,()),()))<|
 A.cl yj yu (x.1,()) fun x1=>
 A.l1 .i (A.lit 0) fun x2=>
 A.iter [.i,.i,.i,.i,.i,.i,.i,.i,.i,.i,.i,.i,.i,.l .iop] (fun x3=>
 A.cond (A.cmp .lss x3.1 (A.len .iop x3.o.q.2.1)) (A.bd .iop x3.o.q.2.1 x3.1<|
 A.bd .iop x3.o.q.2.1 x3.1<|
 A.l1 (.x .iop) (A.get .iop x3.o.q.2.1 x3.1) fun x4=>
 A.cl FR FT (x3.o.q.2.1,A.fI .iop 1 x4.1,()) fun x5=>
 A.l1 .i x5.1 fun x6=>
 A.l1 .b x5.2.1 fun x7=>
 A.cl FR FT (x3.o.q.2.1,A.fI .iop 2 x4.1,()) fun x8=>
 A.l1 .i x8.1 fun x9=>
 A.l1 .b x8.2.1 fun x10=>
 A.bind [.i,.i,.i,.i,.i,.i,.i,.i,.i,.i,.i,.i,.i,.l .iop] (A.cond (A.ak (A.ak (A.cmp .eql (A.fI .iop 0 x4.1) (A.lit 3)) x7.1 (A.bl false)) x10.1 (A.bl false)) (A.cl ae5 ae6 (A.fI .iop 3 x4.1,x6.1,x9.1,()) fun x11=>
 A.bd .iop x3.o.q.2.1 x3.1<|
 A.bd .iop x3.o.q.2.1 x3.1<|
 A.ret _ (x3.1,x3.2.1,x3.2.2.1,x3.2.2.2.1,x3.q.1,x3.q.2.1,x3.q.2.2.1,x3.q.2.2.2.1,x3.o.1,x3.o.2.1,x3.o.2.2.1,x3.o.2.2.2.1,x3.o.q.1,A.set .iop x3.o.q.2.1 x3.1 (A.mkX .iop (A.lit 1,A.lit 0,A.lit 0,x11.1,A.lit 0,())),()))<|
 A.ret _ (x3.1,x3.2.1,x3.2.2.1,x3.2.2.2.1,x3.q.1,x3.q.2.1,x3.q.2.2.1,x3.q.2.2.2.1,x3.o.1,x3.o.2.1,x3.o.2.2.1,x3.o.2.2.2.1,x3.o.q.1,x3.o.q.2.1,())) fun x11=>
 A.l1 .i (A.arith .add .i64 x11.1 (A.lit 1)) fun x12=>
 A.inl _ (x12.1,x11.2.1,x11.2.2.1,x11.2.2.2.1,x11.q.1,x11.q.2.1,x11.q.2.2.1,x11.q.2.2.2.1,x11.o.1,x11.o.2.1,x11.o.2.2.1,x11.o.2.2.2.1,x11.o.q.1,x11.o.q.2.1,()))<|
 A.inr _<|A.cl ae7 ae8 (A.mkX .blk (x3.q.2.2.2.1,x3.o.1,x3.o.q.2.1,x3.o.2.1,x3.o.2.2.1,x3.o.2.2.2.1,x3.o.q.1,()),()) fun x4=>
 A.l1 (.x .blk) x4.1 fun x5=>
 A.ret _ (x5.1,())) (x2.1,A.lit 0,A.lit 0,A.lit 0,A.lit 0,A.lit 0,A.lit 0,x1.1,x1.2.1,x1.2.2.1,x1.2.2.2.1,x1.q.1,x1.q.2.1,x1.q.2.2.1,())
def QS (A:Alg) (ae9:Pt A EF) (afa:Ft A EF) (FU:Pt A nu) (FV:Ft A nu) (XP:Pt A Ew) (XQ:Ft A Ew) (afb:Pt A Ez) (afc:Ft A Ez) (x:Tup A.ah [.x .blk]):Ot A uE:=
 A.cl FU FV (x.1,()) fun x0=>
 A.cl ae9 afa (A.mkX .blk (x0.1,x0.2.1,x0.q.2.2.1,x0.2.2.1,x0.2.2.2.1,x0.q.1,x0.q.2.1,()),()) fun x1=>
 A.cl XP XQ (x1.1,()) fun x2=>
 A.cl afb afc (A.mkX .blk (x2.1,x2.2.1,x2.q.2.2.1,x2.2.2.1,x2.2.2.2.1,x2.q.1,x2.q.2.1,()),()) fun x3=>
 A.cl XP XQ (A.mkX .blk (x3.1,x3.2.1,x3.q.2.2.1,x3.2.2.1,x3.2.2.2.1,x3.q.1,x3.q.2.1,()),()) fun x4=>
 A.ret _ (x4.1,x4.2.1,x4.2.2.1,x4.2.2.2.1,x4.q.1,x4.q.2.1,x4.q.2.2.1,())
def QT (A:Alg) (aV:Pt A dK) (aW:Ft A dK) (x:Tup A.ah [.l .u8,.i]):Ot A EG:=
 A.cl aV aW (A.lit 4,x.1,x.2.1,()) fun x0=>
 A.l1 .i x0.1 fun x1=>
 A.cl aV aW (A.lit 4,x0.2.1,x0.2.2.1,()) fun x2=>
 A.l1 .i x2.1 fun x3=>
 A.cl aV aW (A.lit 14,x2.2.1,x2.2.2.1,()) fun x4=>
 A.l1 .b (A.cmp .eql x4.1 (A.lit 0)) fun x5=>
 A.bind [.i,.i,.i,.b,.l .u8,.i,.i,.i,.i,.i] (A.cond x5.1 (A.ret _ (x1.1,x3.1,x4.1,x5.1,x4.2.1,x4.2.2.1,A.lit 0,A.lit 0,A.lit 0,A.lit 0,()))<|
 A.l1 .b (A.cmp .eql x4.1 (A.lit 1)) fun x6=>
 A.ret _ (x1.1,x3.1,x4.1,x6.1,x4.2.1,x4.2.2.1,A.lit 0,A.lit 0,A.lit 0,A.lit 0,())) fun x6=>
 A.cond x6.2.2.2.1 (A.cl aV aW (A.lit 64,x6.q.1,x6.q.2.1,()) fun x7=>
 A.cl aV aW (A.lit 256,x7.2.1,x7.2.2.1,()) fun x8=>
 A.l1 (.l .i64) (A.lst .i64 [A.mkX .i64 (A.lit 0,()),A.mkX .i64 (A.lit 1,()),A.mkX .i64 (A.lit 2,()),A.mkX .i64 (x7.1,()),A.mkX .i64 (x8.1,()),A.mkX .i64 (A.lit 255,())]) fun x9=>
 A.cl aV aW (A.lit 6,x8.2.1,x8.2.2.1,()) fun x10=>
 A.bd .i64 x9.1 x10.1<|
 A.bd .i64 x9.1 x10.1<|
 A.ret _ (A.lit 1,x6.1,A.lit 0,A.fI .i64 0 (A.get .i64 x9.1 x10.1),x10.2.1,x10.2.2.1,()))<|
 A.l1 .b (A.cmp .eql x6.2.2.1 (A.lit 2)) fun x7=>
 A.cond x7.1 (A.ret _ (A.lit 2,x6.1,x6.2.1,A.lit 0,x6.q.1,x6.q.2.1,()))<|
 A.l1 .b (A.cmp .eql x6.2.2.1 (A.lit 3)) fun x8=>
 A.bind [.i,.i,.i,.b,.l .u8,.i,.i,.i,.i,.i] (A.cond x8.1 (A.ret _ (x6.1,x6.2.1,x6.2.2.1,x8.1,x6.q.1,x6.q.2.1,x6.q.2.2.1,x6.q.2.2.2.1,x6.o.1,x6.o.2.1,()))<|
 A.l1 .b (A.cmp .eql x6.2.2.1 (A.lit 4)) fun x9=>
 A.bind [.i,.i,.i,.b,.l .u8,.i,.i,.i,.i,.i] (A.cond x9.1 (A.ret _ (x6.1,x6.2.1,x6.2.2.1,x9.1,x6.q.1,x6.q.2.1,x6.q.2.2.1,x6.q.2.2.2.1,x6.o.1,x6.o.2.1,()))<|
 A.l1 .b (A.cmp .eql x6.2.2.1 (A.lit 5)) fun x10=>
 A.ret _ (x6.1,x6.2.1,x6.2.2.1,x10.1,x6.q.1,x6.q.2.1,x6.q.2.2.1,x6.q.2.2.2.1,x6.o.1,x6.o.2.1,())) fun x10=>
 A.ret _ (x10.1,x10.2.1,x10.2.2.1,x10.2.2.2.1,x10.q.1,x10.q.2.1,x10.q.2.2.1,x10.q.2.2.2.1,x10.o.1,x10.o.2.1,())) fun x9=>
 A.cond x9.2.2.2.1 (A.cl aV aW (A.lit 5,x9.q.1,x9.q.2.1,()) fun x10=>
 A.cl aV aW (A.lit 4,x10.2.1,x10.2.2.1,()) fun x11=>
 A.ret _ (A.arith .add .i64 (A.lit 3) x10.1,x9.1,x9.2.1,x11.1,x11.2.1,x11.2.2.1,()))<|
 A.l1 .b (A.cmp .eql x9.2.2.1 (A.lit 6)) fun x10=>
 A.cond x10.1 (A.cl aV aW (A.lit 16,x9.q.1,x9.q.2.1,()) fun x11=>
 A.l1 (.l .i64) (A.lst .i64 [A.mkX .i64 (A.lit 0,()),A.mkX .i64 (A.lit 1,()),A.mkX .i64 (A.lit 8,()),A.mkX .i64 (A.lit 15,()),A.mkX .i64 (x11.1,())]) fun x12=>
 A.cl aV aW (A.lit 5,x11.2.1,x11.2.2.1,()) fun x13=>
 A.bd .i64 x12.1 x13.1<|
 A.bd .i64 x12.1 x13.1<|
 A.ret _ (A.lit 8,x9.1,x9.2.1,A.fI .i64 0 (A.get .i64 x12.1 x13.1),x13.2.1,x13.2.2.1,()))<|
 A.l1 .b (A.cmp .eql x9.2.2.1 (A.lit 7)) fun x11=>
 A.bind [.i,.i,.i,.b,.l .u8,.i,.i,.i,.i,.i] (A.cond x11.1 (A.ret _ (x9.1,x9.2.1,x9.2.2.1,x11.1,x9.q.1,x9.q.2.1,x9.q.2.2.1,x9.q.2.2.2.1,x9.o.1,x9.o.2.1,()))<|
 A.l1 .b (A.cmp .eql x9.2.2.1 (A.lit 8)) fun x12=>
 A.ret _ (x9.1,x9.2.1,x9.2.2.1,x12.1,x9.q.1,x9.q.2.1,x9.q.2.2.1,x9.q.2.2.2.1,x9.o.1,x9.o.2.1,())) fun x12=>
 A.cond x12.2.2.2.1 (A.cl aV aW (A.lit 2,x12.q.1,x12.q.2.1,()) fun x13=>
 A.cl aV aW (A.lit 64,x13.2.1,x13.2.2.1,()) fun x14=>
 A.l1 (.l .i64) (A.lst .i64 [A.mkX .i64 (A.lit 0,()),A.mkX .i64 (A.lit 1,()),A.mkX .i64 (x14.1,()),A.mkX .i64 (A.lit 63,()),A.mkX .i64 (A.lit 64,()),A.mkX .i64 (A.lit 255,())]) fun x15=>
 A.cl aV aW (A.lit 6,x14.2.1,x14.2.2.1,()) fun x16=>
 A.bd .i64 x15.1 x16.1<|
 A.bd .i64 x15.1 x16.1<|
 A.ret _ (A.arith .add .i64 (A.lit 9) x13.1,x12.1,x12.2.1,A.fI .i64 0 (A.get .i64 x15.1 x16.1),x16.2.1,x16.2.2.1,()))<|
 A.l1 .b (A.cmp .eql x12.2.2.1 (A.lit 9)) fun x13=>
 A.cond x13.1 (A.cl aV aW (A.lit 2,x12.q.1,x12.q.2.1,()) fun x14=>
 A.cl aV aW (A.lit 20,x14.2.1,x14.2.2.1,()) fun x15=>
 A.cl aV aW (A.lit 64,x15.2.1,x15.2.2.1,()) fun x16=>
 A.l1 (.l .i64) (A.lst .i64 [A.mkX .i64 (x15.1,()),A.mkX .i64 (x16.1,()),A.mkX .i64 (A.lit 200,())]) fun x17=>
 A.cl aV aW (A.lit 3,x16.2.1,x16.2.2.1,()) fun x18=>
 A.bd .i64 x17.1 x18.1<|
 A.bd .i64 x17.1 x18.1<|
 A.ret _ (A.arith .add .i64 (A.lit 11) x14.1,x12.1,x12.2.1,A.fI .i64 0 (A.get .i64 x17.1 x18.1),x18.2.1,x18.2.2.1,()))<|
 A.l1 .b (A.cmp .eql x12.2.2.1 (A.lit 10)) fun x14=>
 A.cond x14.1 (A.cl aV aW (A.lit 2,x12.q.1,x12.q.2.1,()) fun x15=>
 A.ret _ (A.arith .add .i64 (A.lit 14) x15.1,x12.1,A.lit 0,A.lit 0,x15.2.1,x15.2.2.1,()))<|
 A.l1 .b (A.cmp .eql x12.2.2.1 (A.lit 11)) fun x15=>
 A.cond x15.1 (A.cl aV aW (A.lit 4,x12.q.1,x12.q.2.1,()) fun x16=>
 A.ret _ (A.lit 0,A.lit 0,A.lit 0,x16.1,x16.2.1,x16.2.2.1,()))<|
 A.l1 .b (A.cmp .eql x12.2.2.1 (A.lit 12)) fun x16=>
 A.cond x16.1 (A.ret _ (A.lit 13,A.lit 0,x12.2.1,A.lit 0,x12.q.1,x12.q.2.1,()))<|
 A.ret _ (A.lit 14,x12.1,A.lit 0,A.lit 0,x12.q.1,x12.q.2.1,())
def QU (A:Alg) (x:Tup A.ah [.x .ins]):Ot A EH:=
 A.l1 .b (A.bl false) fun x0=>
 A.l1 .b (A.cmp .eql (A.fI .ins 0 x.1) (A.lit 0)) fun x1=>
 A.cond x1.1 (A.rb (A.ak (A.ak (A.cmp .eql (A.fI .ins 1 x.1) (A.lit 0)) (A.cmp .eql (A.fI .ins 2 x.1) (A.lit 0)) (A.bl false)) (A.cmp .leq (A.fI .ins 3 x.1) (A.lit 3)) (A.bl false)))<|
 A.l1 .b (A.cmp .eql (A.fI .ins 0 x.1) (A.lit 1)) fun x2=>
 A.cond x2.1 (A.rb (A.cmp .eql (A.fI .ins 2 x.1) (A.lit 0)))<|
 A.l1 .b (A.cmp .eql (A.fI .ins 0 x.1) (A.lit 2)) fun x3=>
 A.cond x3.1 (A.rb (A.cmp .eql (A.fI .ins 3 x.1) (A.lit 0)))<|
 A.l1 .b (A.cmp .eql (A.fI .ins 0 x.1) (A.lit 3)) fun x4=>
 A.bind [.i,.b,.x .ins] (A.cond x4.1 (A.ret _ (A.fI .ins 0 x.1,x4.1,x.1,()))<|
 A.l1 .b (A.cmp .eql (A.fI .ins 0 x.1) (A.lit 4)) fun x5=>
 A.bind [.i,.b,.x .ins] (A.cond x5.1 (A.ret _ (A.fI .ins 0 x.1,x5.1,x.1,()))<|
 A.l1 .b (A.cmp .eql (A.fI .ins 0 x.1) (A.lit 5)) fun x6=>
 A.bind [.i,.b,.x .ins] (A.cond x6.1 (A.ret _ (A.fI .ins 0 x.1,x6.1,x.1,()))<|
 A.l1 .b (A.cmp .eql (A.fI .ins 0 x.1) (A.lit 6)) fun x7=>
 A.bind [.i,.b,.x .ins] (A.cond x7.1 (A.ret _ (A.fI .ins 0 x.1,x7.1,x.1,()))<|
 A.l1 .b (A.cmp .eql (A.fI .ins 0 x.1) (A.lit 7)) fun x8=>
 A.ret _ (A.fI .ins 0 x.1,x8.1,x.1,())) fun x8=>
 A.ret _ (x8.1,x8.2.1,x8.2.2.1,())) fun x7=>
 A.ret _ (x7.1,x7.2.1,x7.2.2.1,())) fun x6=>
 A.ret _ (x6.1,x6.2.1,x6.2.2.1,())) fun x5=>
 A.cond x5.2.1 (A.rb (A.cmp .lss (A.fI .ins 3 x5.2.2.1) (A.lit 4)))<|
 A.l1 .b (A.cmp .eql x5.1 (A.lit 8)) fun x6=>
 A.cond x6.1 (A.rb (A.cmp .lss (A.fI .ins 3 x5.2.2.1) (A.lit 16)))<|
 A.l1 .b (A.cmp .eql x5.1 (A.lit 13)) fun x7=>
 A.cond x7.1 (A.rb (A.ak (A.cmp .eql (A.fI .ins 1 x5.2.2.1) (A.lit 0)) (A.cmp .eql (A.fI .ins 3 x5.2.2.1) (A.lit 0)) (A.bl false)))<|
 A.l1 .b (A.cmp .eql x5.1 (A.lit 14)) fun x8=>
 A.bind [.b,.x .ins] (A.cond x8.1 (A.ret _ (x8.1,x5.2.2.1,()))<|
 A.l1 .b (A.cmp .eql x5.1 (A.lit 15)) fun x9=>
 A.ret _ (x9.1,x5.2.2.1,())) fun x9=>
 A.cond x9.1 (A.rb (A.ak (A.cmp .eql (A.fI .ins 2 x9.2.1) (A.lit 0)) (A.cmp .eql (A.fI .ins 3 x9.2.1) (A.lit 0)) (A.bl false)))<|
 A.rb (A.bl true)
def QV (A:Alg) (fO:Pt A fK) (fP:Ft A fK) (afd:Pt A EH) (afe:Ft A EH) (x:Tup A.ah [.x .ins]):Ot A uF:=
 A.l1 .b (A.bl false) fun x0=>
 A.cl fO fP (A.fI .ins 0 x.1,A.lit 0,A.lit 15,()) fun x1=>
 A.cg x1.1 fO fP (A.fI .ins 1 x.1,A.lit 0,A.lit 3,()) fun x2=>
 A.cg (A.ak x1.1 x2.1 (A.bl false)) fO fP (A.fI .ins 2 x.1,A.lit 0,A.lit 3,()) fun x3=>
 A.cg (A.ak (A.ak x1.1 x2.1 (A.bl false)) x3.1 (A.bl false)) fO fP (A.fI .ins 3 x.1,A.lit 0,A.lit 255,()) fun x4=>
 A.cg (A.ak (A.ak (A.ak x1.1 x2.1 (A.bl false)) x3.1 (A.bl false)) x4.1 (A.bl false)) afd afe (x.1,()) fun x5=>
 A.rb (A.ak (A.ak (A.ak (A.ak x1.1 x2.1 (A.bl false)) x3.1 (A.bl false)) x4.1 (A.bl false)) x5.1 (A.bl false))
def QW (A:Alg) (x:Tup A.ah [.i]):Ot A uG:=
 A.l1 .b (A.bl false) fun x0=>
 A.rb (A.ak (A.ak (A.cmp .eql x.1 (A.lit 11)) (A.bl true) (A.cmp .eql x.1 (A.lit 12))) (A.bl true) (A.cmp .eql x.1 (A.lit 13)))
def QX (A:Alg) (QY:Pt A uG) (QZ:Ft A uG) (Q0:Pt A uF) (Q5:Ft A uF) (x:Tup A.ah [.x .ins]):Ot A uH:=
 A.l1 .b (A.bl false) fun x0=>
 A.cl Q0 Q5 (x.1,()) fun x1=>
 A.cg (A.ak x1.1 (A.cmp .neq (A.fI .ins 0 x.1) (A.lit 0)) (A.bl false)) QY QZ (A.fI .ins 0 x.1,()) fun x2=>
 A.rb (A.ak (A.ak x1.1 (A.cmp .neq (A.fI .ins 0 x.1) (A.lit 0)) (A.bl false)) (A.aB x2.1) (A.bl false))
def Q6 (A:Alg) (aff:Pt A EG) (afg:Ft A EG) (aV:Pt A dK) (aW:Ft A dK) (Q7:Pt A uH) (Q8:Ft A uH) (x:Tup A.ah [.l .u8,.i]):Ot A EI:=
 A.cl aff afg (x.1,x.2.1,()) fun x0=>
 A.cl Q7 Q8 (A.mkX .ins (x0.1,x0.2.1,x0.2.2.1,x0.2.2.2.1,()),()) fun x1=>
 A.cond (A.aB x1.1) (A.cl aV aW (A.lit 4,x0.q.1,x0.q.2.1,()) fun x2=>
 A.ret _ (A.lit 3,x0.2.1,x0.2.2.1,x2.1,x2.2.1,x2.2.2.1,()))<|
 A.ret _ (x0.1,x0.2.1,x0.2.2.1,x0.2.2.2.1,x0.q.1,x0.q.2.1,())
def Q9 (A:Alg) (XR:Pt A EI) (XU:Ft A EI) (aV:Pt A dK) (aW:Ft A dK) (x:Tup A.ah [.l .u8,.i]):Ot A EJ:=
 A.l1 (.l .ins) (A.lst .ins []) fun x0=>
 A.cl aV aW (A.lit 8,x.1,x.2.1,()) fun x1=>
 A.l1 .i x1.1 fun x2=>
 A.iter [.i,.l .u8,.i,.l .ins] (fun x3=>
 A.cond (A.cmp .gtr x3.1 (A.lit 0)) (A.cl XR XU (x3.2.1,x3.2.2.1,()) fun x4=>
 A.l1 (.l .ins) (A.lst .ins [A.mkX .ins (x4.1,x4.2.1,x4.2.2.1,x4.2.2.2.1,())]) fun x5=>
 A.chk (A.cmp .leq (A.addN (A.len .ins x3.2.2.2.1) (A.len .ins x5.1)) (A.lit 1073741824))<|
 A.l1 (.l .ins) (A.app .ins x3.2.2.2.1 x5.1) fun x6=>
 A.l1 .i (A.arith .sub .i64 x3.1 (A.lit 1)) fun x7=>
 A.inl _ (x7.1,x4.q.1,x4.q.2.1,x6.1,()))<|
 A.inr _<|A.cl aV aW (A.lit 3,x3.2.1,x3.2.2.1,()) fun x4=>
 A.l1 .b (A.cmp .eql x4.1 (A.lit 0)) fun x5=>
 A.cond x5.1 (A.cl aV aW (A.lit 2,x4.2.1,x4.2.2.1,()) fun x6=>
 A.cl aV aW (A.lit 4,x6.2.1,x6.2.2.1,()) fun x7=>
 A.cl aV aW (A.lit 4,x7.2.1,x7.2.2.1,()) fun x8=>
 A.cl aV aW (A.lit 64,x8.2.1,x8.2.2.1,()) fun x9=>
 A.l1 (.l .ins) (A.lst .ins [A.mkX .ins (A.arith .add .i64 (A.lit 11) x6.1,x7.1,x8.1,x9.1,())]) fun x10=>
 A.chk (A.cmp .leq (A.addN (A.len .ins x3.2.2.2.1) (A.len .ins x10.1)) (A.lit 1073741824))<|
 A.l1 (.l .ins) (A.app .ins x3.2.2.2.1 x10.1) fun x11=>
 A.ret _ (x9.2.1,x9.2.2.1,x11.1,()))<|
 A.l1 .b (A.cmp .eql x4.1 (A.lit 1)) fun x6=>
 A.cond x6.1 (A.cl aV aW (A.lit 4,x4.2.1,x4.2.2.1,()) fun x7=>
 A.l1 (.l .ins) (A.lst .ins [A.mkX .ins (A.lit 13,A.lit 0,x7.1,A.lit 0,())]) fun x8=>
 A.chk (A.cmp .leq (A.addN (A.len .ins x3.2.2.2.1) (A.len .ins x8.1)) (A.lit 1073741824))<|
 A.l1 (.l .ins) (A.app .ins x3.2.2.2.1 x8.1) fun x9=>
 A.ret _ (x7.2.1,x7.2.2.1,x9.1,()))<|
 A.cl XR XU (x4.2.1,x4.2.2.1,()) fun x7=>
 A.l1 (.l .ins) (A.lst .ins [A.mkX .ins (x7.1,x7.2.1,x7.2.2.1,x7.2.2.2.1,())]) fun x8=>
 A.chk (A.cmp .leq (A.addN (A.len .ins x3.2.2.2.1) (A.len .ins x8.1)) (A.lit 1073741824))<|
 A.l1 (.l .ins) (A.app .ins x3.2.2.2.1 x8.1) fun x9=>
 A.ret _ (x7.q.1,x7.q.2.1,x9.1,())) (x2.1,x1.2.1,x1.2.2.1,x0.1,())
def Ra (A:Alg) (QY:Pt A uG) (QZ:Ft A uG) (Q0:Pt A uF) (Q5:Ft A uF) (fO:Pt A fK) (fP:Ft A fK) (Q7:Pt A uH) (Q8:Ft A uH) (x:Tup A.ah [.i,.l .ins]):Ot A EK:=
 A.l1 .b (A.bl false) fun x0=>
 A.cl fO fP (A.len .ins x.2.1,A.lit 1,A.lit 8,()) fun x1=>
 A.cg (A.aB (A.aB x1.1)) fO fP (x.1,A.lit 0,A.arith .sub .i64 (A.lit 64) (A.len .ins x.2.1),()) fun x2=>
 A.cond (A.ak (A.aB x1.1) (A.bl true) (A.aB x2.1)) (A.rb (A.bl false))<|
 A.l1 .i (A.lit 0) fun x3=>
 A.iter [.l .ins,.i] (fun x4=>
 A.cond (A.cmp .lss x4.2.1 (A.len .ins x4.1)) (A.bd .ins x4.1 x4.2.1<|
 A.cl Q7 Q8 (A.get .ins x4.1 x4.2.1,()) fun x5=>
 A.chk (A.orB (A.aB (A.mU (A.aB x5.1) (A.aB (A.cmp .lss x4.2.1 (A.arith .sub .i64 (A.len .ins x4.1) (A.lit 1)))))) (A.cmp .leq (A.lit 0) x4.2.1))<|
 A.chk (A.orB (A.aB (A.mU (A.aB x5.1) (A.aB (A.cmp .lss x4.2.1 (A.arith .sub .i64 (A.len .ins x4.1) (A.lit 1)))))) (A.cmp .lss x4.2.1 (A.len .ins x4.1)))<|
 A.cg (A.mU (A.aB x5.1) (A.aB (A.cmp .lss x4.2.1 (A.arith .sub .i64 (A.len .ins x4.1) (A.lit 1))))) Q0 Q5 (A.get .ins x4.1 x4.2.1,()) fun x6=>
 A.chk (A.orB (A.aB (A.mU (A.aB x5.1) (A.aB (A.ak (A.cmp .lss x4.2.1 (A.arith .sub .i64 (A.len .ins x4.1) (A.lit 1))) (A.bl true) (A.aB x6.1))))) (A.cmp .leq (A.lit 0) x4.2.1))<|
 A.chk (A.orB (A.aB (A.mU (A.aB x5.1) (A.aB (A.ak (A.cmp .lss x4.2.1 (A.arith .sub .i64 (A.len .ins x4.1) (A.lit 1))) (A.bl true) (A.aB x6.1))))) (A.cmp .lss x4.2.1 (A.len .ins x4.1)))<|
 A.cg (A.mU (A.aB x5.1) (A.aB (A.ak (A.cmp .lss x4.2.1 (A.arith .sub .i64 (A.len .ins x4.1) (A.lit 1))) (A.bl true) (A.aB x6.1)))) QY QZ (A.fI .ins 0 (A.get .ins x4.1 x4.2.1),()) fun x7=>
 A.cond (A.ak (A.aB x5.1) (A.ak (A.ak (A.cmp .lss x4.2.1 (A.arith .sub .i64 (A.len .ins x4.1) (A.lit 1))) (A.bl true) (A.aB x6.1)) (A.bl true) (A.aB x7.1)) (A.bl false)) (A.l1 .b (A.bl false) fun x8=>
 A.inr _<|A.ret _ (x8.1,()))<|
 A.l1 .i (A.arith .add .i64 x4.2.1 (A.lit 1)) fun x8=>
 A.inl _ (x4.1,x8.1,()))<|
 A.inr _<|A.rb (A.bl true)) (x.2.1,x3.1,())
def Rb (A:Alg) (x:Tup A.ah [.i,.i,.i,.i,.i,.i,.x .iop,.l .iop]):Ot A iK:=
 A.l1 .i (A.lit 0) fun x0=>
 A.l1 (.l .iop) (A.lst .iop [x.q.2.2.1]) fun x1=>
 A.chk (A.cmp .leq (A.addN (A.len .iop x.q.2.2.2.1) (A.len .iop x1.1)) (A.lit 1073741824))<|
 A.l1 (.l .iop) (A.app .iop x.q.2.2.2.1 x1.1) fun x2=>
 A.l1 .i (A.arith .sub .i64 (A.len .iop x2.1) (A.lit 1)) fun x3=>
 A.ret _ (x.1,x.2.1,x.2.2.1,x.2.2.2.1,x.q.1,x.q.2.1,x3.1,x2.1,())
def Rc (A:Alg) (kL:Pt A iK) (kM:Ft A iK) (x:Tup A.ah [.i,.i,.i,.i,.i,.i,.i,.i,.l .iop]):Ot A uI:=
 A.cl kL kM (x.1,x.2.1,x.2.2.1,x.2.2.2.1,x.q.1,x.q.2.1,A.mkX .iop (A.lit 8,x.q.2.2.2.1,A.lit 0,x.q.2.2.1,A.lit 0,()),x.o.1,()) fun x0=>
 A.l1 .i x0.q.2.2.1 fun x1=>
 A.ret _ (x0.1,x0.2.1,x0.2.2.1,x0.2.2.2.1,x0.q.1,x0.q.2.1,x0.q.2.2.2.1,())
def Rf (A:Alg) (kL:Pt A iK) (kM:Ft A iK) (x:Tup A.ah [.i,.i,.i,.i,.i,.i,.i,.l .iop]):Ot A jT:=
 A.l1 .i (A.lit 0) fun x0=>
 A.cl kL kM (x.1,x.2.1,x.2.2.1,x.2.2.2.1,x.q.1,x.q.2.1,A.mkX .iop (A.lit 2,A.lit 0,A.lit 0,x.q.2.2.1,A.lit 0,()),x.q.2.2.2.1,()) fun x1=>
 A.l1 .i x1.q.2.2.1 fun x2=>
 A.ret _ (x1.1,x1.2.1,x1.2.2.1,x1.2.2.2.1,x1.q.1,x1.q.2.1,x2.1,x1.q.2.2.2.1,())
def Rh (A:Alg) (o8:Pt A jT) (o9:Ft A jT) (kL:Pt A iK) (kM:Ft A iK) (x:Tup A.ah [.i,.i,.i,.i,.i,.i,.i,.i,.x .iop,.l .iop]):Ot A uJ:=
 A.l1 .i (A.lit 0) fun x0=>
 A.cl o8 o9 (x.1,x.2.1,x.2.2.1,x.2.2.2.1,x.q.1,x.q.2.1,x.q.2.2.2.1,x.o.2.1,()) fun x1=>
 A.l1 .i x1.q.2.2.1 fun x2=>
 A.cl kL kM (x1.1,x1.2.1,x1.2.2.1,x1.2.2.2.1,x1.q.1,x1.q.2.1,x.o.1,x1.q.2.2.2.1,()) fun x3=>
 A.l1 .i x3.q.2.2.1 fun x4=>
 A.cl kL kM (x3.1,x3.2.1,x3.2.2.1,x3.2.2.2.1,x3.q.1,x3.q.2.1,A.mkX .iop (A.lit 3,x2.1,x4.1,x.q.2.2.1,A.lit 0,()),x3.q.2.2.2.1,()) fun x5=>
 A.l1 .i x5.q.2.2.1 fun x6=>
 A.ret _ (x5.1,x5.2.1,x5.2.2.1,x5.2.2.2.1,x5.q.1,x5.q.2.1,x6.1,x5.q.2.2.2.1,())
def Ri (A:Alg) (x:Tup A.ah [.i]):Ot A EL:=
 A.l1 .i (A.lit 0) fun x0=>
 A.l1 .i (A.lit 1) fun x1=>
 A.l1 .i (A.lit 0) fun x2=>
 A.iter [.i,.i,.i] (fun x3=>
 A.cond (A.cmp .lss x3.2.2.1 x3.1) (A.l1 .i (A.arith .add .i64 x3.2.1 x3.2.1) fun x4=>
 A.l1 .i (A.arith .add .i64 x3.2.2.1 (A.lit 1)) fun x5=>
 A.inl _ (x3.1,x4.1,x5.1,()))<|
 A.inr _<|A.l1 .i x3.2.1 fun x4=>
 A.ret _ (x4.1,())) (x.1,x1.1,x2.1,())
def Rj (A:Alg) (o8:Pt A jT) (o9:Ft A jT) (kL:Pt A iK) (kM:Ft A iK) (Kq:Pt A uJ) (Kr:Ft A uJ) (yw:Pt A uI) (yx:Ft A uI) (x:Tup A.ah [.i,.i,.i,.i,.i,.i,.x .ins,.i,.l .iop]):Ot A EM:=
 A.cl Kq Kr (x.1,x.2.1,x.2.2.1,x.2.2.2.1,x.q.1,x.q.2.1,A.lit 1,A.fI .ins 2 x.q.2.2.1,A.mkX .iop (A.lit 1,A.lit 0,A.lit 0,A.fI .ins 3 x.q.2.2.1,A.lit 0,()),x.o.1,()) fun x0=>
 A.l1 .i x0.q.2.2.1 fun x1=>
 A.cond (A.cmp .eql (A.fI .ins 0 x.q.2.2.1) (A.lit 9)) (A.cl kL kM (x0.1,x0.2.1,x0.2.2.1,x0.2.2.2.1,x0.q.1,x0.q.2.1,A.mkX .iop (A.lit 4,x1.1,A.lit 0,A.lit 0,x.q.2.2.2.1,()),x0.q.2.2.2.1,()) fun x2=>
 A.l1 .i x2.q.2.2.1 fun x3=>
 A.cl yw yx (x2.1,x2.2.1,x2.2.2.1,x2.2.2.2.1,x2.q.1,x2.q.2.1,A.fI .ins 1 x.q.2.2.1,x3.1,x2.q.2.2.2.1,()) fun x4=>
 A.ret _ (x4.1,x4.2.1,x4.2.2.1,x4.2.2.2.1,x4.q.1,x4.q.2.1,x4.q.2.2.1,()))<|
 A.cl o8 o9 (x0.1,x0.2.1,x0.2.2.1,x0.2.2.2.1,x0.q.1,x0.q.2.1,A.fI .ins 1 x.q.2.2.1,x0.q.2.2.2.1,()) fun x2=>
 A.l1 .i x2.q.2.2.1 fun x3=>
 A.cl kL kM (x2.1,x2.2.1,x2.2.2.1,x2.2.2.2.1,x2.q.1,x2.q.2.1,A.mkX .iop (A.lit 5,x1.1,x3.1,A.lit 0,x.q.2.2.2.1,()),x2.q.2.2.2.1,()) fun x4=>
 A.l1 .i x4.q.2.2.1 fun x5=>
 A.ret _ (x4.1,x4.2.1,x4.2.2.1,x4.2.2.2.1,x4.q.1,x4.q.2.1,x4.q.2.2.2.1,())
def Rk (A:Alg) (o8:Pt A jT) (o9:Ft A jT) (x:Tup A.ah [.i,.i,.i,.i,.i,.i,.x .ins,.l .iop]):Ot A EN:=
 A.cond (A.cmp .eql (A.fI .ins 0 x.q.2.2.1) (A.lit 13)) (A.cl o8 o9 (x.1,x.2.1,x.2.2.1,x.2.2.2.1,x.q.1,x.q.2.1,A.fI .ins 2 x.q.2.2.1,x.q.2.2.2.1,()) fun x0=>
 A.l1 .i x0.q.2.2.1 fun x1=>
 A.l1 .i (A.lit 2) fun x2=>
 A.l1 .i x1.1 fun x3=>
 A.l1 .i (A.lit 0) fun x4=>
 A.ret _ (x0.1,x0.2.1,x2.1,x3.1,x0.q.1,x4.1,x0.q.2.2.2.1,()))<|
 A.cl o8 o9 (x.1,x.2.1,x.2.2.1,x.2.2.2.1,x.q.1,x.q.2.1,A.fI .ins 1 x.q.2.2.1,x.q.2.2.2.1,()) fun x0=>
 A.l1 .i x0.q.2.2.1 fun x1=>
 A.cl o8 o9 (x0.1,x0.2.1,x0.2.2.1,x0.2.2.2.1,x0.q.1,x0.q.2.1,A.fI .ins 2 x.q.2.2.1,x0.q.2.2.2.1,()) fun x2=>
 A.l1 .i x2.q.2.2.1 fun x3=>
 A.l1 .i (A.lit 3) fun x4=>
 A.bind [.i,.i,.x .ins,.i,.i,.i,.i,.i,.i,.i,.i,.i,.i,.i,.i,.l .iop] (A.cond (A.cmp .eql (A.fI .ins 0 x.q.2.2.1) (A.lit 12)) (A.l1 .i (A.lit 4) fun x5=>
 A.ret _ (x1.1,x3.1,x.q.2.2.1,A.lit 0,A.lit 0,A.lit 0,A.lit 0,A.lit 0,A.lit 0,x2.1,x2.2.1,x5.1,x2.2.2.2.1,x2.q.1,x2.q.2.1,x2.q.2.2.2.1,()))<|
 A.ret _ (x1.1,x3.1,x.q.2.2.1,A.lit 0,A.lit 0,A.lit 0,A.lit 0,A.lit 0,A.lit 0,x2.1,x2.2.1,x4.1,x2.2.2.2.1,x2.q.1,x2.q.2.1,x2.q.2.2.2.1,())) fun x5=>
 A.l1 .i x5.1 fun x6=>
 A.l1 .i x5.2.1 fun x7=>
 A.l1 .i (A.fI .ins 3 x5.2.2.1) fun x8=>
 A.ret _ (x5.o.2.1,x5.o.2.2.1,x5.o.2.2.2.1,x6.1,x7.1,x8.1,x5.o.q.2.2.2.1,())
def Rl (A:Alg) (o8:Pt A jT) (o9:Ft A jT) (afh:Pt A EN) (afi:Ft A EN) (kL:Pt A iK) (kM:Ft A iK) (afj:Pt A EM) (afk:Ft A EM) (Kq:Pt A uJ) (Kr:Ft A uJ) (yw:Pt A uI) (yx:Ft A uI) (afl:Pt A EL) (afm:Ft A EL) (x:Tup A.ah [.i,.i,.i,.i,.i,.i,.x .ins,.i,.l .iop]):Ot A EO:=
 A.l1 .b (A.cmp .eql (A.fI .ins 0 x.q.2.2.1) (A.lit 1)) fun x0=>
 A.cond x0.1 (A.cl kL kM (x.1,x.2.1,x.2.2.1,x.2.2.2.1,x.q.1,x.q.2.1,A.mkX .iop (A.lit 1,A.lit 0,A.lit 0,A.fI .ins 3 x.q.2.2.1,A.lit 0,()),x.o.1,()) fun x1=>
 A.l1 .i x1.q.2.2.1 fun x2=>
 A.cl yw yx (x1.1,x1.2.1,x1.2.2.1,x1.2.2.2.1,x1.q.1,x1.q.2.1,A.fI .ins 1 x.q.2.2.1,x2.1,x1.q.2.2.2.1,()) fun x3=>
 A.ret _ (x3.1,x3.2.1,x3.2.2.1,x3.2.2.2.1,x3.q.1,x3.q.2.1,x3.q.2.2.1,()))<|
 A.l1 .b (A.cmp .eql (A.fI .ins 0 x.q.2.2.1) (A.lit 2)) fun x1=>
 A.cond x1.1 (A.cl o8 o9 (x.1,x.2.1,x.2.2.1,x.2.2.2.1,x.q.1,x.q.2.1,A.fI .ins 2 x.q.2.2.1,x.o.1,()) fun x2=>
 A.l1 .i x2.q.2.2.1 fun x3=>
 A.cl yw yx (x2.1,x2.2.1,x2.2.2.1,x2.2.2.2.1,x2.q.1,x2.q.2.1,A.fI .ins 1 x.q.2.2.1,x3.1,x2.q.2.2.2.1,()) fun x4=>
 A.ret _ (x4.1,x4.2.1,x4.2.2.1,x4.2.2.2.1,x4.q.1,x4.q.2.1,x4.q.2.2.1,()))<|
 A.l1 .b (A.cmp .eql (A.fI .ins 0 x.q.2.2.1) (A.lit 8)) fun x2=>
 A.cond x2.1 (A.cl afl afm (A.fI .ins 3 x.q.2.2.1,()) fun x3=>
 A.cl Kq Kr (x.1,x.2.1,x.2.2.1,x.2.2.2.1,x.q.1,x.q.2.1,A.lit 3,A.fI .ins 2 x.q.2.2.1,A.mkX .iop (A.lit 1,A.lit 0,A.lit 0,x3.1,A.lit 0,()),x.o.1,()) fun x4=>
 A.l1 .i x4.q.2.2.1 fun x5=>
 A.cl yw yx (x4.1,x4.2.1,x4.2.2.1,x4.2.2.2.1,x4.q.1,x4.q.2.1,A.fI .ins 1 x.q.2.2.1,x5.1,x4.q.2.2.2.1,()) fun x6=>
 A.ret _ (x6.1,x6.2.1,x6.2.2.1,x6.2.2.2.1,x6.q.1,x6.q.2.1,x6.q.2.2.1,()))<|
 A.l1 .b (A.cmp .eql (A.fI .ins 0 x.q.2.2.1) (A.lit 9)) fun x3=>
 A.bind [.i,.i,.b,.l .iop,.i,.i,.i,.i,.i,.i,.x .ins,.i,.i,.i,.i,.i,.i] (A.cond x3.1 (A.ret _ (x.q.2.2.2.1,A.fI .ins 0 x.q.2.2.1,x3.1,x.o.1,x.1,x.2.1,x.2.2.1,x.2.2.2.1,x.q.1,x.q.2.1,x.q.2.2.1,A.lit 0,A.lit 0,A.lit 0,A.lit 0,A.lit 0,A.lit 0,()))<|
 A.l1 .b (A.cmp .eql (A.fI .ins 0 x.q.2.2.1) (A.lit 10)) fun x4=>
 A.ret _ (x.q.2.2.2.1,A.fI .ins 0 x.q.2.2.1,x4.1,x.o.1,x.1,x.2.1,x.2.2.1,x.2.2.2.1,x.q.1,x.q.2.1,x.q.2.2.1,A.lit 0,A.lit 0,A.lit 0,A.lit 0,A.lit 0,A.lit 0,())) fun x4=>
 A.cond x4.2.2.1 (A.cl afj afk (x4.q.1,x4.q.2.1,x4.q.2.2.1,x4.q.2.2.2.1,x4.o.1,x4.o.2.1,x4.o.2.2.1,x4.1,x4.2.2.2.1,()) fun x5=>
 A.ret _ (x5.1,x5.2.1,x5.2.2.1,x5.2.2.2.1,x5.q.1,x5.q.2.1,x5.q.2.2.1,()))<|
 A.l1 .b (A.cmp .eql x4.2.1 (A.lit 14)) fun x5=>
 A.cond x5.1 (A.cl o8 o9 (x4.q.1,x4.q.2.1,x4.q.2.2.1,x4.q.2.2.2.1,x4.o.1,x4.o.2.1,A.fI .ins 1 x4.o.2.2.1,x4.2.2.2.1,()) fun x6=>
 A.l1 .i x6.q.2.2.1 fun x7=>
 A.cl kL kM (x6.1,x6.2.1,x6.2.2.1,x6.2.2.2.1,x6.q.1,x6.q.2.1,A.mkX .iop (A.lit 7,x7.1,A.lit 0,A.lit 0,x4.1,()),x6.q.2.2.2.1,()) fun x8=>
 A.l1 .i x8.q.2.2.1 fun x9=>
 A.ret _ (x8.1,x8.2.1,x8.2.2.1,x8.2.2.2.1,x8.q.1,x8.q.2.1,x8.q.2.2.2.1,()))<|
 A.l1 .b (A.cmp .eql x4.2.1 (A.lit 15)) fun x6=>
 A.cond x6.1 (A.cl kL kM (x4.q.1,x4.q.2.1,x4.q.2.2.1,x4.q.2.2.2.1,x4.o.1,x4.o.2.1,A.mkX .iop (A.lit 6,A.lit 0,A.lit 0,A.lit 0,x4.1,()),x4.2.2.2.1,()) fun x7=>
 A.l1 .i x7.q.2.2.1 fun x8=>
 A.cl yw yx (x7.1,x7.2.1,x7.2.2.1,x7.2.2.2.1,x7.q.1,x7.q.2.1,A.fI .ins 1 x4.o.2.2.1,x8.1,x7.q.2.2.2.1,()) fun x9=>
 A.ret _ (x9.1,x9.2.1,x9.2.2.1,x9.2.2.2.1,x9.q.1,x9.q.2.1,x9.q.2.2.1,()))<|
 A.l1 .b (A.cmp .eql x4.2.1 (A.lit 11)) fun x7=>
 A.bind [.b,.l .iop,.i,.i,.i,.i,.i,.i,.x .ins,.i,.i,.i,.i,.i,.i] (A.cond x7.1 (A.ret _ (x7.1,x4.2.2.2.1,x4.q.1,x4.q.2.1,x4.q.2.2.1,x4.q.2.2.2.1,x4.o.1,x4.o.2.1,x4.o.2.2.1,x4.o.2.2.2.1,x4.o.q.1,x4.o.q.2.1,x4.o.q.2.2.1,x4.o.q.2.2.2.1,x4.o.o.1,()))<|
 A.l1 .b (A.cmp .eql x4.2.1 (A.lit 12)) fun x8=>
 A.bind [.b,.l .iop,.i,.i,.i,.i,.i,.i,.x .ins,.i,.i,.i,.i,.i,.i] (A.cond x8.1 (A.ret _ (x8.1,x4.2.2.2.1,x4.q.1,x4.q.2.1,x4.q.2.2.1,x4.q.2.2.2.1,x4.o.1,x4.o.2.1,x4.o.2.2.1,x4.o.2.2.2.1,x4.o.q.1,x4.o.q.2.1,x4.o.q.2.2.1,x4.o.q.2.2.2.1,x4.o.o.1,()))<|
 A.l1 .b (A.cmp .eql x4.2.1 (A.lit 13)) fun x9=>
 A.ret _ (x9.1,x4.2.2.2.1,x4.q.1,x4.q.2.1,x4.q.2.2.1,x4.q.2.2.2.1,x4.o.1,x4.o.2.1,x4.o.2.2.1,x4.o.2.2.2.1,x4.o.q.1,x4.o.q.2.1,x4.o.q.2.2.1,x4.o.q.2.2.2.1,x4.o.o.1,())) fun x9=>
 A.ret _ (x9.1,x9.2.1,x9.2.2.1,x9.2.2.2.1,x9.q.1,x9.q.2.1,x9.q.2.2.1,x9.q.2.2.2.1,x9.o.1,x9.o.2.1,x9.o.2.2.1,x9.o.2.2.2.1,x9.o.q.1,x9.o.q.2.1,x9.o.q.2.2.1,())) fun x8=>
 A.cond x8.1 (A.cl afh afi (x8.2.2.1,x8.2.2.2.1,x8.q.1,x8.q.2.1,x8.q.2.2.1,x8.q.2.2.2.1,x8.o.1,x8.2.1,()) fun x9=>
 A.ret _ (x9.1,x9.2.1,x9.2.2.1,x9.2.2.2.1,x9.q.1,x9.q.2.1,x9.q.2.2.1,()))<|
 A.cl Kq Kr (x8.2.2.1,x8.2.2.2.1,x8.q.1,x8.q.2.1,x8.q.2.2.1,x8.q.2.2.2.1,A.arith .add .i64 (A.arith .sub .i64 (A.fI .ins 0 x8.o.1) (A.lit 3)) (A.lit 1),A.fI .ins 2 x8.o.1,A.mkX .iop (A.lit 2,A.lit 0,A.lit 0,A.fI .ins 3 x8.o.1,A.lit 0,()),x8.2.1,()) fun x9=>
 A.l1 .i x9.q.2.2.1 fun x10=>
 A.cl yw yx (x9.1,x9.2.1,x9.2.2.1,x9.2.2.2.1,x9.q.1,x9.q.2.1,A.fI .ins 1 x8.o.1,x10.1,x9.q.2.2.2.1,()) fun x11=>
 A.ret _ (x11.1,x11.2.1,x11.2.2.1,x11.2.2.2.1,x11.q.1,x11.q.2.1,x11.q.2.2.1,())
def Rm (A:Alg) (afn:Pt A EK) (afo:Ft A EK) (afp:Pt A EO) (afq:Ft A EO) (x:Tup A.ah [.i,.l .ins]):Ot A EP:=
 A.cl afn afo (x.1,x.2.1,()) fun x0=>
 A.cond (A.aB x0.1) (A.ret _ (A.lit 0,A.lit 0,A.lit 0,A.lit 0,A.lit 0,A.lit 0,A.cu .iop,()))<|
 A.l1 .i (A.lit 0) fun x1=>
 A.iter [.l .ins,.i,.i,.i,.i,.i,.i,.i,.i,.i,.i,.i,.i,.i,.l .iop] (fun x2=>
 A.cond (A.cmp .lss x2.2.1 (A.len .ins x2.1)) (A.bd .ins x2.1 x2.2.1<|
 A.cl afp afq (x2.o.1,x2.o.2.1,x2.o.2.2.1,x2.o.2.2.2.1,x2.o.q.1,x2.o.q.2.1,A.get .ins x2.1 x2.2.1,x2.2.1,x2.o.q.2.2.1,()) fun x3=>
 A.l1 .i (A.arith .add .i64 x2.2.1 (A.lit 1)) fun x4=>
 A.inl _ (x2.1,x4.1,x2.2.2.1,x2.2.2.2.1,x2.q.1,x2.q.2.1,x2.q.2.2.1,x2.q.2.2.2.1,x3.1,x3.2.1,x3.2.2.1,x3.2.2.2.1,x3.q.1,x3.q.2.1,x3.q.2.2.1,()))<|
 A.inr _<|A.ret _ (x2.o.1,x2.o.2.1,x2.o.2.2.1,x2.o.2.2.2.1,x2.o.q.1,x2.o.q.2.1,x2.o.q.2.2.1,())) (x.2.1,x1.1,A.lit 0,A.lit 0,A.lit 0,A.lit 0,A.lit 0,A.lit 0,x.1,A.len .ins x.2.1,A.lit 1,A.lit 0,A.lit 0,A.arith .add .i64 x.1 (A.len .ins x.2.1),A.cu .iop,())
def Rn (A:Alg) (afr:Pt A EP) (afs:Ft A EP) (Aw:Pt A uE) (Ay:Ft A uE) (FU:Pt A nu) (FV:Ft A nu) (aV:Pt A dK) (aW:Ft A dK) (aft:Pt A EJ) (afu:Ft A EJ) (x:Tup A.ah [.l .u8,.i]):Ot A ER:=
 A.cl aft afu (x.1,x.2.1,()) fun x0=>
 A.cl aV aW (A.lit 50,x0.1,x0.2.1,()) fun x1=>
 A.l1 (.l .i64) (A.lst .i64 [A.mkX .i64 (A.lit 0,()),A.mkX .i64 (A.lit 1,()),A.mkX .i64 (x1.1,()),A.mkX .i64 (A.arith .sub .i64 (A.lit 64) (A.len .ins x0.2.2.1),())]) fun x2=>
 A.cl aV aW (A.lit 4,x1.2.1,x1.2.2.1,()) fun x3=>
 A.bd .i64 x2.1 x3.1<|
 A.bd .i64 x2.1 x3.1<|
 A.cl afr afs (A.fI .i64 0 (A.get .i64 x2.1 x3.1),x0.2.2.1,()) fun x4=>
 A.cl aV aW (A.lit 5,x3.2.1,x3.2.2.1,()) fun x5=>
 A.l1 .b (A.cmp .eql x5.1 (A.lit 0)) fun x6=>
 A.cond x6.1 (A.cl Aw Ay (A.mkX .blk (x4.1,x4.2.1,x4.q.2.2.1,x4.2.2.1,x4.2.2.2.1,x4.q.1,x4.q.2.1,()),()) fun x7=>
 A.ret _ (x7.1,x7.2.1,x7.2.2.1,x7.2.2.2.1,x7.q.1,x7.q.2.1,x5.2.1,x5.2.2.1,x7.q.2.2.1,()))<|
 A.l1 .b (A.cmp .eql x5.1 (A.lit 1)) fun x7=>
 A.cond x7.1 (A.cl FU FV (A.mkX .blk (x4.1,x4.2.1,x4.q.2.2.1,x4.2.2.1,x4.2.2.2.1,x4.q.1,x4.q.2.1,()),()) fun x8=>
 A.ret _ (x8.1,x8.2.1,x8.2.2.1,x8.2.2.2.1,x8.q.1,x8.q.2.1,x5.2.1,x5.2.2.1,x8.q.2.2.1,()))<|
 A.ret _ (x4.1,x4.2.1,x4.2.2.1,x4.2.2.2.1,x4.q.1,x4.q.2.1,x5.2.1,x5.2.2.1,x4.q.2.2.1,())
def Kt (A:Alg) (aV:Pt A dK) (aW:Ft A dK) (yj:Pt A jS) (yu:Ft A jS) (x:Tup A.ah [.x .blk,.l .u8,.i]):Ot A uK:=
 A.cl yj yu (x.1,()) fun x0=>
 A.cond (A.cmp .eql (A.len .iop x0.q.2.2.1) (A.lit 0)) (A.l1 .i (A.arith .add .i64 x0.q.2.1 (A.lit 1)) fun x1=>
 A.ret _ (x0.1,x0.2.1,x0.2.2.1,x0.2.2.2.1,x0.q.1,x1.1,x.2.1,x.2.2.1,x0.q.2.2.1,()))<|
 A.cl aV aW (A.len .iop x0.q.2.2.1,x.2.1,x.2.2.1,()) fun x1=>
 A.l1 .i x1.1 fun x2=>
 A.cl aV aW (A.lit 9,x1.2.1,x1.2.2.1,()) fun x3=>
 A.l1 .b (A.cmp .eql x3.1 (A.lit 0)) fun x4=>
 A.bind [.l .u8,.i,.i,.i,.i,.i,.i,.i,.i,.i,.i,.i,.i,.i,.l .iop] (A.cond x4.1 (A.bd .iop x0.q.2.2.1 x2.1<|
 A.bd .iop x0.q.2.2.1 x2.1<|
 A.bd .iop x0.q.2.2.1 x2.1<|
 A.bd .iop x0.q.2.2.1 x2.1<|
 A.l1 .i (A.arith .add .i64 (A.fI .iop 3 (A.get .iop x0.q.2.2.1 x2.1)) (A.lit 1)) fun x5=>
 A.ret _ (x3.2.1,x3.2.2.1,A.lit 0,A.lit 0,A.lit 0,A.lit 0,A.lit 0,A.lit 0,x0.1,x0.2.1,x0.2.2.1,x0.2.2.2.1,x0.q.1,x0.q.2.1,A.set .iop x0.q.2.2.1 x2.1 (A.mkX .iop (A.fI .iop 0 (A.get .iop x0.q.2.2.1 x2.1),A.fI .iop 1 (A.get .iop x0.q.2.2.1 x2.1),A.fI .iop 2 (A.get .iop x0.q.2.2.1 x2.1),x5.1,A.fI .iop 4 (A.get .iop x0.q.2.2.1 x2.1),())),()))<|
 A.l1 .b (A.cmp .eql x3.1 (A.lit 1)) fun x5=>
 A.bind [.l .u8,.i,.i,.i,.i,.i,.i,.i,.i,.i,.i,.i,.i,.i,.l .iop] (A.cond x5.1 (A.cl aV aW (A.arith .add .i64 x2.1 (A.lit 1),x3.2.1,x3.2.2.1,()) fun x6=>
 A.bd .iop x0.q.2.2.1 x2.1<|
 A.bd .iop x0.q.2.2.1 x2.1<|
 A.l1 .i x6.1 fun x7=>
 A.ret _ (x6.2.1,x6.2.2.1,A.lit 0,A.lit 0,A.lit 0,A.lit 0,A.lit 0,A.lit 0,x0.1,x0.2.1,x0.2.2.1,x0.2.2.2.1,x0.q.1,x0.q.2.1,A.set .iop x0.q.2.2.1 x2.1 (A.mkX .iop (A.fI .iop 0 (A.get .iop x0.q.2.2.1 x2.1),x7.1,A.fI .iop 2 (A.get .iop x0.q.2.2.1 x2.1),A.fI .iop 3 (A.get .iop x0.q.2.2.1 x2.1),A.fI .iop 4 (A.get .iop x0.q.2.2.1 x2.1),())),()))<|
 A.l1 .b (A.cmp .eql x3.1 (A.lit 2)) fun x6=>
 A.bind [.l .u8,.i,.i,.i,.i,.i,.i,.i,.i,.i,.i,.i,.i,.i,.l .iop] (A.cond x6.1 (A.cl aV aW (A.arith .add .i64 x2.1 (A.lit 1),x3.2.1,x3.2.2.1,()) fun x7=>
 A.bd .iop x0.q.2.2.1 x2.1<|
 A.bd .iop x0.q.2.2.1 x2.1<|
 A.l1 .i x7.1 fun x8=>
 A.ret _ (x7.2.1,x7.2.2.1,A.lit 0,A.lit 0,A.lit 0,A.lit 0,A.lit 0,A.lit 0,x0.1,x0.2.1,x0.2.2.1,x0.2.2.2.1,x0.q.1,x0.q.2.1,A.set .iop x0.q.2.2.1 x2.1 (A.mkX .iop (A.fI .iop 0 (A.get .iop x0.q.2.2.1 x2.1),A.fI .iop 1 (A.get .iop x0.q.2.2.1 x2.1),x8.1,A.fI .iop 3 (A.get .iop x0.q.2.2.1 x2.1),A.fI .iop 4 (A.get .iop x0.q.2.2.1 x2.1),())),()))<|
 A.l1 .b (A.cmp .eql x3.1 (A.lit 3)) fun x7=>
 A.bind [.l .u8,.i,.i,.i,.i,.i,.i,.i,.i,.i,.i,.i,.i,.i,.l .iop] (A.cond x7.1 (A.cl aV aW (A.arith .add .i64 x0.2.1 (A.lit 1),x3.2.1,x3.2.2.1,()) fun x8=>
 A.bd .iop x0.q.2.2.1 x2.1<|
 A.bd .iop x0.q.2.2.1 x2.1<|
 A.l1 .i x8.1 fun x9=>
 A.ret _ (x8.2.1,x8.2.2.1,A.lit 0,A.lit 0,A.lit 0,A.lit 0,A.lit 0,A.lit 0,x0.1,x0.2.1,x0.2.2.1,x0.2.2.2.1,x0.q.1,x0.q.2.1,A.set .iop x0.q.2.2.1 x2.1 (A.mkX .iop (A.fI .iop 0 (A.get .iop x0.q.2.2.1 x2.1),A.fI .iop 1 (A.get .iop x0.q.2.2.1 x2.1),A.fI .iop 2 (A.get .iop x0.q.2.2.1 x2.1),A.fI .iop 3 (A.get .iop x0.q.2.2.1 x2.1),x9.1,())),()))<|
 A.l1 .b (A.cmp .eql x3.1 (A.lit 4)) fun x8=>
 A.bind [.l .u8,.i,.i,.i,.i,.i,.i,.i,.i,.i,.i,.i,.i,.i,.l .iop] (A.cond x8.1 (A.cl aV aW (A.lit 66,x3.2.1,x3.2.2.1,()) fun x9=>
 A.l1 .i x9.1 fun x10=>
 A.ret _ (x9.2.1,x9.2.2.1,A.lit 0,A.lit 0,A.lit 0,A.lit 0,A.lit 0,A.lit 0,x0.1,x0.2.1,x0.2.2.1,x0.2.2.2.1,x0.q.1,x10.1,x0.q.2.2.1,()))<|
 A.l1 .b (A.cmp .eql x3.1 (A.lit 5)) fun x9=>
 A.bind [.l .u8,.i,.i,.i,.i,.i,.i,.i,.i,.i,.i,.i,.i,.i,.l .iop] (A.cond x9.1 (A.cl aV aW (A.lit 4,x3.2.1,x3.2.2.1,()) fun x10=>
 A.l1 .i (A.arith .add .i64 (A.lit 1) x10.1) fun x11=>
 A.ret _ (x10.2.1,x10.2.2.1,A.lit 0,A.lit 0,A.lit 0,A.lit 0,A.lit 0,A.lit 0,x0.1,x0.2.1,x11.1,x0.2.2.2.1,x0.q.1,x0.q.2.1,x0.q.2.2.1,()))<|
 A.l1 .b (A.cmp .eql x3.1 (A.lit 6)) fun x10=>
 A.bind [.l .u8,.i,.i,.i,.i,.i,.i,.i,.i,.i,.i,.i,.i,.i,.l .iop] (A.cond x10.1 (A.bind [.l .u8,.i,.i,.i,.i,.i,.i,.i,.i,.i,.i,.i,.i,.i,.l .iop] (A.cond (A.cmp .gtr x2.1 (A.lit 0)) (A.bd .iop x0.q.2.2.1 x2.1<|
 A.bd .iop x0.q.2.2.1 x2.1<|
 A.l1 (.x .iop) (A.get .iop x0.q.2.2.1 x2.1) fun x11=>
 A.bd .iop x0.q.2.2.1 (A.arith .sub .i64 x2.1 (A.lit 1))<|
 A.bd .iop x0.q.2.2.1 (A.arith .sub .i64 x2.1 (A.lit 1))<|
 A.bd .iop x0.q.2.2.1 x2.1<|
 A.bd .iop x0.q.2.2.1 x2.1<|
 A.l1 (.x .iop) (A.get .iop x0.q.2.2.1 (A.arith .sub .i64 x2.1 (A.lit 1))) fun x12=>
 A.bd .iop (A.set .iop x0.q.2.2.1 x2.1 x12.1) (A.arith .sub .i64 x2.1 (A.lit 1))<|
 A.bd .iop (A.set .iop x0.q.2.2.1 x2.1 x12.1) (A.arith .sub .i64 x2.1 (A.lit 1))<|
 A.l1 (.x .iop) x11.1 fun x13=>
 A.ret _ (x3.2.1,x3.2.2.1,A.lit 0,A.lit 0,A.lit 0,A.lit 0,A.lit 0,A.lit 0,x0.1,x0.2.1,x0.2.2.1,x0.2.2.2.1,x0.q.1,x0.q.2.1,A.set .iop (A.set .iop x0.q.2.2.1 x2.1 x12.1) (A.arith .sub .i64 x2.1 (A.lit 1)) x13.1,()))<|
 A.ret _ (x3.2.1,x3.2.2.1,A.lit 0,A.lit 0,A.lit 0,A.lit 0,A.lit 0,A.lit 0,x0.1,x0.2.1,x0.2.2.1,x0.2.2.2.1,x0.q.1,x0.q.2.1,x0.q.2.2.1,())) fun x11=>
 A.ret _ (x11.1,x11.2.1,x11.2.2.1,x11.2.2.2.1,x11.q.1,x11.q.2.1,x11.q.2.2.1,x11.q.2.2.2.1,x11.o.1,x11.o.2.1,x11.o.2.2.1,x11.o.2.2.2.1,x11.o.q.1,x11.o.q.2.1,x11.o.q.2.2.1,()))<|
 A.l1 .b (A.cmp .eql x3.1 (A.lit 7)) fun x11=>
 A.bind [.l .u8,.i,.i,.i,.i,.i,.i,.i,.i,.i,.i,.i,.i,.i,.l .iop] (A.cond x11.1 (A.cl aV aW (A.lit 3,x3.2.1,x3.2.2.1,()) fun x12=>
 A.bd .iop x0.q.2.2.1 x2.1<|
 A.bd .iop x0.q.2.2.1 x2.1<|
 A.ret _ (x12.2.1,x12.2.2.1,A.lit 0,A.lit 0,A.lit 0,A.lit 0,A.lit 0,A.lit 0,x0.1,x0.2.1,x0.2.2.1,x0.2.2.2.1,x0.q.1,x0.q.2.1,A.set .iop x0.q.2.2.1 x2.1 (A.mkX .iop (A.lit 1,A.lit 0,A.lit 0,x12.1,A.lit 0,())),()))<|
 A.chk (A.cmp .leq (A.lit 0) (A.lit 0))<|
 A.chk (A.cmp .leq (A.lit 0) x2.1)<|
 A.chk (A.cmp .leq x2.1 (A.len .iop x0.q.2.2.1))<|
 A.chk (A.cmp .eql (A.lit 0) (A.lit 0))<|
 A.chk (A.cmp .leq (A.lit 0) (A.Cv x2.1 (A.lit 0)))<|
 A.chk (A.cmp .leq (A.Cv x2.1 (A.lit 0)) (A.len .iop x0.q.2.2.1))<|
 A.ret _ (x3.2.1,x3.2.2.1,A.lit 0,A.lit 0,A.lit 0,A.lit 0,A.lit 0,A.lit 0,x0.1,x0.2.1,x0.2.2.1,x0.2.2.2.1,x0.q.1,x0.q.2.1,A.sub .iop x0.q.2.2.1 (A.lit 0) (A.Cv x2.1 (A.lit 0)),())) fun x12=>
 A.ret _ (x12.1,x12.2.1,x12.2.2.1,x12.2.2.2.1,x12.q.1,x12.q.2.1,x12.q.2.2.1,x12.q.2.2.2.1,x12.o.1,x12.o.2.1,x12.o.2.2.1,x12.o.2.2.2.1,x12.o.q.1,x12.o.q.2.1,x12.o.q.2.2.1,())) fun x11=>
 A.ret _ (x11.1,x11.2.1,x11.2.2.1,x11.2.2.2.1,x11.q.1,x11.q.2.1,x11.q.2.2.1,x11.q.2.2.2.1,x11.o.1,x11.o.2.1,x11.o.2.2.1,x11.o.2.2.2.1,x11.o.q.1,x11.o.q.2.1,x11.o.q.2.2.1,())) fun x10=>
 A.ret _ (x10.1,x10.2.1,x10.2.2.1,x10.2.2.2.1,x10.q.1,x10.q.2.1,x10.q.2.2.1,x10.q.2.2.2.1,x10.o.1,x10.o.2.1,x10.o.2.2.1,x10.o.2.2.2.1,x10.o.q.1,x10.o.q.2.1,x10.o.q.2.2.1,())) fun x9=>
 A.ret _ (x9.1,x9.2.1,x9.2.2.1,x9.2.2.2.1,x9.q.1,x9.q.2.1,x9.q.2.2.1,x9.q.2.2.2.1,x9.o.1,x9.o.2.1,x9.o.2.2.1,x9.o.2.2.2.1,x9.o.q.1,x9.o.q.2.1,x9.o.q.2.2.1,())) fun x8=>
 A.ret _ (x8.1,x8.2.1,x8.2.2.1,x8.2.2.2.1,x8.q.1,x8.q.2.1,x8.q.2.2.1,x8.q.2.2.2.1,x8.o.1,x8.o.2.1,x8.o.2.2.1,x8.o.2.2.2.1,x8.o.q.1,x8.o.q.2.1,x8.o.q.2.2.1,())) fun x7=>
 A.ret _ (x7.1,x7.2.1,x7.2.2.1,x7.2.2.2.1,x7.q.1,x7.q.2.1,x7.q.2.2.1,x7.q.2.2.2.1,x7.o.1,x7.o.2.1,x7.o.2.2.1,x7.o.2.2.2.1,x7.o.q.1,x7.o.q.2.1,x7.o.q.2.2.1,())) fun x6=>
 A.ret _ (x6.1,x6.2.1,x6.2.2.1,x6.2.2.2.1,x6.q.1,x6.q.2.1,x6.q.2.2.1,x6.q.2.2.2.1,x6.o.1,x6.o.2.1,x6.o.2.2.1,x6.o.2.2.2.1,x6.o.q.1,x6.o.q.2.1,x6.o.q.2.2.1,())) fun x5=>
 A.ret _ (x5.o.1,x5.o.2.1,x5.o.2.2.1,x5.o.2.2.2.1,x5.o.q.1,x5.o.q.2.1,x5.1,x5.2.1,x5.o.q.2.2.1,())
def Ro (A:Alg) (afv:Pt A Eo) (afw:Ft A Eo) (aV:Pt A dK) (aW:Ft A dK) (Ku:Pt A uK) (Kv:Ft A uK) (afx:Pt A ER) (afy:Ft A ER) (x:Tup A.ah [.i,.l .u8,.i]):Ot A ET:=
 A.cl afx afy (x.2.1,x.2.2.1,()) fun x0=>
 A.cl afv afw (x.1,x0.q.2.2.1,x0.q.2.2.2.1,()) fun x1=>
 A.lu [.l .u8,.i,.i,.i,.i,.i,.i,.i,.i,.i,.i,.i,.i,.i,.l .iop] (A.cond x1.1 (A.cl aV aW (A.lit 6,x1.2.1,x1.2.2.1,()) fun x2=>
 A.l1 .b (A.cmp .eql x2.1 (A.lit 0)) fun x3=>
 A.lu [.l .u8,.i,.i,.i,.i,.i,.i,.i,.i,.i,.i,.i,.i,.i,.l .iop] (A.cond x3.1 (A.l1 (.l .i64) (A.lst .i64 [A.mkX .i64 (A.lit 0,()),A.mkX .i64 (A.lit 9,())]) fun x4=>
 A.cl aV aW (A.lit 2,x2.2.1,x2.2.2.1,()) fun x5=>
 A.bd .i64 x4.1 x5.1<|
 A.bd .i64 x4.1 x5.1<|
 A.l1 .i (A.fI .i64 0 (A.get .i64 x4.1 x5.1)) fun x6=>
 A.inl _ (x5.2.1,x5.2.2.1,A.lit 0,A.lit 0,A.lit 0,A.lit 0,A.lit 0,A.lit 0,x0.1,x6.1,x0.2.2.1,x0.2.2.2.1,x0.q.1,x0.q.2.1,x0.o.1,()))<|
 A.l1 .b (A.cmp .eql x2.1 (A.lit 1)) fun x4=>
 A.lu [.l .u8,.i,.i,.i,.i,.i,.i,.i,.i,.i,.i,.i,.i,.i,.l .iop] (A.cond x4.1 (A.l1 (.l .i64) (A.lst .i64 [A.mkX .i64 (A.lit (-1),()),A.mkX .i64 (A.lit 64,())]) fun x5=>
 A.cl aV aW (A.lit 2,x2.2.1,x2.2.2.1,()) fun x6=>
 A.bd .i64 x5.1 x6.1<|
 A.bd .i64 x5.1 x6.1<|
 A.l1 .i (A.fI .i64 0 (A.get .i64 x5.1 x6.1)) fun x7=>
 A.inl _ (x6.2.1,x6.2.2.1,A.lit 0,A.lit 0,A.lit 0,A.lit 0,A.lit 0,A.lit 0,x7.1,x0.2.1,x0.2.2.1,x0.2.2.2.1,x0.q.1,x0.q.2.1,x0.o.1,()))<|
 A.l1 .b (A.cmp .eql x2.1 (A.lit 2)) fun x5=>
 A.lu [.l .u8,.i,.i,.i,.i,.i,.i,.i,.i,.i,.i,.i,.i,.i,.l .iop] (A.cond x5.1 (A.iter [.l .u8,.i,.i,.i,.i,.i,.i,.i,.i,.i,.i,.i,.i,.i,.l .iop] (fun x6=>
 A.cond (A.cmp .leq (A.len .iop x6.o.q.2.2.1) (A.lit 48)) (A.l1 (.l .iop) (A.lst .iop [A.mkX .iop (A.lit 1,A.lit 0,A.lit 0,A.lit 0,A.lit 0,())]) fun x7=>
 A.chk (A.cmp .leq (A.addN (A.len .iop x6.o.q.2.2.1) (A.len .iop x7.1)) (A.lit 1073741824))<|
 A.l1 (.l .iop) (A.app .iop x6.o.q.2.2.1 x7.1) fun x8=>
 A.inl _ (x6.1,x6.2.1,x6.2.2.1,x6.2.2.2.1,x6.q.1,x6.q.2.1,x6.q.2.2.1,x6.q.2.2.2.1,x6.o.1,x6.o.2.1,x6.o.2.2.1,x6.o.2.2.2.1,x6.o.q.1,x6.o.q.2.1,x8.1,()))<|
 A.inr _<|A.inl _ (x6.1,x6.2.1,x6.2.2.1,x6.2.2.2.1,x6.q.1,x6.q.2.1,x6.q.2.2.1,x6.q.2.2.2.1,x6.o.1,x6.o.2.1,x6.o.2.2.1,x6.o.2.2.2.1,x6.o.q.1,x6.o.q.2.1,x6.o.q.2.2.1,())) (x2.2.1,x2.2.2.1,A.lit 0,A.lit 0,A.lit 0,A.lit 0,A.lit 0,A.lit 0,x0.1,x0.2.1,x0.2.2.1,x0.2.2.2.1,x0.q.1,x0.q.2.1,x0.o.1,()))<|
 A.l1 .b (A.cmp .eql x2.1 (A.lit 3)) fun x6=>
 A.lu [.l .u8,.i,.i,.i,.i,.i,.i,.i,.i,.i,.i,.i,.i,.i,.l .iop] (A.cond x6.1 (A.l1 (.l .i64) (A.lst .i64 [A.mkX .i64 (A.lit 0,()),A.mkX .i64 (A.lit 5,())]) fun x7=>
 A.cl aV aW (A.lit 2,x2.2.1,x2.2.2.1,()) fun x8=>
 A.bd .i64 x7.1 x8.1<|
 A.bd .i64 x7.1 x8.1<|
 A.l1 .i (A.fI .i64 0 (A.get .i64 x7.1 x8.1)) fun x9=>
 A.inl _ (x8.2.1,x8.2.2.1,A.lit 0,A.lit 0,A.lit 0,A.lit 0,A.lit 0,A.lit 0,x0.1,x0.2.1,x9.1,x0.2.2.2.1,x0.q.1,x0.q.2.1,x0.o.1,()))<|
 A.l1 .b (A.cmp .eql x2.1 (A.lit 4)) fun x7=>
 A.cond x7.1 (A.cl aV aW (A.lit 3,x2.2.1,x2.2.2.1,()) fun x8=>
 A.bd .i64 (A.lst .i64 [A.mkX .i64 (A.lit 0,()),A.mkX .i64 (A.lit 9,()),A.mkX .i64 (A.lit 8,())]) x8.1<|
 A.chk (A.cmp .leq (A.addN (A.len .iop x0.o.1) (A.len .iop (A.lst .iop [A.mkX .iop (A.fI .i64 0 (A.get .i64 (A.lst .i64 [A.mkX .i64 (A.lit 0,()),A.mkX .i64 (A.lit 9,()),A.mkX .i64 (A.lit 8,())]) x8.1),A.len .iop x0.o.1,A.lit 0,A.lit 0,A.lit 0,())]))) (A.lit 1073741824))<|
 A.l1 (.l .iop) (A.app .iop x0.o.1 (A.lst .iop [A.mkX .iop (A.fI .i64 0 (A.get .i64 (A.lst .i64 [A.mkX .i64 (A.lit 0,()),A.mkX .i64 (A.lit 9,()),A.mkX .i64 (A.lit 8,())]) x8.1),A.len .iop x0.o.1,A.lit 0,A.lit 0,A.lit 0,())])) fun x9=>
 A.inl _ (x8.2.1,x8.2.2.1,A.lit 0,A.lit 0,A.lit 0,A.lit 0,A.lit 0,A.lit 0,x0.1,x0.2.1,x0.2.2.1,x0.2.2.2.1,x0.q.1,x0.q.2.1,x9.1,()))<|
 A.cl Ku Kv (A.mkX .blk (x0.1,x0.2.1,x0.o.1,x0.2.2.1,x0.2.2.2.1,x0.q.1,x0.q.2.1,()),x2.2.1,x2.2.2.1,()) fun x8=>
 A.inr _<|A.inr _<|A.inr _<|A.inr _<|A.inr _<|A.ret _ (A.mkX .blk (x8.1,x8.2.1,x8.o.1,x8.2.2.1,x8.2.2.2.1,x8.q.1,x8.q.2.1,()),x8.q.2.2.1,x8.q.2.2.2.1,())) fun x7=>
 A.inl _ (x7.1,x7.2.1,x7.2.2.1,x7.2.2.2.1,x7.q.1,x7.q.2.1,x7.q.2.2.1,x7.q.2.2.2.1,x7.o.1,x7.o.2.1,x7.o.2.2.1,x7.o.2.2.2.1,x7.o.q.1,x7.o.q.2.1,x7.o.q.2.2.1,())) fun x6=>
 A.inl _ (x6.1,x6.2.1,x6.2.2.1,x6.2.2.2.1,x6.q.1,x6.q.2.1,x6.q.2.2.1,x6.q.2.2.2.1,x6.o.1,x6.o.2.1,x6.o.2.2.1,x6.o.2.2.2.1,x6.o.q.1,x6.o.q.2.1,x6.o.q.2.2.1,())) fun x5=>
 A.inl _ (x5.1,x5.2.1,x5.2.2.1,x5.2.2.2.1,x5.q.1,x5.q.2.1,x5.q.2.2.1,x5.q.2.2.2.1,x5.o.1,x5.o.2.1,x5.o.2.2.1,x5.o.2.2.2.1,x5.o.q.1,x5.o.q.2.1,x5.o.q.2.2.1,())) fun x4=>
 A.inl _ (x4.1,x4.2.1,x4.2.2.1,x4.2.2.2.1,x4.q.1,x4.q.2.1,x4.q.2.2.1,x4.q.2.2.2.1,x4.o.1,x4.o.2.1,x4.o.2.2.1,x4.o.2.2.2.1,x4.o.q.1,x4.o.q.2.1,x4.o.q.2.2.1,()))<|
 A.inl _ (x1.2.1,x1.2.2.1,A.lit 0,A.lit 0,A.lit 0,A.lit 0,A.lit 0,A.lit 0,x0.1,x0.2.1,x0.2.2.1,x0.2.2.2.1,x0.q.1,x0.q.2.1,x0.o.1,())) fun x2=>
 A.ret _ (A.mkX .blk (x2.o.1,x2.o.2.1,x2.o.q.2.2.1,x2.o.2.2.1,x2.o.2.2.2.1,x2.o.q.1,x2.o.q.2.1,()),x2.1,x2.2.1,())
def Rp (A:Alg) (x:Tup A.ah [.l .u8]):Ot A EU:=
 A.bind [.l .u8] (A.cond (A.cmp .gtr (A.len .u8 x.1) (A.lit 2000)) (A.chk (A.cmp .leq (A.lit 0) (A.lit 0))<|
 A.chk (A.cmp .leq (A.lit 0) (A.lit 2000))<|
 A.chk (A.cmp .leq (A.lit 2000) (A.len .u8 x.1))<|
 A.l1 (.l .u8) (A.sub .u8 x.1 (A.lit 0) (A.lit 2000)) fun x0=>
 A.ret _ (x0.1,()))<|
 A.ret _ (x.1,())) fun x0=>
 A.ret _ (x0.1,A.lit 0,())
def XV (A:Alg) (x:Tup A.ah [.i,.i,.i]):Ot A cZ:=
 A.l1 .b (A.bl false) fun x0=>
 A.rb (A.ak (A.cmp .leq x.2.1 x.1) (A.cmp .leq x.1 x.2.2.1) (A.bl false))
def XW (A:Alg) (gF:Pt A cZ) (gG:Ft A cZ) (x:Tup A.ah [.i]):Ot A jD:=
 A.l1 .b (A.bl false) fun x0=>
 A.cl gF gG (x.1,A.lit 0,A.lit 65535,()) fun x1=>
 A.rb x1.1
def XY (A:Alg) (gF:Pt A cZ) (gG:Ft A cZ) (x:Tup A.ah [.x .iop]):Ot A Bw:=
 A.l1 .b (A.bl false) fun x0=>
 A.l1 .b (A.bl false) fun x1=>
 A.l1 .b (A.bl false) fun x2=>
 A.l1 .b (A.bl false) fun x3=>
 A.l1 .b (A.ak (A.ak (A.cmp .neq (A.fI .iop 0 x.1) (A.lit 1)) (A.cmp .neq (A.fI .iop 0 x.1) (A.lit 2)) (A.bl false)) (A.cmp .neq (A.fI .iop 0 x.1) (A.lit 6)) (A.bl false)) fun x4=>
 A.l1 .b (A.ak (A.cmp .eql (A.fI .iop 0 x.1) (A.lit 3)) (A.bl true) (A.cmp .eql (A.fI .iop 0 x.1) (A.lit 5))) fun x5=>
 A.l1 .b (A.ak (A.ak (A.ak (A.cmp .eql (A.fI .iop 0 x.1) (A.lit 1)) (A.bl true) (A.cmp .eql (A.fI .iop 0 x.1) (A.lit 2))) (A.bl true) (A.cmp .eql (A.fI .iop 0 x.1) (A.lit 3))) (A.bl true) (A.cmp .eql (A.fI .iop 0 x.1) (A.lit 8))) fun x6=>
 A.cl gF gG (A.fI .iop 0 x.1,A.lit 4,A.lit 7,()) fun x7=>
 A.l1 .b x7.1 fun x8=>
 A.l1 .b x4.1 fun x9=>
 A.l1 .b x5.1 fun x10=>
 A.l1 .b x6.1 fun x11=>
 A.l1 .b x8.1 fun x12=>
 A.ret _ (x9.1,x10.1,x11.1,x12.1,())
def XZ (A:Alg) (gF:Pt A cZ) (gG:Ft A cZ) (x:Tup A.ah [.i]):Ot A Bz:=
 A.l1 .b (A.bl false) fun x0=>
 A.cl gF gG (x.1,A.lit 0,A.lit 3,()) fun x1=>
 A.rb x1.1
def X0 (A:Alg) (gF:Pt A cZ) (gG:Ft A cZ) (x:Tup A.ah [.i]):Ot A BA:=
 A.l1 .b (A.bl false) fun x0=>
 A.cl gF gG (x.1,A.lit 1,A.lit 5,()) fun x1=>
 A.rb x1.1
def X3 (A:Alg) (gF:Pt A cZ) (gG:Ft A cZ) (x:Tup A.ah [.x .iop]):Ot A MR:=
 A.l1 .b (A.bl false) fun x0=>
 A.cl gF gG (A.fI .iop 0 x.1,A.lit 1,A.lit 4,()) fun x1=>
 A.rb (A.ak x1.1 (A.bl true) (A.cmp .eql (A.fI .iop 0 x.1) (A.lit 6)))
def X4 (A:Alg) (aly:Pt A MR) (alz:Ft A MR) (gF:Pt A cZ) (gG:Ft A cZ) (x:Tup A.ah [.x .blk,.i,.i]):Ot A BD:=
 A.l1 .b (A.bl false) fun x0=>
 A.cl gF gG (x.2.1,A.lit 0,A.arith .sub .i64 x.2.2.1 (A.lit 1),()) fun x1=>
 A.chk (A.orB (A.aB x1.1) (A.cmp .leq (A.lit 0) x.2.1))<|
 A.chk (A.orB (A.aB x1.1) (A.cmp .lss x.2.1 (A.len .iop (A.fL .blk 2 .iop x.1))))<|
 A.cg x1.1 aly alz (A.get .iop (A.fL .blk 2 .iop x.1) x.2.1,()) fun x2=>
 A.rb (A.ak x1.1 x2.1 (A.bl false))
def X5 (A:Alg) (Ny:Pt A BD) (Nz:Ft A BD) (X6:Pt A Bw) (X7:Ft A Bw) (qD:Pt A jD) (qE:Ft A jD) (gF:Pt A cZ) (gG:Ft A cZ) (X8:Pt A BA) (X9:Ft A BA) (UJ:Pt A Bz) (UK:Ft A Bz) (x:Tup A.ah [.x .blk,.i]):Ot A MS:=
 A.l1 .b (A.bl false) fun x0=>
 A.bd .iop (A.fL .blk 2 .iop x.1) x.2.1<|
 A.l1 (.x .iop) (A.get .iop (A.fL .blk 2 .iop x.1) x.2.1) fun x1=>
 A.cl gF gG (A.fI .iop 0 x1.1,A.lit 1,A.lit 8,()) fun x2=>
 A.cond (A.aB x2.1) (A.rb (A.bl false))<|
 A.cl X6 X7 (x1.1,()) fun x3=>
 A.l1 .b x3.1 fun x4=>
 A.l1 .b x3.2.1 fun x5=>
 A.l1 .b x3.2.2.1 fun x6=>
 A.l1 .b x3.2.2.2.1 fun x7=>
 A.cl qD qE (A.fI .iop 3 x1.1,()) fun x8=>
 A.cl UJ UK (A.fI .iop 3 x1.1,()) fun x9=>
 A.cl X8 X9 (A.fI .iop 3 x1.1,()) fun x10=>
 A.cl UJ UK (A.fI .iop 3 x1.1,()) fun x11=>
 A.l1 .b (A.ak (A.cmp .eql (A.fI .iop 0 x1.1) (A.lit 1)) x8.1 (A.ak (A.cmp .eql (A.fI .iop 0 x1.1) (A.lit 2)) x9.1 (A.ak (A.cmp .eql (A.fI .iop 0 x1.1) (A.lit 3)) x10.1 (A.ak (A.cmp .eql (A.fI .iop 0 x1.1) (A.lit 8)) x11.1 (A.bl false))))) fun x12=>
 A.cg x4.1 Ny Nz (x.1,A.fI .iop 1 x1.1,x.2.1,()) fun x13=>
 A.cg (A.mU (A.ak (A.ak x4.1 x13.1 (A.bl false)) (A.bl true) (A.ak (A.aB x4.1) (A.cmp .eql (A.fI .iop 1 x1.1) (A.lit 0)) (A.bl false))) x5.1) Ny Nz (x.1,A.fI .iop 2 x1.1,x.2.1,()) fun x14=>
 A.cg (A.mU (A.ak (A.ak (A.ak (A.ak x4.1 x13.1 (A.bl false)) (A.bl true) (A.ak (A.aB x4.1) (A.cmp .eql (A.fI .iop 1 x1.1) (A.lit 0)) (A.bl false))) (A.ak (A.ak x5.1 x14.1 (A.bl false)) (A.bl true) (A.ak (A.aB x5.1) (A.cmp .eql (A.fI .iop 2 x1.1) (A.lit 0)) (A.bl false))) (A.bl false)) (A.ak (A.ak x6.1 x12.1 (A.bl false)) (A.bl true) (A.ak (A.aB x6.1) (A.cmp .eql (A.fI .iop 3 x1.1) (A.lit 0)) (A.bl false))) (A.bl false)) x7.1) gF gG (A.fI .iop 4 x1.1,A.lit 0,A.arith .sub .i64 (A.fI .blk 1 x.1) (A.lit 1),()) fun x15=>
 A.rb (A.ak (A.ak (A.ak (A.ak (A.ak x4.1 x13.1 (A.bl false)) (A.bl true) (A.ak (A.aB x4.1) (A.cmp .eql (A.fI .iop 1 x1.1) (A.lit 0)) (A.bl false))) (A.ak (A.ak x5.1 x14.1 (A.bl false)) (A.bl true) (A.ak (A.aB x5.1) (A.cmp .eql (A.fI .iop 2 x1.1) (A.lit 0)) (A.bl false))) (A.bl false)) (A.ak (A.ak x6.1 x12.1 (A.bl false)) (A.bl true) (A.ak (A.aB x6.1) (A.cmp .eql (A.fI .iop 3 x1.1) (A.lit 0)) (A.bl false))) (A.bl false)) (A.ak (A.ak x7.1 x15.1 (A.bl false)) (A.bl true) (A.ak (A.aB x7.1) (A.cmp .eql (A.fI .iop 4 x1.1) (A.lit 0)) (A.bl false))) (A.bl false))
def Ya (A:Alg) (x:Tup A.ah [.x .blk]):Ot A BF:=
 A.l1 .b (A.bl false) fun x0=>
 A.l1 .b (A.bl false) fun x1=>
 A.l1 .b (A.bl false) fun x2=>
 A.l1 .b (A.cmp .neq (A.fI .blk 3 x.1) (A.lit 1)) fun x3=>
 A.l1 .b (A.cmp .geq (A.fI .blk 3 x.1) (A.lit 3)) fun x4=>
 A.l1 .b (A.cmp .neq (A.fI .blk 3 x.1) (A.lit 2)) fun x5=>
 A.ret _ (x3.1,x4.1,x5.1,())
def Yb (A:Alg) (Yc:Pt A BF) (Yd:Ft A BF) (Ny:Pt A BD) (Nz:Ft A BD) (qD:Pt A jD) (qE:Ft A jD) (gF:Pt A cZ) (gG:Ft A cZ) (x:Tup A.ah [.x .blk]):Ot A MU:=
 A.l1 .b (A.bl false) fun x0=>
 A.cl Yc Yd (x.1,()) fun x1=>
 A.l1 .b x1.1 fun x2=>
 A.l1 .b x1.2.1 fun x3=>
 A.l1 .b x1.2.2.1 fun x4=>
 A.cl gF gG (A.fI .blk 3 x.1,A.lit 1,A.lit 4,()) fun x5=>
 A.cg (A.mU x5.1 x2.1) Ny Nz (x.1,A.fI .blk 4 x.1,A.len .iop (A.fL .blk 2 .iop x.1),()) fun x6=>
 A.cg (A.mU (A.ak x5.1 (A.ak (A.ak x2.1 x6.1 (A.bl false)) (A.bl true) (A.ak (A.aB x2.1) (A.cmp .eql (A.fI .blk 4 x.1) (A.lit 0)) (A.bl false))) (A.bl false)) x3.1) Ny Nz (x.1,A.fI .blk 5 x.1,A.len .iop (A.fL .blk 2 .iop x.1),()) fun x7=>
 A.cg (A.mU (A.ak (A.ak x5.1 (A.ak (A.ak x2.1 x6.1 (A.bl false)) (A.bl true) (A.ak (A.aB x2.1) (A.cmp .eql (A.fI .blk 4 x.1) (A.lit 0)) (A.bl false))) (A.bl false)) (A.ak (A.ak x3.1 x7.1 (A.bl false)) (A.bl true) (A.ak (A.aB x3.1) (A.cmp .eql (A.fI .blk 5 x.1) (A.lit 0)) (A.bl false))) (A.bl false)) x4.1) qD qE (A.fI .blk 6 x.1,()) fun x8=>
 A.rb (A.ak (A.ak (A.ak x5.1 (A.ak (A.ak x2.1 x6.1 (A.bl false)) (A.bl true) (A.ak (A.aB x2.1) (A.cmp .eql (A.fI .blk 4 x.1) (A.lit 0)) (A.bl false))) (A.bl false)) (A.ak (A.ak x3.1 x7.1 (A.bl false)) (A.bl true) (A.ak (A.aB x3.1) (A.cmp .eql (A.fI .blk 5 x.1) (A.lit 0)) (A.bl false))) (A.bl false)) (A.ak (A.ak x4.1 x8.1 (A.bl false)) (A.bl true) (A.ak (A.aB x4.1) (A.cmp .eql (A.fI .blk 6 x.1) (A.lit 0)) (A.bl false))) (A.bl false))
def Ye (A:Alg) (alA:Pt A MU) (alB:Ft A MU) (alC:Pt A MS) (alD:Ft A MS) (gF:Pt A cZ) (gG:Ft A cZ) (x:Tup A.ah [.x .blk]):Ot A BG:=
 A.l1 .b (A.bl false) fun x0=>
 A.cl gF gG (A.fI .blk 1 x.1,A.lit 1,A.lit 8,()) fun x1=>
 A.cg (A.aB (A.aB x1.1)) gF gG (A.fI .blk 0 x.1,A.lit 0,A.arith .sub .i64 (A.lit 64) (A.fI .blk 1 x.1),()) fun x2=>
 A.cond (A.ak (A.ak (A.aB x1.1) (A.bl true) (A.aB x2.1)) (A.bl true) (A.cmp .gtr (A.len .iop (A.fL .blk 2 .iop x.1)) (A.lit 48))) (A.rb (A.bl false))<|
 A.iter [.i,.i,.x .blk] (fun x3=>
 A.cond (A.cmp .lss x3.2.1 x3.1) (A.l1 .i x3.2.1 fun x4=>
 A.cl alC alD (x3.2.2.1,x4.1,()) fun x5=>
 A.cond (A.aB x5.1) (A.l1 .b (A.bl false) fun x6=>
 A.inr _<|A.ret _ (x6.1,()))<|
 A.inl _ (x3.1,A.arith .add .i64 x3.2.1 (A.lit 1),x3.2.2.1,()))<|
 A.inr _<|A.cl alA alB (x3.2.2.1,()) fun x4=>
 A.rb x4.1) (A.len .iop (A.fL .blk 2 .iop x.1),A.lit 0,x.1,())
def Yf (A:Alg) (qD:Pt A jD) (qE:Ft A jD) (x:Tup A.ah []):Ot A MV:=
 A.l1 .b (A.bl false) fun x0=>
 A.cl qD qE (A.lit 1,()) fun x1=>
 A.rb x1.1
def Rq (A:Alg) (x:Tup A.ah [.l .iop,.l .iop]):Ot A EW:=
 A.l1 .b (A.bl false) fun x0=>
 A.cond (A.cmp .neq (A.len .iop x.1) (A.len .iop x.2.1)) (A.rb (A.bl false))<|
 A.iter [.l .iop,.l .iop,.i,.i] (fun x1=>
 A.cond (A.cmp .lss x1.2.2.2.1 x1.2.2.1) (A.l1 .i x1.2.2.2.1 fun x2=>
 A.bd .iop x1.1 x2.1<|
 A.bd .iop x1.2.1 x2.1<|
 A.cond (A.aB (A.eqX .iop (A.get .iop x1.1 x2.1) (A.get .iop x1.2.1 x2.1))) (A.l1 .b (A.bl false) fun x3=>
 A.inr _<|A.ret _ (x3.1,()))<|
 A.inl _ (x1.1,x1.2.1,x1.2.2.1,A.arith .add .i64 x1.2.2.2.1 (A.lit 1),()))<|
 A.inr _<|A.rb (A.bl true)) (x.1,x.2.1,A.len .iop x.1,A.lit 0,())
def Yg (A:Alg) (afz:Pt A EW) (afA:Ft A EW) (x:Tup A.ah [.x .blk,.x .blk]):Ot A MW:=
 A.l1 .b (A.bl false) fun x0=>
 A.cg (A.ak (A.ak (A.ak (A.ak (A.ak (A.cmp .eql (A.fI .blk 0 x.1) (A.fI .blk 0 x.2.1)) (A.cmp .eql (A.fI .blk 1 x.1) (A.fI .blk 1 x.2.1)) (A.bl false)) (A.cmp .eql (A.fI .blk 3 x.1) (A.fI .blk 3 x.2.1)) (A.bl false)) (A.cmp .eql (A.fI .blk 4 x.1) (A.fI .blk 4 x.2.1)) (A.bl false)) (A.cmp .eql (A.fI .blk 5 x.1) (A.fI .blk 5 x.2.1)) (A.bl false)) (A.cmp .eql (A.fI .blk 6 x.1) (A.fI .blk 6 x.2.1)) (A.bl false)) afz afA (A.fL .blk 2 .iop x.1,A.fL .blk 2 .iop x.2.1,()) fun x1=>
 A.rb (A.ak (A.ak (A.ak (A.ak (A.ak (A.ak (A.cmp .eql (A.fI .blk 0 x.1) (A.fI .blk 0 x.2.1)) (A.cmp .eql (A.fI .blk 1 x.1) (A.fI .blk 1 x.2.1)) (A.bl false)) (A.cmp .eql (A.fI .blk 3 x.1) (A.fI .blk 3 x.2.1)) (A.bl false)) (A.cmp .eql (A.fI .blk 4 x.1) (A.fI .blk 4 x.2.1)) (A.bl false)) (A.cmp .eql (A.fI .blk 5 x.1) (A.fI .blk 5 x.2.1)) (A.bl false)) (A.cmp .eql (A.fI .blk 6 x.1) (A.fI .blk 6 x.2.1)) (A.bl false)) x1.1 (A.bl false))
def Yh (A:Alg) (x:Tup A.ah [.i,.i]):Ot A MX:=
 A.l1 .b (A.bl false) fun x0=>
 A.l1 .b (A.cmp .geq x.1 x.2.1) fun x1=>
 A.ret _ (x1.1,x.2.1,())
def Rs (A:Alg) (alE:Pt A MX) (alF:Ft A MX) (x:Tup A.ah [.l .i64,.i]):Ot A EX:=
 A.l1 .i (A.lit 0) fun x0=>
 A.iter [.l .i64,.i,.i,.i] (fun x1=>
 A.cond (A.cmp .lss x1.2.2.1 x1.2.1) (A.l1 .i x1.2.2.1 fun x2=>
 A.bd .i64 x1.1 x2.1<|
 A.cl alE alF (A.fI .i64 0 (A.get .i64 x1.1 x2.1),x1.2.2.2.1,()) fun x3=>
 A.cond x3.1 (A.l1 .i x2.1 fun x4=>
 A.inr _<|A.ret _ (x4.1,x3.2.1,()))<|
 A.inl _ (x1.1,x1.2.1,A.arith .add .i64 x1.2.2.1 (A.lit 1),x3.2.1,()))<|
 A.inr _<|A.l1 .i (A.lit (-1)) fun x2=>
 A.ret _ (x2.1,x1.2.2.2.1,())) (x.1,A.len .i64 x.1,A.lit 0,x.2.1,())
def Rt (A:Alg) (afB:Pt A EX) (afC:Ft A EX) (x:Tup A.ah [.l .i64,.i]):Ot A EY:=
 A.l1 .b (A.bl false) fun x0=>
 A.cl afB afC (x.1,x.2.1,()) fun x1=>
 A.l1 .b (A.cmp .geq x1.1 (A.lit 0)) fun x2=>
 A.ret _ (x2.1,x1.2.1,())
def Yi (A:Alg) (afD:Pt A EY) (afE:Ft A EY) (x:Tup A.ah [.x .poly,.i]):Ot A BH:=
 A.l1 .b (A.bl false) fun x0=>
 A.iter [.l .mono,.i,.i,.i] (fun x1=>
 A.cond (A.cmp .lss x1.2.2.1 x1.2.1) (A.bd .mono x1.1 x1.2.2.1<|
 A.l1 (.x .mono) (A.get .mono x1.1 x1.2.2.1) fun x2=>
 A.cl afD afE (A.fL .mono 1 .i64 x2.1,x1.2.2.2.1,()) fun x3=>
 A.cond x3.1 (A.l1 .b (A.bl false) fun x4=>
 A.inr _<|A.ret _ (x4.1,()))<|
 A.inl _ (x1.1,x1.2.1,A.arith .add .i64 x1.2.2.1 (A.lit 1),x3.2.1,()))<|
 A.inr _<|A.rb (A.bl true)) (A.fL .poly 0 .mono x.1,A.len .mono (A.fL .poly 0 .mono x.1),A.lit 0,x.2.1,())
def afF (A:Alg) (x:Tup A.ah [.i]):Ot A MZ:=
 A.l1 .b (A.bl false) fun x0=>
 A.rb (A.cmp .neq x.1 x.1)
def afG (A:Alg) (Yj:Pt A MZ) (Yk:Ft A MZ) (x:Tup A.ah [.i,.i]):Ot A EZ:=
 A.l1 .i (A.lit 0) fun x0=>
 A.cl Yj Yk (x.1,()) fun x1=>
 A.l1 .b x1.1 fun x2=>
 A.cl Yj Yk (x.2.1,()) fun x3=>
 A.l1 .b x3.1 fun x4=>
 A.cond x2.1 (A.cond x4.1 (A.l1 .i (A.lit 0) fun x5=>
 A.ret _ (x5.1,()))<|
 A.l1 .i (A.lit (-1)) fun x5=>
 A.ret _ (x5.1,()))<|
 A.cond x4.1 (A.l1 .i (A.lit 1) fun x5=>
 A.ret _ (x5.1,()))<|
 A.cond (A.cmp .lss x.1 x.2.1) (A.l1 .i (A.lit (-1)) fun x5=>
 A.ret _ (x5.1,()))<|
 A.cond (A.cmp .gtr x.1 x.2.1) (A.l1 .i (A.lit 1) fun x5=>
 A.ret _ (x5.1,()))<|
 A.l1 .i (A.lit 0) fun x5=>
 A.ret _ (x5.1,())
def afH (A:Alg) (x:Tup A.ah [.l .i64]):Ot A M0:=
 A.l1 .i (A.lit 0) fun x0=>
 A.l1 .i (A.lit 0) fun x1=>
 A.iter [.i,.l .i64,.i,.i] (fun x2=>
 A.cond (A.cmp .lss x2.2.2.2.1 x2.2.2.1) (A.bd .i64 x2.2.1 x2.2.2.2.1<|
 A.l1 .i (A.fI .i64 0 (A.get .i64 x2.2.1 x2.2.2.2.1)) fun x3=>
 A.cond (A.cmp .neq x3.1 x2.1) (A.l1 .i x3.1 fun x4=>
 A.inr _<|A.ret _ (x4.1,()))<|
 A.inl _ (x2.1,x2.2.1,x2.2.2.1,A.arith .add .i64 x2.2.2.2.1 (A.lit 1),()))<|
 A.inr _<|A.l1 .i x2.1 fun x3=>
 A.ret _ (x3.1,())) (x1.1,x.1,A.len .i64 x.1,A.lit 0,())
def Yl (A:Alg) (Wp:Pt A EZ) (Wq:Ft A EZ) (x:Tup A.ah [.l .i64,.l .i64]):Ot A M4:=
 A.l1 .i (A.lit 0) fun x0=>
 A.iter [.l .i64,.l .i64,.l .i64,.i,.i] (fun x1=>
 A.cond (A.cmp .lss x1.q.1 x1.2.2.2.1) (A.bd .i64 x1.2.2.1 x1.q.1<|
 A.l1 .i x1.q.1 fun x2=>
 A.l1 .i (A.fI .i64 0 (A.get .i64 x1.2.2.1 x1.q.1)) fun x3=>
 A.cond (A.cmp .geq x2.1 (A.len .i64 x1.2.1)) (A.l1 .i (A.lit 1) fun x4=>
 A.inr _<|A.ret _ (x4.1,()))<|
 A.bd .i64 x1.2.1 x2.1<|
 A.l1 .i (A.fI .i64 0 (A.get .i64 x1.2.1 x2.1)) fun x4=>
 A.cl Wp Wq (x3.1,x4.1,()) fun x5=>
 A.l1 .i x5.1 fun x6=>
 A.cond (A.cmp .neq x6.1 (A.lit 0)) (A.l1 .i x6.1 fun x7=>
 A.inr _<|A.ret _ (x7.1,()))<|
 A.inl _ (x1.1,x1.2.1,x1.2.2.1,x1.2.2.2.1,A.arith .add .i64 x1.q.1 (A.lit 1),()))<|
 A.inr _<|A.cond (A.cmp .lss (A.len .i64 x1.1) (A.len .i64 x1.2.1)) (A.l1 .i (A.lit (-1)) fun x2=>
 A.ret _ (x2.1,()))<|
 A.l1 .i (A.lit 0) fun x2=>
 A.ret _ (x2.1,())) (x.1,x.2.1,x.1,A.len .i64 x.1,A.lit 0,())
def Ym (A:Alg) (afI:Pt A M0) (afJ:Ft A M0) (Wp:Pt A EZ) (Wq:Ft A EZ) (alG:Pt A M4) (alH:Ft A M4) (x:Tup A.ah [.l .i64,.l .i64]):Ot A ow:=
 A.l1 .i (A.lit 0) fun x0=>
 A.cl Wp Wq (A.len .i64 x.1,A.len .i64 x.2.1,()) fun x1=>
 A.cl alG alH (x.1,x.2.1,()) fun x2=>
 A.l1 (.l .i64) (A.lst .i64 [A.mkX .i64 (x1.1,()),A.mkX .i64 (x2.1,())]) fun x3=>
 A.cl afI afJ (x3.1,()) fun x4=>
 A.l1 .i x4.1 fun x5=>
 A.ret _ (x5.1,())
def afK (A:Alg) (Yj:Pt A MZ) (Yk:Ft A MZ) (x:Tup A.ah [.i,.i]):Ot A E5:=
 A.l1 .b (A.bl false) fun x0=>
 A.cl Yj Yk (x.1,()) fun x1=>
 A.cg x1.1 Yj Yk (x.2.1,()) fun x2=>
 A.rb (A.ak (A.ak x1.1 (A.aB x2.1) (A.bl false)) (A.bl true) (A.cmp .lss x.1 x.2.1))
def Rv (A:Alg) (Yn:Pt A E5) (Yo:Ft A E5) (x:Tup A.ah [.l .i64]):Ot A E8:=
 A.l1 .b (A.bl false) fun x0=>
 A.l1 .i (A.arith .sub .i64 (A.len .i64 x.1) (A.lit 1)) fun x1=>
 A.iter [.l .i64,.i] (fun x2=>
 A.cond (A.cmp .gtr x2.2.1 (A.lit 0)) (A.bd .i64 x2.1 x2.2.1<|
 A.bd .i64 x2.1 (A.arith .sub .i64 x2.2.1 (A.lit 1))<|
 A.cl Yn Yo (A.fI .i64 0 (A.get .i64 x2.1 x2.2.1),A.fI .i64 0 (A.get .i64 x2.1 (A.arith .sub .i64 x2.2.1 (A.lit 1))),()) fun x3=>
 A.cond x3.1 (A.l1 .b (A.bl false) fun x4=>
 A.inr _<|A.ret _ (x4.1,()))<|
 A.l1 .i (A.arith .sub .i64 x2.2.1 (A.lit 1)) fun x4=>
 A.inl _ (x2.1,x4.1,()))<|
 A.inr _<|A.rb (A.bl true)) (x.1,x1.1,())
def Yp (A:Alg) (x:Tup A.ah [.x .mono]):Ot A M5:=
 A.l1 .b (A.bl false) fun x0=>
 A.chk (A.orB (A.aB (A.cmp .gtr (A.len .i64 (A.fL .mono 1 .i64 x.1)) (A.lit 0))) (A.cmp .leq (A.lit 0) (A.lit 0)))<|
 A.chk (A.orB (A.aB (A.cmp .gtr (A.len .i64 (A.fL .mono 1 .i64 x.1)) (A.lit 0))) (A.cmp .lss (A.lit 0) (A.len .i64 (A.fL .mono 1 .i64 x.1))))<|
 A.rb (A.ak (A.cmp .gtr (A.len .i64 (A.fL .mono 1 .i64 x.1)) (A.lit 0)) (A.cmp .lss (A.fI .i64 0 (A.get .i64 (A.fL .mono 1 .i64 x.1) (A.lit 0))) (A.lit 0)) (A.bl false))
def Rw (A:Alg) (alI:Pt A M5) (alJ:Ft A M5) (x:Tup A.ah [.l .mono]):Ot A E9:=
 A.l1 .i (A.lit 0) fun x0=>
 A.iter [.l .mono,.i,.i] (fun x1=>
 A.cond (A.cmp .lss x1.2.2.1 x1.2.1) (A.l1 .i x1.2.2.1 fun x2=>
 A.bd .mono x1.1 x2.1<|
 A.cl alI alJ (A.get .mono x1.1 x2.1,()) fun x3=>
 A.cond x3.1 (A.l1 .i x2.1 fun x4=>
 A.inr _<|A.ret _ (x4.1,()))<|
 A.inl _ (x1.1,x1.2.1,A.arith .add .i64 x1.2.2.1 (A.lit 1),()))<|
 A.inr _<|A.l1 .i (A.lit (-1)) fun x2=>
 A.ret _ (x2.1,())) (x.1,A.len .mono x.1,A.lit 0,())
def Rx (A:Alg) (afL:Pt A E9) (afM:Ft A E9) (x:Tup A.ah [.l .mono]):Ot A Fa:=
 A.l1 .b (A.bl false) fun x0=>
 A.cl afL afM (x.1,()) fun x1=>
 A.rb (A.cmp .geq x1.1 (A.lit 0))
def Yq (A:Alg) (gF:Pt A cZ) (gG:Ft A cZ) (UL:Pt A BH) (UM:Ft A BH) (afN:Pt A E8) (afO:Ft A E8) (FW:Pt A ow) (FX:Ft A ow) (afP:Pt A Fa) (afQ:Ft A Fa) (x:Tup A.ah [.x .poly]):Ot A iL:=
 A.l1 .b (A.bl false) fun x0=>
 A.iter [.l .mono,.i,.i,.x .poly] (fun x1=>
 A.cond (A.cmp .lss x1.2.2.1 x1.2.1) (A.bd .mono x1.1 x1.2.2.1<|
 A.l1 .i x1.2.2.1 fun x2=>
 A.l1 (.x .mono) (A.get .mono x1.1 x1.2.2.1) fun x3=>
 A.cl gF gG (A.fI .mono 0 x3.1,A.lit 1,A.lit 65535,()) fun x4=>
 A.cg (A.aB (A.ak (A.aB x4.1) (A.bl true) (A.cmp .gtr (A.len .i64 (A.fL .mono 1 .i64 x3.1)) (A.lit 4)))) afN afO (A.fL .mono 1 .i64 x3.1,()) fun x5=>
 A.chk (A.orB (A.aB (A.mU (A.aB (A.ak (A.ak (A.aB x4.1) (A.bl true) (A.cmp .gtr (A.len .i64 (A.fL .mono 1 .i64 x3.1)) (A.lit 4))) (A.bl true) (A.aB x5.1))) (A.cmp .gtr x2.1 (A.lit 0)))) (A.cmp .leq (A.lit 0) (A.arith .sub .i64 x2.1 (A.lit 1))))<|
 A.chk (A.orB (A.aB (A.mU (A.aB (A.ak (A.ak (A.aB x4.1) (A.bl true) (A.cmp .gtr (A.len .i64 (A.fL .mono 1 .i64 x3.1)) (A.lit 4))) (A.bl true) (A.aB x5.1))) (A.cmp .gtr x2.1 (A.lit 0)))) (A.cmp .lss (A.arith .sub .i64 x2.1 (A.lit 1)) (A.len .mono (A.fL .poly 0 .mono x1.2.2.2.1))))<|
 A.cg (A.mU (A.aB (A.ak (A.ak (A.aB x4.1) (A.bl true) (A.cmp .gtr (A.len .i64 (A.fL .mono 1 .i64 x3.1)) (A.lit 4))) (A.bl true) (A.aB x5.1))) (A.cmp .gtr x2.1 (A.lit 0))) FW FX (A.fL .mono 1 .i64 (A.get .mono (A.fL .poly 0 .mono x1.2.2.2.1) (A.arith .sub .i64 x2.1 (A.lit 1))),A.fL .mono 1 .i64 x3.1,()) fun x6=>
 A.cond (A.ak (A.ak (A.ak (A.aB x4.1) (A.bl true) (A.cmp .gtr (A.len .i64 (A.fL .mono 1 .i64 x3.1)) (A.lit 4))) (A.bl true) (A.aB x5.1)) (A.bl true) (A.ak (A.cmp .gtr x2.1 (A.lit 0)) (A.cmp .geq x6.1 (A.lit 0)) (A.bl false))) (A.l1 .b (A.bl false) fun x7=>
 A.inr _<|A.ret _ (x7.1,()))<|
 A.inl _ (x1.1,x1.2.1,A.arith .add .i64 x1.2.2.1 (A.lit 1),x1.2.2.2.1,()))<|
 A.inr _<|A.cg (A.cmp .leq (A.len .mono (A.fL .poly 0 .mono x1.2.2.2.1)) (A.lit 12)) UL UM (x1.2.2.2.1,A.lit 200,()) fun x2=>
 A.cg (A.ak (A.cmp .leq (A.len .mono (A.fL .poly 0 .mono x1.2.2.2.1)) (A.lit 12)) x2.1 (A.bl false)) afP afQ (A.fL .poly 0 .mono x1.2.2.2.1,()) fun x3=>
 A.rb (A.ak (A.ak (A.cmp .leq (A.len .mono (A.fL .poly 0 .mono x1.2.2.2.1)) (A.lit 12)) x2.1 (A.bl false)) (A.aB x3.1) (A.bl false))) (A.fL .poly 0 .mono x.1,A.len .mono (A.fL .poly 0 .mono x.1),A.lit 0,x.1,())
def Yr (A:Alg) (gF:Pt A cZ) (gG:Ft A cZ) (X8:Pt A BA) (X9:Ft A BA) (UL:Pt A BH) (UM:Ft A BH) (lD:Pt A iL) (lF:Ft A iL) (UJ:Pt A Bz) (UK:Ft A Bz) (x:Tup A.ah [.x .atom,.i]):Ot A BI:=
 A.l1 .b (A.bl false) fun x0=>
 A.cond (A.cmp .eql (A.fI .atom 0 x.1) (A.lit 4)) (A.cl X8 X9 (A.fI .atom 1 x.1,()) fun x1=>
 A.cg x1.1 lD lF (A.mkX .poly (A.fL .atom 2 .mono x.1,()),()) fun x2=>
 A.cg (A.ak x1.1 x2.1 (A.bl false)) lD lF (A.mkX .poly (A.fL .atom 3 .mono x.1,()),()) fun x3=>
 A.cg (A.ak (A.ak x1.1 x2.1 (A.bl false)) x3.1 (A.bl false)) UL UM (A.mkX .poly (A.fL .atom 2 .mono x.1,()),x.2.1,()) fun x4=>
 A.cg (A.ak (A.ak (A.ak x1.1 x2.1 (A.bl false)) x3.1 (A.bl false)) x4.1 (A.bl false)) UL UM (A.mkX .poly (A.fL .atom 3 .mono x.1,()),x.2.1,()) fun x5=>
 A.rb (A.ak (A.ak (A.ak (A.ak x1.1 x2.1 (A.bl false)) x3.1 (A.bl false)) x4.1 (A.bl false)) x5.1 (A.bl false)))<|
 A.cond (A.cmp .gtr (A.arith .add .i64 (A.len .mono (A.fL .atom 2 .mono x.1)) (A.len .mono (A.fL .atom 3 .mono x.1))) (A.lit 0)) (A.rb (A.bl false))<|
 A.cg (A.cmp .eql (A.fI .atom 0 x.1) (A.lit 1)) UJ UK (A.fI .atom 1 x.1,()) fun x1=>
 A.cg (A.mU (A.aB (A.ak (A.cmp .eql (A.fI .atom 0 x.1) (A.lit 1)) x1.1 (A.bl false))) (A.ak (A.cmp .eql (A.fI .atom 0 x.1) (A.lit 2)) (A.bl true) (A.cmp .eql (A.fI .atom 0 x.1) (A.lit 3)))) gF gG (A.fI .atom 1 x.1,A.lit 0,A.lit 199,()) fun x2=>
 A.rb (A.ak (A.ak (A.cmp .eql (A.fI .atom 0 x.1) (A.lit 1)) x1.1 (A.bl false)) (A.bl true) (A.ak (A.ak (A.cmp .eql (A.fI .atom 0 x.1) (A.lit 2)) (A.bl true) (A.cmp .eql (A.fI .atom 0 x.1) (A.lit 3))) x2.1 (A.bl false)))
def Yt (A:Alg) (afI:Pt A M0) (afJ:Ft A M0) (Wp:Pt A EZ) (Wq:Ft A EZ) (FW:Pt A ow) (FX:Ft A ow) (x:Tup A.ah [.x .poly,.x .poly]):Ot A uL:=
 A.l1 .i (A.lit 0) fun x0=>
 A.cl Wp Wq (A.len .mono (A.fL .poly 0 .mono x.1),A.len .mono (A.fL .poly 0 .mono x.2.1),()) fun x1=>
 A.l1 .i x1.1 fun x2=>
 A.cond (A.cmp .neq x2.1 (A.lit 0)) (A.l1 .i x2.1 fun x3=>
 A.ret _ (x3.1,()))<|
 A.iter [.l .mono,.i,.i,.x .poly] (fun x3=>
 A.cond (A.cmp .lss x3.2.2.1 x3.2.1) (A.bd .mono x3.1 x3.2.2.1<|
 A.l1 .i x3.2.2.1 fun x4=>
 A.l1 (.x .mono) (A.get .mono x3.1 x3.2.2.1) fun x5=>
 A.bd .mono (A.fL .poly 0 .mono x3.2.2.2.1) x4.1<|
 A.bd .mono (A.fL .poly 0 .mono x3.2.2.2.1) x4.1<|
 A.cl FW FX (A.fL .mono 1 .i64 x5.1,A.fL .mono 1 .i64 (A.get .mono (A.fL .poly 0 .mono x3.2.2.2.1) x4.1),()) fun x6=>
 A.cl Wp Wq (A.fI .mono 0 x5.1,A.fI .mono 0 (A.get .mono (A.fL .poly 0 .mono x3.2.2.2.1) x4.1),()) fun x7=>
 A.cl afI afJ (A.lst .i64 [A.mkX .i64 (x6.1,()),A.mkX .i64 (x7.1,())],()) fun x8=>
 A.l1 .i x8.1 fun x9=>
 A.cond (A.cmp .neq x9.1 (A.lit 0)) (A.l1 .i x9.1 fun x10=>
 A.inr _<|A.ret _ (x10.1,()))<|
 A.inl _ (x3.1,x3.2.1,A.arith .add .i64 x3.2.2.1 (A.lit 1),x3.2.2.2.1,()))<|
 A.inr _<|A.l1 .i (A.lit 0) fun x4=>
 A.ret _ (x4.1,())) (A.fL .poly 0 .mono x.1,A.len .mono (A.fL .poly 0 .mono x.1),A.lit 0,x.2.1,())
def Yu (A:Alg) (NA:Pt A uL) (NC:Ft A uL) (x:Tup A.ah [.x .poly,.x .poly]):Ot A jE:=
 A.l1 .b (A.bl false) fun x0=>
 A.cl NA NC (x.1,x.2.1,()) fun x1=>
 A.rb (A.cmp .eql x1.1 (A.lit 0))
def Yv (A:Alg) (lZ:Pt A jE) (l5:Ft A jE) (x:Tup A.ah [.x .atom,.x .atom]):Ot A M6:=
 A.l1 .b (A.bl false) fun x0=>
 A.cg (A.ak (A.cmp .eql (A.fI .atom 0 x.1) (A.fI .atom 0 x.2.1)) (A.cmp .eql (A.fI .atom 1 x.1) (A.fI .atom 1 x.2.1)) (A.bl false)) lZ l5 (A.mkX .poly (A.fL .atom 2 .mono x.1,()),A.mkX .poly (A.fL .atom 2 .mono x.2.1,()),()) fun x1=>
 A.cg (A.ak (A.ak (A.cmp .eql (A.fI .atom 0 x.1) (A.fI .atom 0 x.2.1)) (A.cmp .eql (A.fI .atom 1 x.1) (A.fI .atom 1 x.2.1)) (A.bl false)) x1.1 (A.bl false)) lZ l5 (A.mkX .poly (A.fL .atom 3 .mono x.1,()),A.mkX .poly (A.fL .atom 3 .mono x.2.1,()),()) fun x2=>
 A.rb (A.ak (A.ak (A.ak (A.cmp .eql (A.fI .atom 0 x.1) (A.fI .atom 0 x.2.1)) (A.cmp .eql (A.fI .atom 1 x.1) (A.fI .atom 1 x.2.1)) (A.bl false)) x1.1 (A.bl false)) x2.1 (A.bl false))
def Yw (A:Alg) (alK:Pt A M6) (alL:Ft A M6) (x:Tup A.ah [.x .atom,.x .atom]):Ot A M7:=
 A.l1 .b (A.bl false) fun x0=>
 A.cl alK alL (x.2.1,x.1,()) fun x1=>
 A.l1 .b x1.1 fun x2=>
 A.ret _ (x2.1,x.2.1,())
def Ry (A:Alg) (alM:Pt A M7) (alN:Ft A M7) (x:Tup A.ah [.l .atom,.x .atom]):Ot A Fb:=
 A.l1 .i (A.lit 0) fun x0=>
 A.iter [.l .atom,.i,.i,.x .atom] (fun x1=>
 A.cond (A.cmp .lss x1.2.2.1 x1.2.1) (A.l1 .i x1.2.2.1 fun x2=>
 A.bd .atom x1.1 x2.1<|
 A.cl alM alN (A.get .atom x1.1 x2.1,x1.2.2.2.1,()) fun x3=>
 A.cond x3.1 (A.l1 .i x2.1 fun x4=>
 A.inr _<|A.ret _ (x4.1,x3.2.1,()))<|
 A.inl _ (x1.1,x1.2.1,A.arith .add .i64 x1.2.2.1 (A.lit 1),x3.2.1,()))<|
 A.inr _<|A.l1 .i (A.lit (-1)) fun x2=>
 A.ret _ (x2.1,x1.2.2.2.1,())) (x.1,A.len .atom x.1,A.lit 0,x.2.1,())
def Yx (A:Alg) (afR:Pt A Fb) (afS:Ft A Fb) (x:Tup A.ah [.x .tab,.x .atom]):Ot A BJ:=
 A.l1 .i (A.lit 0) fun x0=>
 A.cl afR afS (A.fL .tab 0 .atom x.1,x.2.1,()) fun x1=>
 A.l1 .i x1.1 fun x2=>
 A.ret _ (x2.1,())
def Yy (A:Alg) (x:Tup A.ah [.l .atom]):Ot A M8:=
 A.chk (A.cmp .leq (A.lit 0) (A.lit 0))<|
 A.chk (A.cmp .leq (A.lit 0) (A.len .atom x.1))<|
 A.chk (A.cmp .leq (A.len .atom x.1) (A.len .atom x.1))<|
 A.chk (A.cmp .eql (A.len .atom x.1) (A.len .atom x.1))<|
 A.ret _ (A.sub .atom x.1 (A.lit 0) (A.len .atom x.1),())
def Yz (A:Alg) (YA:Pt A BI) (YB:Ft A BI) (YC:Pt A BJ) (YD:Ft A BJ) (alO:Pt A M8) (alP:Ft A M8) (x:Tup A.ah [.x .tab,.x .atom]):Ot A BK:=
 A.l1 .i (A.lit 0) fun x0=>
 A.cl YC YD (x.1,x.2.1,()) fun x1=>
 A.l1 .i x1.1 fun x2=>
 A.cond (A.cmp .geq x2.1 (A.lit 0)) (A.l1 (.x .tab) x.1 fun x3=>
 A.l1 .i x2.1 fun x4=>
 A.ret _ (x3.1,x4.1,()))<|
 A.cl YA YB (x.2.1,A.len .atom (A.fL .tab 0 .atom x.1),()) fun x3=>
 A.cond (A.ak (A.aB x3.1) (A.bl true) (A.cmp .eql (A.len .atom (A.fL .tab 0 .atom x.1)) (A.lit 200))) (A.l1 (.x .tab) x.1 fun x4=>
 A.l1 .i (A.lit (-1)) fun x5=>
 A.ret _ (x4.1,x5.1,()))<|
 A.cl alO alP (A.fL .tab 0 .atom x.1,()) fun x4=>
 A.chk (A.orB (A.cmp .lss (A.lit 0) (A.len .atom (A.lst .atom [x.2.1]))) (A.cmp .eql (A.len .atom x4.1) (A.lit 0)))<|
 A.chk (A.cmp .leq (A.addN (A.len .atom x4.1) (A.len .atom (A.lst .atom [x.2.1]))) (A.lit 1073741824))<|
 A.l1 (.l .atom) (A.app .atom x4.1 (A.lst .atom [x.2.1])) fun x5=>
 A.l1 .i (A.len .atom (A.fL .tab 0 .atom x.1)) fun x6=>
 A.ret _ (A.mkX .tab (x5.1,()),x6.1,())
def YE (A:Alg) (gF:Pt A cZ) (gG:Ft A cZ) (x:Tup A.ah [.i]):Ot A BL:=
 A.cl gF gG (x.1,A.lit 0,A.lit 199,()) fun x0=>
 A.cond (A.aB x0.1) (A.ret _ (A.cu .mono,()))<|
 A.l1 (.l .i64) (A.lst .i64 [A.mkX .i64 (x.1,())]) fun x1=>
 A.l1 (.l .mono) (A.lst .mono [A.mkX .mono (A.lit 1,x1.1,())]) fun x2=>
 A.ret _ (x2.1,())
def YF (A:Alg) (YG:Pt A BL) (YH:Ft A BL) (YI:Pt A BK) (YJ:Ft A BK) (x:Tup A.ah [.i,.i,.l .atom,.b]):Ot A BM:=
 A.cl YI YJ (A.mkX .tab (x.2.2.1,()),A.mkX .atom (x.1,x.2.1,A.cu .mono,A.cu .mono,()),()) fun x0=>
 A.l1 (.x .tab) x0.1 fun x1=>
 A.l1 .i x0.2.1 fun x2=>
 A.cond (A.cmp .lss x2.1 (A.lit 0)) (A.l1 .b (A.bl true) fun x3=>
 A.ret _ (A.mkX .poly (A.cu .mono,()),x.2.2.1,x3.1,()))<|
 A.l1 (.x .tab) x1.1 fun x3=>
 A.cl YG YH (x2.1,()) fun x4=>
 A.ret _ (A.mkX .poly (x4.1,()),A.fL .tab 0 .atom x3.1,x.2.2.2.1,())
def YK (A:Alg) (UN:Pt A BM) (UO:Ft A BM) (x:Tup A.ah [.l .atom,.b]):Ot A BN:=
 A.iter [.i,.l .atom,.b,.l .poly] (fun x0=>
 A.cond (A.cmp .lss x0.1 (A.lit 4)) (A.l1 .i x0.1 fun x1=>
 A.cl UN UO (A.lit 1,x1.1,x0.2.1,x0.2.2.1,()) fun x2=>
 A.l1 (.l .poly) (A.lst .poly [x2.1]) fun x3=>
 A.chk (A.cmp .leq (A.addN (A.len .poly x0.2.2.2.1) (A.len .poly x3.1)) (A.lit 1073741824))<|
 A.l1 (.l .poly) (A.app .poly x0.2.2.2.1 x3.1) fun x4=>
 A.inl _ (A.arith .add .i64 x0.1 (A.lit 1),x2.2.1,x2.2.2.1,x4.1,()))<|
 A.inr _<|A.ret _ (x0.2.1,x0.2.2.1,x0.2.2.2.1,())) (A.lit 0,x.1,x.2.1,A.cu .poly,())
def YL (A:Alg) (x:Tup A.ah [.l .i64]):Ot A BO:=
 A.chk (A.cmp .leq (A.len .i64 x.1) (A.lit 1073741824))<|
 A.l1 (.l .i64) x.1 fun x0=>
 A.ret _ (x0.1,())
def YM (A:Alg) (YN:Pt A BO) (YO:Ft A BO) (x:Tup A.ah [.x .poly]):Ot A uM:=
 A.iter [.l .mono,.i,.i,.l .mono] (fun x0=>
 A.cond (A.cmp .lss x0.2.2.1 x0.2.1) (A.bd .mono x0.1 x0.2.2.1<|
 A.l1 (.x .mono) (A.get .mono x0.1 x0.2.2.1) fun x1=>
 A.cl YN YO (A.fL .mono 1 .i64 x1.1,()) fun x2=>
 A.l1 (.l .mono) (A.lst .mono [A.mkX .mono (A.fI .mono 0 x1.1,x2.1,())]) fun x3=>
 A.chk (A.cmp .leq (A.addN (A.len .mono x0.2.2.2.1) (A.len .mono x3.1)) (A.lit 1073741824))<|
 A.l1 (.l .mono) (A.app .mono x0.2.2.2.1 x3.1) fun x4=>
 A.inl _ (x0.1,x0.2.1,A.arith .add .i64 x0.2.2.1 (A.lit 1),x4.1,()))<|
 A.inr _<|A.ret _ (x0.2.2.2.1,())) (A.fL .poly 0 .mono x.1,A.len .mono (A.fL .poly 0 .mono x.1),A.lit 0,A.cu .mono,())
def YP (A:Alg) (zq:Pt A uM) (zu:Ft A uM) (x:Tup A.ah [.x .tab]):Ot A BP:=
 A.iter [.l .atom,.i,.i,.l .atom] (fun x0=>
 A.cond (A.cmp .lss x0.2.2.1 x0.2.1) (A.bd .atom x0.1 x0.2.2.1<|
 A.l1 (.x .atom) (A.get .atom x0.1 x0.2.2.1) fun x1=>
 A.cl zq zu (A.mkX .poly (A.fL .atom 2 .mono x1.1,()),()) fun x2=>
 A.cl zq zu (A.mkX .poly (A.fL .atom 3 .mono x1.1,()),()) fun x3=>
 A.l1 (.l .atom) (A.lst .atom [A.mkX .atom (A.fI .atom 0 x1.1,A.fI .atom 1 x1.1,x2.1,x3.1,())]) fun x4=>
 A.chk (A.cmp .leq (A.addN (A.len .atom x0.2.2.2.1) (A.len .atom x4.1)) (A.lit 1073741824))<|
 A.l1 (.l .atom) (A.app .atom x0.2.2.2.1 x4.1) fun x5=>
 A.inl _ (x0.1,x0.2.1,A.arith .add .i64 x0.2.2.1 (A.lit 1),x5.1,()))<|
 A.inr _<|A.ret _ (x0.2.2.2.1,())) (A.fL .tab 0 .atom x.1,A.len .atom (A.fL .tab 0 .atom x.1),A.lit 0,A.cu .atom,())
def YQ (A:Alg) (YR:Pt A BP) (YS:Ft A BP) (YT:Pt A BN) (YU:Ft A BN) (x:Tup A.ah []):Ot A M9:=
 A.cl YT YU (A.cu .atom,A.bl false,()) fun x0=>
 A.cl YR YS (A.mkX .tab (x0.1,()),()) fun x1=>
 A.ret _ (A.mkX .tab (x1.1,()),x0.2.2.1,())
def YV (A:Alg) (gF:Pt A cZ) (gG:Ft A cZ) (x:Tup A.ah [.x .iop]):Ot A BQ:=
 A.l1 .b (A.bl false) fun x0=>
 A.cl gF gG (A.fI .iop 0 x.1,A.lit 4,A.lit 7,()) fun x1=>
 A.rb x1.1
def YW (A:Alg) (YA:Pt A BI) (YB:Ft A BI) (YC:Pt A BJ) (YD:Ft A BJ) (x:Tup A.ah [.x .tab]):Ot A Na:=
 A.l1 .b (A.bl false) fun x0=>
 A.iter [.l .atom,.i,.i,.x .tab] (fun x1=>
 A.cond (A.cmp .lss x1.2.2.1 x1.2.1) (A.bd .atom x1.1 x1.2.2.1<|
 A.l1 .i x1.2.2.1 fun x2=>
 A.l1 (.x .atom) (A.get .atom x1.1 x1.2.2.1) fun x3=>
 A.cl YA YB (x3.1,x2.1,()) fun x4=>
 A.cg (A.aB (A.aB x4.1)) YC YD (x1.2.2.2.1,x3.1,()) fun x5=>
 A.cond (A.ak (A.aB x4.1) (A.bl true) (A.cmp .neq x5.1 x2.1)) (A.l1 .b (A.bl false) fun x6=>
 A.inr _<|A.ret _ (x6.1,()))<|
 A.inl _ (x1.1,x1.2.1,A.arith .add .i64 x1.2.2.1 (A.lit 1),x1.2.2.2.1,()))<|
 A.inr _<|A.rb (A.cmp .leq (A.len .atom (A.fL .tab 0 .atom x1.2.2.2.1)) (A.lit 200))) (A.fL .tab 0 .atom x.1,A.len .atom (A.fL .tab 0 .atom x.1),A.lit 0,x.1,())
def YX (A:Alg) (x:Tup A.ah [.l .poly]):Ot A Nb:=
 A.chk (A.cmp .neq (A.len .poly x.1) (A.lit 0))<|
 A.cond (A.bl false) (A.ret _ (x.1,A.cu .poly,()))<|
 A.l1 (.l .poly) (A.lst .poly []) fun x0=>
 A.chk (A.cmp .leq (A.addN (A.len .poly x0.1) (A.len .poly x.1)) (A.lit 1073741824))<|
 A.l1 (.l .poly) (A.app .poly x0.1 x.1) fun x1=>
 A.ret _ (x.1,x1.1,())
def YZ (A:Alg) (gF:Pt A cZ) (gG:Ft A cZ) (x:Tup A.ah [.i]):Ot A uN:=
 A.cl gF gG (x.1,A.lit 1,A.lit 65535,()) fun x0=>
 A.cond (A.aB x0.1) (A.ret _ (A.cu .mono,()))<|
 A.l1 (.l .mono) (A.lst .mono [A.mkX .mono (x.1,A.cu .i64,())]) fun x1=>
 A.ret _ (x1.1,())
def Y0 (A:Alg) (x:Tup A.ah [.i]):Ot A uO:=
 A.l1 .i (A.lit 0) fun x0=>
 A.l1 .i (A.arith .and .i64 x.1 (A.lit 65535)) fun x1=>
 A.ret _ (x1.1,())
def Y3 (A:Alg) (qD:Pt A jD) (qE:Ft A jD) (FY:Pt A uO) (FZ:Ft A uO) (x:Tup A.ah [.i,.i,.i]):Ot A Nc:=
 A.l1 .i (A.lit 0) fun x0=>
 A.cl qD qE (x.2.1,()) fun x1=>
 A.cg (A.aB (A.aB x1.1)) qD qE (x.2.2.1,()) fun x2=>
 A.cond (A.ak (A.aB x1.1) (A.bl true) (A.aB x2.1)) (A.l1 .i (A.lit 0) fun x3=>
 A.ret _ (x3.1,()))<|
 A.l1 .b (A.cmp .eql x.1 (A.lit 1)) fun x3=>
 A.cond x3.1 (A.cl FY FZ (A.arith .add .i64 x.2.1 x.2.2.1,()) fun x4=>
 A.l1 .i x4.1 fun x5=>
 A.ret _ (x5.1,()))<|
 A.l1 .b (A.cmp .eql x.1 (A.lit 2)) fun x4=>
 A.cond x4.1 (A.cl FY FZ (A.arith .sub .i64 x.2.1 x.2.2.1,()) fun x5=>
 A.l1 .i x5.1 fun x6=>
 A.ret _ (x6.1,()))<|
 A.l1 .b (A.cmp .eql x.1 (A.lit 3)) fun x5=>
 A.cond x5.1 (A.cl FY FZ (A.arith .mul .i64 x.2.1 x.2.2.1,()) fun x6=>
 A.l1 .i x6.1 fun x7=>
 A.ret _ (x7.1,()))<|
 A.l1 .b (A.cmp .eql x.1 (A.lit 4)) fun x6=>
 A.cond x6.1 (A.l1 .i (A.arith .and .i64 x.2.1 x.2.2.1) fun x7=>
 A.ret _ (x7.1,()))<|
 A.l1 .b (A.cmp .eql x.1 (A.lit 5)) fun x7=>
 A.cond x7.1 (A.l1 .i (A.arith .xor .i64 x.2.1 x.2.2.1) fun x8=>
 A.ret _ (x8.1,()))<|
 A.l1 .i (A.lit 0) fun x8=>
 A.ret _ (x8.1,())
def Y4 (A:Alg) (lD:Pt A iL) (lF:Ft A iL) (x:Tup A.ah [.x .poly]):Ot A BR:=
 A.l1 .i (A.lit 0) fun x0=>
 A.l1 .b (A.bl false) fun x1=>
 A.cl lD lF (x.1,()) fun x2=>
 A.l1 .b (A.aB x2.1) fun x3=>
 A.cond x3.1 (A.l1 .i (A.lit 0) fun x4=>
 A.l1 .b (A.bl false) fun x5=>
 A.ret _ (x4.1,x5.1,()))<|
 A.l1 .b (A.cmp .eql (A.len .mono (A.fL .poly 0 .mono x.1)) (A.lit 0)) fun x4=>
 A.cond x4.1 (A.l1 .i (A.lit 0) fun x5=>
 A.l1 .b (A.bl true) fun x6=>
 A.ret _ (x5.1,x6.1,()))<|
 A.chk (A.orB (A.aB (A.cmp .eql (A.len .mono (A.fL .poly 0 .mono x.1)) (A.lit 1))) (A.cmp .leq (A.lit 0) (A.lit 0)))<|
 A.chk (A.orB (A.aB (A.cmp .eql (A.len .mono (A.fL .poly 0 .mono x.1)) (A.lit 1))) (A.cmp .lss (A.lit 0) (A.len .mono (A.fL .poly 0 .mono x.1))))<|
 A.l1 .b (A.ak (A.cmp .eql (A.len .mono (A.fL .poly 0 .mono x.1)) (A.lit 1)) (A.cmp .eql (A.len .i64 (A.fL .mono 1 .i64 (A.get .mono (A.fL .poly 0 .mono x.1) (A.lit 0)))) (A.lit 0)) (A.bl false)) fun x5=>
 A.cond x5.1 (A.bd .mono (A.fL .poly 0 .mono x.1) (A.lit 0)<|
 A.l1 .i (A.fI .mono 0 (A.get .mono (A.fL .poly 0 .mono x.1) (A.lit 0))) fun x6=>
 A.l1 .b (A.bl true) fun x7=>
 A.ret _ (x6.1,x7.1,()))<|
 A.l1 .i (A.lit 0) fun x6=>
 A.l1 .b (A.bl false) fun x7=>
 A.ret _ (x6.1,x7.1,())
def Y5 (A:Alg) (FW:Pt A ow) (FX:Ft A ow) (x:Tup A.ah [.x .mono,.x .mono]):Ot A BS:=
 A.l1 .i (A.lit 0) fun x0=>
 A.cl FW FX (A.fL .mono 1 .i64 x.1,A.fL .mono 1 .i64 x.2.1,()) fun x1=>
 A.l1 .i x1.1 fun x2=>
 A.ret _ (x2.1,())
def Rz (A:Alg) (ND:Pt A BS) (NG:Ft A BS) (x:Tup A.ah [.i,.i,.l .mono]):Ot A Fe:=
 A.l1 .i (A.arith .add .i64 x.1 (A.lit 1)) fun x0=>
 A.iter [.i,.i,.i,.l .mono] (fun x1=>
 A.cond (A.cmp .lss x1.2.2.1 x1.2.1) (A.l1 .i x1.2.2.1 fun x2=>
 A.iter [.i,.i,.i,.i,.l .mono] (fun x3=>
 A.chk (A.orB (A.aB (A.cmp .gtr x3.2.2.2.1 x3.1)) (A.cmp .leq (A.lit 0) x3.2.2.2.1))<|
 A.chk (A.orB (A.aB (A.cmp .gtr x3.2.2.2.1 x3.1)) (A.cmp .lss x3.2.2.2.1 (A.len .mono x3.q.1)))<|
 A.chk (A.orB (A.aB (A.cmp .gtr x3.2.2.2.1 x3.1)) (A.cmp .leq (A.lit 0) x3.2.2.2.1))<|
 A.chk (A.orB (A.aB (A.cmp .gtr x3.2.2.2.1 x3.1)) (A.cmp .lss x3.2.2.2.1 (A.len .mono x3.q.1)))<|
 A.chk (A.orB (A.aB (A.cmp .gtr x3.2.2.2.1 x3.1)) (A.cmp .leq (A.lit 0) (A.arith .sub .i64 x3.2.2.2.1 (A.lit 1))))<|
 A.chk (A.orB (A.aB (A.cmp .gtr x3.2.2.2.1 x3.1)) (A.cmp .lss (A.arith .sub .i64 x3.2.2.2.1 (A.lit 1)) (A.len .mono x3.q.1)))<|
 A.chk (A.orB (A.aB (A.cmp .gtr x3.2.2.2.1 x3.1)) (A.cmp .leq (A.lit 0) (A.arith .sub .i64 x3.2.2.2.1 (A.lit 1))))<|
 A.chk (A.orB (A.aB (A.cmp .gtr x3.2.2.2.1 x3.1)) (A.cmp .lss (A.arith .sub .i64 x3.2.2.2.1 (A.lit 1)) (A.len .mono x3.q.1)))<|
 A.cg (A.cmp .gtr x3.2.2.2.1 x3.1) ND NG (A.get .mono x3.q.1 x3.2.2.2.1,A.get .mono x3.q.1 (A.arith .sub .i64 x3.2.2.2.1 (A.lit 1)),()) fun x4=>
 A.cond (A.ak (A.cmp .gtr x3.2.2.2.1 x3.1) (A.cmp .lss x4.1 (A.lit 0)) (A.bl false)) (A.bd .mono x3.q.1 (A.arith .sub .i64 x3.2.2.2.1 (A.lit 1))<|
 A.bd .mono x3.q.1 (A.arith .sub .i64 x3.2.2.2.1 (A.lit 1))<|
 A.bd .mono x3.q.1 x3.2.2.2.1<|
 A.bd .mono x3.q.1 x3.2.2.2.1<|
 A.bd .mono x3.q.1 x3.2.2.2.1<|
 A.bd .mono x3.q.1 x3.2.2.2.1<|
 A.l1 (.x .mono) (A.get .mono x3.q.1 (A.arith .sub .i64 x3.2.2.2.1 (A.lit 1))) fun x5=>
 A.bd .mono (A.set .mono x3.q.1 x3.2.2.2.1 x5.1) (A.arith .sub .i64 x3.2.2.2.1 (A.lit 1))<|
 A.bd .mono (A.set .mono x3.q.1 x3.2.2.2.1 x5.1) (A.arith .sub .i64 x3.2.2.2.1 (A.lit 1))<|
 A.l1 (.x .mono) (A.get .mono x3.q.1 x3.2.2.2.1) fun x6=>
 A.l1 .i (A.arith .sub .i64 x3.2.2.2.1 (A.lit 1)) fun x7=>
 A.inl _ (x3.1,x3.2.1,x3.2.2.1,x7.1,A.set .mono (A.set .mono x3.q.1 x3.2.2.2.1 x5.1) (A.arith .sub .i64 x3.2.2.2.1 (A.lit 1)) x6.1,()))<|
 A.inr _<|A.l1 .i (A.arith .add .i64 x3.2.2.1 (A.lit 1)) fun x5=>
 A.inl _ (x3.1,x3.2.1,x5.1,x3.q.1,())) (x1.1,x1.2.1,x1.2.2.1,x2.1,x1.2.2.2.1,()))<|
 A.inr _<|A.ret _ (x1.2.2.2.1,())) (x.1,x.2.1,x0.1,x.2.2.1,())
def RA (A:Alg) (x:Tup A.ah [.i,.i,.i,.l .mono]):Ot A Fg:=
 A.l1 .i (A.lit 0) fun x0=>
 A.iter [.i,.i,.i,.i,.l .mono] (fun x1=>
 A.cond (A.cmp .lss x1.2.2.2.1 x1.2.2.1) (A.bd .mono x1.q.1 (A.arith .add .i64 x1.2.1 x1.2.2.2.1)<|
 A.bd .mono x1.q.1 (A.arith .add .i64 x1.2.1 x1.2.2.2.1)<|
 A.bd .mono x1.q.1 (A.arith .add .i64 x1.1 x1.2.2.2.1)<|
 A.bd .mono x1.q.1 (A.arith .add .i64 x1.1 x1.2.2.2.1)<|
 A.bd .mono x1.q.1 (A.arith .add .i64 x1.1 x1.2.2.2.1)<|
 A.bd .mono x1.q.1 (A.arith .add .i64 x1.1 x1.2.2.2.1)<|
 A.l1 (.x .mono) (A.get .mono x1.q.1 (A.arith .add .i64 x1.2.1 x1.2.2.2.1)) fun x2=>
 A.bd .mono (A.set .mono x1.q.1 (A.arith .add .i64 x1.1 x1.2.2.2.1) x2.1) (A.arith .add .i64 x1.2.1 x1.2.2.2.1)<|
 A.bd .mono (A.set .mono x1.q.1 (A.arith .add .i64 x1.1 x1.2.2.2.1) x2.1) (A.arith .add .i64 x1.2.1 x1.2.2.2.1)<|
 A.l1 (.x .mono) (A.get .mono x1.q.1 (A.arith .add .i64 x1.1 x1.2.2.2.1)) fun x3=>
 A.l1 .i (A.arith .add .i64 x1.2.2.2.1 (A.lit 1)) fun x4=>
 A.inl _ (x1.1,x1.2.1,x1.2.2.1,x4.1,A.set .mono (A.set .mono x1.q.1 (A.arith .add .i64 x1.1 x1.2.2.2.1) x2.1) (A.arith .add .i64 x1.2.1 x1.2.2.2.1) x3.1,()))<|
 A.inr _<|A.ret _ (x1.q.1,())) (x.1,x.2.1,x.2.2.1,x0.1,x.2.2.2.1,())
def RD (A:Alg) (RF:Pt A Fg) (RG:Ft A Fg) (x:Tup A.ah [.i,.i,.i,.l .mono]):Ot A Fh:=
 A.l1 .i (A.arith .sub .i64 x.2.1 x.1) fun x0=>
 A.l1 .i (A.arith .sub .i64 x.2.2.1 x.2.1) fun x1=>
 A.iter [.i,.i,.i,.l .mono] (fun x2=>
 A.cond (A.cmp .neq x2.2.1 x2.2.2.1) (A.bind [.i,.i,.i,.l .mono] (A.cond (A.cmp .gtr x2.2.1 x2.2.2.1) (A.cl RF RG (A.arith .sub .i64 x2.1 x2.2.1,x2.1,x2.2.2.1,x2.2.2.2.1,()) fun x3=>
 A.l1 .i (A.arith .sub .i64 x2.2.1 x2.2.2.1) fun x4=>
 A.ret _ (x2.1,x4.1,x2.2.2.1,x3.1,()))<|
 A.cl RF RG (A.arith .sub .i64 x2.1 x2.2.1,A.arith .sub .i64 (A.arith .add .i64 x2.1 x2.2.2.1) x2.2.1,x2.2.1,x2.2.2.2.1,()) fun x3=>
 A.l1 .i (A.arith .sub .i64 x2.2.2.1 x2.2.1) fun x4=>
 A.ret _ (x2.1,x2.2.1,x4.1,x3.1,())) fun x3=>
 A.inl _ (x3.1,x3.2.1,x3.2.2.1,x3.2.2.2.1,()))<|
 A.inr _<|A.cl RF RG (A.arith .sub .i64 x2.1 x2.2.1,x2.1,x2.2.1,x2.2.2.2.1,()) fun x3=>
 A.ret _ (x3.1,())) (x.2.1,x0.1,x1.1,x.2.2.2.1,())
def F3 (A:Alg) (ND:Pt A BS) (NG:Ft A BS) (afT:Pt A Fh) (afU:Ft A Fh) (F4:Pt A nA) (F5:Ft A nA) (x:Tup A.ah [.i,.i,.i,.l .mono]):Ot A nA:=
 A.cond (A.cmp .eql (A.arith .sub .i64 x.2.1 x.1) (A.lit 1)) (A.l1 .i x.2.1 fun x0=>
 A.l1 .i x.2.2.1 fun x1=>
 A.iter [.i,.i,.i,.l .mono] (fun x2=>
 A.cond (A.cmp .lss x2.2.1 x2.2.2.1) (A.chk (A.cmp .leq (A.lit 0) (A.lit 1))<|
 A.l1 .i (A.conv .i64 (A.arith .shr .u64 (A.conv .u64 (A.arith .add .i64 x2.2.1 x2.2.2.1)) (A.lit 1))) fun x3=>
 A.bd .mono x2.2.2.2.1 x3.1<|
 A.bd .mono x2.2.2.2.1 x3.1<|
 A.bd .mono x2.2.2.2.1 x2.1<|
 A.bd .mono x2.2.2.2.1 x2.1<|
 A.cl ND NG (A.get .mono x2.2.2.2.1 x3.1,A.get .mono x2.2.2.2.1 x2.1,()) fun x4=>
 A.bind [.i,.i,.i,.l .mono] (A.cond (A.cmp .lss x4.1 (A.lit 0)) (A.l1 .i (A.arith .add .i64 x3.1 (A.lit 1)) fun x5=>
 A.ret _ (x2.1,x5.1,x2.2.2.1,x2.2.2.2.1,()))<|
 A.l1 .i x3.1 fun x5=>
 A.ret _ (x2.1,x2.2.1,x5.1,x2.2.2.2.1,())) fun x5=>
 A.inl _ (x5.1,x5.2.1,x5.2.2.1,x5.2.2.2.1,()))<|
 A.inr _<|A.l1 .i x2.1 fun x3=>
 A.iter [.i,.i,.l .mono] (fun x4=>
 A.cond (A.cmp .lss x4.2.1 (A.arith .sub .i64 x4.1 (A.lit 1))) (A.bd .mono x4.2.2.1 (A.arith .add .i64 x4.2.1 (A.lit 1))<|
 A.bd .mono x4.2.2.1 (A.arith .add .i64 x4.2.1 (A.lit 1))<|
 A.bd .mono x4.2.2.1 x4.2.1<|
 A.bd .mono x4.2.2.1 x4.2.1<|
 A.bd .mono x4.2.2.1 x4.2.1<|
 A.bd .mono x4.2.2.1 x4.2.1<|
 A.l1 (.x .mono) (A.get .mono x4.2.2.1 (A.arith .add .i64 x4.2.1 (A.lit 1))) fun x5=>
 A.bd .mono (A.set .mono x4.2.2.1 x4.2.1 x5.1) (A.arith .add .i64 x4.2.1 (A.lit 1))<|
 A.bd .mono (A.set .mono x4.2.2.1 x4.2.1 x5.1) (A.arith .add .i64 x4.2.1 (A.lit 1))<|
 A.l1 (.x .mono) (A.get .mono x4.2.2.1 x4.2.1) fun x6=>
 A.l1 .i (A.arith .add .i64 x4.2.1 (A.lit 1)) fun x7=>
 A.inl _ (x4.1,x7.1,A.set .mono (A.set .mono x4.2.2.1 x4.2.1 x5.1) (A.arith .add .i64 x4.2.1 (A.lit 1)) x6.1,()))<|
 A.inr _<|A.ret _ (x4.2.2.1,())) (x2.2.1,x3.1,x2.2.2.2.1,())) (x.1,x0.1,x1.1,x.2.2.2.1,()))<|
 A.cond (A.cmp .eql (A.arith .sub .i64 x.2.2.1 x.2.1) (A.lit 1)) (A.l1 .i x.1 fun x0=>
 A.l1 .i x.2.1 fun x1=>
 A.iter [.i,.i,.i,.l .mono] (fun x2=>
 A.cond (A.cmp .lss x2.2.1 x2.2.2.1) (A.chk (A.cmp .leq (A.lit 0) (A.lit 1))<|
 A.l1 .i (A.conv .i64 (A.arith .shr .u64 (A.conv .u64 (A.arith .add .i64 x2.2.1 x2.2.2.1)) (A.lit 1))) fun x3=>
 A.bd .mono x2.2.2.2.1 x2.1<|
 A.bd .mono x2.2.2.2.1 x2.1<|
 A.bd .mono x2.2.2.2.1 x3.1<|
 A.bd .mono x2.2.2.2.1 x3.1<|
 A.cl ND NG (A.get .mono x2.2.2.2.1 x2.1,A.get .mono x2.2.2.2.1 x3.1,()) fun x4=>
 A.bind [.i,.i,.i,.l .mono] (A.cond (A.aB (A.cmp .lss x4.1 (A.lit 0))) (A.l1 .i (A.arith .add .i64 x3.1 (A.lit 1)) fun x5=>
 A.ret _ (x2.1,x5.1,x2.2.2.1,x2.2.2.2.1,()))<|
 A.l1 .i x3.1 fun x5=>
 A.ret _ (x2.1,x2.2.1,x5.1,x2.2.2.2.1,())) fun x5=>
 A.inl _ (x5.1,x5.2.1,x5.2.2.1,x5.2.2.2.1,()))<|
 A.inr _<|A.l1 .i x2.1 fun x3=>
 A.iter [.i,.i,.l .mono] (fun x4=>
 A.cond (A.cmp .gtr x4.2.1 x4.1) (A.bd .mono x4.2.2.1 (A.arith .sub .i64 x4.2.1 (A.lit 1))<|
 A.bd .mono x4.2.2.1 (A.arith .sub .i64 x4.2.1 (A.lit 1))<|
 A.bd .mono x4.2.2.1 x4.2.1<|
 A.bd .mono x4.2.2.1 x4.2.1<|
 A.bd .mono x4.2.2.1 x4.2.1<|
 A.bd .mono x4.2.2.1 x4.2.1<|
 A.l1 (.x .mono) (A.get .mono x4.2.2.1 (A.arith .sub .i64 x4.2.1 (A.lit 1))) fun x5=>
 A.bd .mono (A.set .mono x4.2.2.1 x4.2.1 x5.1) (A.arith .sub .i64 x4.2.1 (A.lit 1))<|
 A.bd .mono (A.set .mono x4.2.2.1 x4.2.1 x5.1) (A.arith .sub .i64 x4.2.1 (A.lit 1))<|
 A.l1 (.x .mono) (A.get .mono x4.2.2.1 x4.2.1) fun x6=>
 A.l1 .i (A.arith .sub .i64 x4.2.1 (A.lit 1)) fun x7=>
 A.inl _ (x4.1,x7.1,A.set .mono (A.set .mono x4.2.2.1 x4.2.1 x5.1) (A.arith .sub .i64 x4.2.1 (A.lit 1)) x6.1,()))<|
 A.inr _<|A.ret _ (x4.2.2.1,())) (x2.2.1,x3.1,x2.2.2.2.1,())) (x.2.1,x0.1,x1.1,x.2.2.2.1,()))<|
 A.chk (A.cmp .leq (A.lit 0) (A.lit 1))<|
 A.l1 .i (A.conv .i64 (A.arith .shr .u64 (A.conv .u64 (A.arith .add .i64 x.1 x.2.2.1)) (A.lit 1))) fun x0=>
 A.l1 .i (A.arith .add .i64 x0.1 x.2.1) fun x1=>
 A.l1 .i (A.lit 0) fun x2=>
 A.l1 .i (A.lit 0) fun x3=>
 A.bind [.i,.i,.i,.i,.i,.i,.i,.l .mono] (A.cond (A.cmp .gtr x.2.1 x0.1) (A.l1 .i (A.arith .sub .i64 x1.1 x.2.2.1) fun x4=>
 A.l1 .i x0.1 fun x5=>
 A.ret _ (x.1,x.2.1,x.2.2.1,x0.1,x1.1,x4.1,x5.1,x.2.2.2.1,()))<|
 A.l1 .i x.1 fun x4=>
 A.l1 .i x.2.1 fun x5=>
 A.ret _ (x.1,x.2.1,x.2.2.1,x0.1,x1.1,x4.1,x5.1,x.2.2.2.1,())) fun x4=>
 A.l1 .i (A.arith .sub .i64 x4.q.1 (A.lit 1)) fun x5=>
 A.iter [.i,.i,.i,.i,.i,.i,.i,.i,.l .mono] (fun x6=>
 A.cond (A.cmp .lss x6.q.2.1 x6.q.2.2.1) (A.chk (A.cmp .leq (A.lit 0) (A.lit 1))<|
 A.l1 .i (A.conv .i64 (A.arith .shr .u64 (A.conv .u64 (A.arith .add .i64 x6.q.2.1 x6.q.2.2.1)) (A.lit 1))) fun x7=>
 A.bd .mono x6.o.1 (A.arith .sub .i64 x6.q.2.2.2.1 x7.1)<|
 A.bd .mono x6.o.1 (A.arith .sub .i64 x6.q.2.2.2.1 x7.1)<|
 A.bd .mono x6.o.1 x7.1<|
 A.bd .mono x6.o.1 x7.1<|
 A.cl ND NG (A.get .mono x6.o.1 (A.arith .sub .i64 x6.q.2.2.2.1 x7.1),A.get .mono x6.o.1 x7.1,()) fun x8=>
 A.bind [.i,.i,.i,.i,.i,.i,.i,.i,.l .mono] (A.cond (A.aB (A.cmp .lss x8.1 (A.lit 0))) (A.l1 .i (A.arith .add .i64 x7.1 (A.lit 1)) fun x9=>
 A.ret _ (x6.1,x6.2.1,x6.2.2.1,x6.2.2.2.1,x6.q.1,x9.1,x6.q.2.2.1,x6.q.2.2.2.1,x6.o.1,()))<|
 A.l1 .i x7.1 fun x9=>
 A.ret _ (x6.1,x6.2.1,x6.2.2.1,x6.2.2.2.1,x6.q.1,x6.q.2.1,x9.1,x6.q.2.2.2.1,x6.o.1,())) fun x9=>
 A.inl _ (x9.1,x9.2.1,x9.2.2.1,x9.2.2.2.1,x9.q.1,x9.q.2.1,x9.q.2.2.1,x9.q.2.2.2.1,x9.o.1,()))<|
 A.inr _<|A.l1 .i (A.arith .sub .i64 x6.q.1 x6.q.2.1) fun x7=>
 A.bind [.i,.i,.i,.i,.i,.l .mono] (A.cond (A.ak (A.cmp .lss x6.q.2.1 x6.2.1) (A.cmp .lss x6.2.1 x7.1) (A.bl false)) (A.cl afT afU (x6.q.2.1,x6.2.1,x7.1,x6.o.1,()) fun x8=>
 A.ret _ (x6.1,x6.2.2.1,x6.2.2.2.1,x6.q.2.1,x7.1,x8.1,()))<|
 A.ret _ (x6.1,x6.2.2.1,x6.2.2.2.1,x6.q.2.1,x7.1,x6.o.1,())) fun x8=>
 A.bind [.i,.i,.i,.l .mono] (A.cond (A.ak (A.cmp .lss x8.1 x8.2.2.2.1) (A.cmp .lss x8.2.2.2.1 x8.2.2.1) (A.bl false)) (A.cl F4 F5 (x8.1,x8.2.2.2.1,x8.2.2.1,x8.q.2.1,()) fun x9=>
 A.ret _ (x8.2.1,x8.2.2.1,x8.q.1,x9.1,()))<|
 A.ret _ (x8.2.1,x8.2.2.1,x8.q.1,x8.q.2.1,())) fun x9=>
 A.bind [.l .mono] (A.cond (A.ak (A.cmp .lss x9.2.1 x9.2.2.1) (A.cmp .lss x9.2.2.1 x9.1) (A.bl false)) (A.cl F4 F5 (x9.2.1,x9.2.2.1,x9.1,x9.2.2.2.1,()) fun x10=>
 A.ret _ (x10.1,()))<|
 A.ret _ (x9.2.2.2.1,())) fun x10=>
 A.ret _ (x10.1,())) (x4.1,x4.2.1,x4.2.2.1,x4.2.2.2.1,x4.q.1,x4.q.2.1,x4.q.2.2.1,x5.1,x4.q.2.2.2.1,())
def RH (A:Alg) (Y6:Pt A Fe) (Y7:Ft A Fe) (F4:Pt A nA) (F5:Ft A nA) (x:Tup A.ah [.i,.l .mono]):Ot A Fj:=
 A.l1 .i (A.lit 20) fun x0=>
 A.l1 .i (A.lit 0) fun x1=>
 A.l1 .i x0.1 fun x2=>
 A.iter [.i,.i,.i,.i,.l .mono] (fun x3=>
 A.cond (A.cmp .leq x3.2.2.2.1 x3.1) (A.cl Y6 Y7 (x3.2.2.1,x3.2.2.2.1,x3.q.1,()) fun x4=>
 A.l1 .i x3.2.2.2.1 fun x5=>
 A.l1 .i (A.arith .add .i64 x3.2.2.2.1 x3.2.1) fun x6=>
 A.inl _ (x3.1,x3.2.1,x5.1,x6.1,x4.1,()))<|
 A.inr _<|A.cl Y6 Y7 (x3.2.2.1,x3.1,x3.q.1,()) fun x4=>
 A.iter [.i,.i,.l .mono] (fun x5=>
 A.cond (A.cmp .lss x5.2.1 x5.1) (A.l1 .i (A.lit 0) fun x6=>
 A.l1 .i (A.arith .mul .i64 (A.lit 2) x5.2.1) fun x7=>
 A.iter [.i,.i,.i,.i,.l .mono] (fun x8=>
 A.cond (A.cmp .leq x8.2.2.2.1 x8.1) (A.cl F4 F5 (x8.2.2.1,A.arith .add .i64 x8.2.2.1 x8.2.1,x8.2.2.2.1,x8.q.1,()) fun x9=>
 A.l1 .i x8.2.2.2.1 fun x10=>
 A.l1 .i (A.arith .add .i64 x8.2.2.2.1 (A.arith .mul .i64 (A.lit 2) x8.2.1)) fun x11=>
 A.inl _ (x8.1,x8.2.1,x10.1,x11.1,x9.1,()))<|
 A.inr _<|A.l1 .i (A.arith .add .i64 x8.2.2.1 x8.2.1) fun x9=>
 A.bind [.i,.i,.l .mono] (A.cond (A.cmp .lss x9.1 x8.1) (A.cl F4 F5 (x8.2.2.1,x9.1,x8.1,x8.q.1,()) fun x10=>
 A.ret _ (x8.1,x8.2.1,x10.1,()))<|
 A.ret _ (x8.1,x8.2.1,x8.q.1,())) fun x10=>
 A.l1 .i (A.arith .mul .i64 x10.2.1 (A.lit 2)) fun x11=>
 A.inl _ (x10.1,x11.1,x10.2.2.1,())) (x5.1,x5.2.1,x6.1,x7.1,x5.2.2.1,()))<|
 A.inr _<|A.ret _ (x5.2.2.1,())) (x3.1,x3.2.1,x4.1,())) (x.1,x0.1,x1.1,x2.1,x.2.1,())
def RJ (A:Alg) (afV:Pt A Fj) (afW:Ft A Fj) (x:Tup A.ah [.l .mono]):Ot A Fp:=
 A.cl afV afW (A.len .mono x.1,x.1,()) fun x0=>
 A.ret _ (x0.1,())
def Y8 (A:Alg) (FW:Pt A ow) (FX:Ft A ow) (lD:Pt A iL) (lF:Ft A iL) (FY:Pt A uO) (FZ:Ft A uO) (YN:Pt A BO) (YO:Ft A BO) (afX:Pt A Fp) (afY:Ft A Fp) (x:Tup A.ah [.l .mono]):Ot A BU:=
 A.l1 .b (A.bl false) fun x0=>
 A.cl afX afY (x.1,()) fun x1=>
 A.l1 .i (A.lit 0) fun x2=>
 A.iter [.i,.l .mono,.l .mono] (fun x3=>
 A.cond (A.cmp .lss x3.1 (A.len .mono x3.2.1)) (A.bd .mono x3.2.1 x3.1<|
 A.bd .mono x3.2.1 x3.1<|
 A.l1 .i (A.lit 0) fun x4=>
 A.l1 (.x .mono) (A.get .mono x3.2.1 x3.1) fun x5=>
 A.iter [.i,.i,.l .mono,.x .mono,.l .mono] (fun x6=>
 A.chk (A.orB (A.aB (A.cmp .lss x6.1 (A.len .mono x6.2.2.1))) (A.cmp .leq (A.lit 0) x6.1))<|
 A.chk (A.orB (A.aB (A.cmp .lss x6.1 (A.len .mono x6.2.2.1))) (A.cmp .lss x6.1 (A.len .mono x6.2.2.1)))<|
 A.chk (A.orB (A.aB (A.cmp .lss x6.1 (A.len .mono x6.2.2.1))) (A.cmp .leq (A.lit 0) x6.1))<|
 A.chk (A.orB (A.aB (A.cmp .lss x6.1 (A.len .mono x6.2.2.1))) (A.cmp .lss x6.1 (A.len .mono x6.2.2.1)))<|
 A.cg (A.cmp .lss x6.1 (A.len .mono x6.2.2.1)) FW FX (A.fL .mono 1 .i64 x6.2.2.2.1,A.fL .mono 1 .i64 (A.get .mono x6.2.2.1 x6.1),()) fun x7=>
 A.cond (A.ak (A.cmp .lss x6.1 (A.len .mono x6.2.2.1)) (A.cmp .eql x7.1 (A.lit 0)) (A.bl false)) (A.bd .mono x6.2.2.1 x6.1<|
 A.bd .mono x6.2.2.1 x6.1<|
 A.cl FY FZ (A.arith .add .i64 x6.2.1 (A.fI .mono 0 (A.get .mono x6.2.2.1 x6.1)),()) fun x8=>
 A.l1 .i x8.1 fun x9=>
 A.l1 .i (A.arith .add .i64 x6.1 (A.lit 1)) fun x10=>
 A.inl _ (x10.1,x9.1,x6.2.2.1,x6.2.2.2.1,x6.q.1,()))<|
 A.inr _<|A.bind [.i,.l .mono,.l .mono] (A.cond (A.cmp .gtr x6.2.1 (A.lit 0)) (A.cl YN YO (A.fL .mono 1 .i64 x6.2.2.2.1,()) fun x8=>
 A.l1 (.l .mono) (A.lst .mono [A.mkX .mono (x6.2.1,x8.1,())]) fun x9=>
 A.chk (A.cmp .leq (A.addN (A.len .mono x6.q.1) (A.len .mono x9.1)) (A.lit 1073741824))<|
 A.l1 (.l .mono) (A.app .mono x6.q.1 x9.1) fun x10=>
 A.ret _ (x6.1,x6.2.2.1,x10.1,()))<|
 A.ret _ (x6.1,x6.2.2.1,x6.q.1,())) fun x8=>
 A.inl _ (x8.1,x8.2.1,x8.2.2.1,())) (x3.1,x4.1,x3.2.1,x5.1,x3.2.2.1,()))<|
 A.inr _<|A.cl lD lF (A.mkX .poly (x3.2.2.1,()),()) fun x4=>
 A.cond (A.aB x4.1) (A.l1 .b (A.bl false) fun x5=>
 A.ret _ (x5.1,x3.2.1,A.cu .mono,()))<|
 A.l1 .b (A.bl true) fun x5=>
 A.ret _ (x5.1,x3.2.1,x3.2.2.1,())) (x2.1,x1.1,A.cu .mono,())
def RL (A:Alg) (x:Tup A.ah [.i]):Ot A Fq:=
 A.cond (A.cmp .lss x.1 (A.lit 0)) (A.fail)<|
 A.l1 .i (A.arith .sub .i64 x.1 (A.arith .sub .i64 (A.lit 0) (A.lit 0))) fun x0=>
 A.bind [.l .mono] (A.cond (A.cmp .gtr x0.1 (A.lit 0)) (A.chk (A.cmp .eql (A.lit 0) (A.lit 0))<|
 A.chk (A.cmp .eql (A.lit 0) (A.lit 0))<|
 A.chk (A.cmp .leq (A.lit 0) x0.1)<|
 A.chk (A.cmp .leq x0.1 (A.lit 1073741824))<|
 A.chk (A.cmp .leq (A.len .mono (A.rep .mono x0.1 (A.mkX .mono (A.lit 0,A.cu .i64,())))) (A.lit 1073741824))<|
 A.l1 (.l .mono) (A.rep .mono x0.1 (A.mkX .mono (A.lit 0,A.cu .i64,()))) fun x1=>
 A.chk (A.cmp .leq (A.lit 0) (A.lit 0))<|
 A.chk (A.cmp .leq (A.lit 0) (A.lit 0))<|
 A.chk (A.cmp .leq (A.lit 0) (A.len .mono x1.1))<|
 A.chk (A.cmp .eql (A.lit 0) (A.lit 0))<|
 A.chk (A.cmp .leq (A.lit 0) (A.Cv (A.lit 0) (A.lit 0)))<|
 A.chk (A.cmp .leq (A.Cv (A.lit 0) (A.lit 0)) (A.len .mono x1.1))<|
 A.ret _ (A.sub .mono x1.1 (A.lit 0) (A.Cv (A.lit 0) (A.lit 0)),()))<|
 A.ret _ (A.cu .mono,())) fun x1=>
 A.ret _ (x1.1,())
def Y9 (A:Alg) (afZ:Pt A Fq) (af0:Ft A Fq) (x:Tup A.ah [.l .poly]):Ot A Ng:=
 A.l1 .i (A.lit 0) fun x0=>
 A.iter [.l .poly,.i,.l .poly,.i,.i] (fun x1=>
 A.cond (A.cmp .lss x1.q.1 x1.2.2.2.1) (A.bd .poly x1.2.2.1 x1.q.1<|
 A.l1 (.l .mono) (A.fL .poly 0 .mono (A.get .poly x1.2.2.1 x1.q.1)) fun x2=>
 A.l1 .i (A.arith .add .i64 x1.2.1 (A.len .mono x2.1)) fun x3=>
 A.cond (A.cmp .lss x3.1 (A.lit 0)) (A.fail)<|
 A.inl _ (x1.1,x3.1,x1.2.2.1,x1.2.2.2.1,A.arith .add .i64 x1.q.1 (A.lit 1),()))<|
 A.inr _<|A.cl afZ af0 (x1.2.1,()) fun x2=>
 A.iter [.l .poly,.i,.i,.l .mono] (fun x3=>
 A.cond (A.cmp .lss x3.2.2.1 x3.2.1) (A.bd .poly x3.1 x3.2.2.1<|
 A.l1 (.l .mono) (A.fL .poly 0 .mono (A.get .poly x3.1 x3.2.2.1)) fun x4=>
 A.chk (A.cmp .leq (A.addN (A.len .mono x3.2.2.2.1) (A.len .mono x4.1)) (A.lit 1073741824))<|
 A.l1 (.l .mono) (A.app .mono x3.2.2.2.1 x4.1) fun x5=>
 A.inl _ (x3.1,x3.2.1,A.arith .add .i64 x3.2.2.1 (A.lit 1),x5.1,()))<|
 A.inr _<|A.ret _ (x3.2.2.2.1,())) (x1.1,A.len .poly x1.1,A.lit 0,x2.1,())) (x.1,x0.1,x.1,A.len .poly x.1,A.lit 0,())
def Za (A:Alg) (lD:Pt A iL) (lF:Ft A iL) (Zb:Pt A BU) (Zc:Ft A BU) (alQ:Pt A Ng) (alR:Ft A Ng) (x:Tup A.ah [.x .poly,.x .poly]):Ot A Nh:=
 A.l1 .b (A.bl false) fun x0=>
 A.cl lD lF (x.1,()) fun x1=>
 A.cg (A.aB (A.aB x1.1)) lD lF (x.2.1,()) fun x2=>
 A.cond (A.ak (A.aB x1.1) (A.bl true) (A.aB x2.1)) (A.l1 .b (A.bl false) fun x3=>
 A.ret _ (x3.1,A.cu .mono,()))<|
 A.l1 (.l .poly) (A.lst .poly [A.mkX .poly (A.fL .poly 0 .mono x.1,()),A.mkX .poly (A.fL .poly 0 .mono x.2.1,())]) fun x3=>
 A.cl alQ alR (x3.1,()) fun x4=>
 A.cl Zb Zc (x4.1,()) fun x5=>
 A.l1 .b x5.1 fun x6=>
 A.ret _ (x6.1,x5.2.2.1,())
def RN (A:Alg) (x:Tup A.ah [.i]):Ot A Fu:=
 A.cond (A.cmp .lss x.1 (A.lit 0)) (A.fail)<|
 A.l1 .i (A.arith .sub .i64 x.1 (A.arith .sub .i64 (A.lit 0) (A.lit 0))) fun x0=>
 A.bind [.l .i64] (A.cond (A.cmp .gtr x0.1 (A.lit 0)) (A.chk (A.cmp .eql (A.lit 0) (A.lit 0))<|
 A.chk (A.cmp .eql (A.lit 0) (A.lit 0))<|
 A.chk (A.cmp .leq (A.lit 0) x0.1)<|
 A.chk (A.cmp .leq x0.1 (A.lit 1073741824))<|
 A.chk (A.cmp .leq (A.len .i64 (A.rep .i64 x0.1 (A.mkX .i64 (A.lit 0,())))) (A.lit 1073741824))<|
 A.l1 (.l .i64) (A.rep .i64 x0.1 (A.mkX .i64 (A.lit 0,()))) fun x1=>
 A.chk (A.cmp .leq (A.lit 0) (A.lit 0))<|
 A.chk (A.cmp .leq (A.lit 0) (A.lit 0))<|
 A.chk (A.cmp .leq (A.lit 0) (A.len .i64 x1.1))<|
 A.chk (A.cmp .eql (A.lit 0) (A.lit 0))<|
 A.chk (A.cmp .leq (A.lit 0) (A.Cv (A.lit 0) (A.lit 0)))<|
 A.chk (A.cmp .leq (A.Cv (A.lit 0) (A.lit 0)) (A.len .i64 x1.1))<|
 A.ret _ (A.sub .i64 x1.1 (A.lit 0) (A.Cv (A.lit 0) (A.lit 0)),()))<|
 A.ret _ (A.cu .i64,())) fun x1=>
 A.ret _ (x1.1,())
def RO (A:Alg) (af2:Pt A Fu) (af3:Ft A Fu) (x:Tup A.ah [.l .ints]):Ot A Fv:=
 A.l1 .i (A.lit 0) fun x0=>
 A.iter [.l .ints,.i,.l .ints,.i,.i] (fun x1=>
 A.cond (A.cmp .lss x1.q.1 x1.2.2.2.1) (A.bd .ints x1.2.2.1 x1.q.1<|
 A.l1 (.l .i64) (A.fL .ints 0 .i64 (A.get .ints x1.2.2.1 x1.q.1)) fun x2=>
 A.l1 .i (A.arith .add .i64 x1.2.1 (A.len .i64 x2.1)) fun x3=>
 A.cond (A.cmp .lss x3.1 (A.lit 0)) (A.fail)<|
 A.inl _ (x1.1,x3.1,x1.2.2.1,x1.2.2.2.1,A.arith .add .i64 x1.q.1 (A.lit 1),()))<|
 A.inr _<|A.cl af2 af3 (x1.2.1,()) fun x2=>
 A.iter [.l .ints,.i,.i,.l .i64] (fun x3=>
 A.cond (A.cmp .lss x3.2.2.1 x3.2.1) (A.bd .ints x3.1 x3.2.2.1<|
 A.l1 (.l .i64) (A.fL .ints 0 .i64 (A.get .ints x3.1 x3.2.2.1)) fun x4=>
 A.chk (A.cmp .leq (A.addN (A.len .i64 x3.2.2.2.1) (A.len .i64 x4.1)) (A.lit 1073741824))<|
 A.l1 (.l .i64) (A.app .i64 x3.2.2.2.1 x4.1) fun x5=>
 A.inl _ (x3.1,x3.2.1,A.arith .add .i64 x3.2.2.1 (A.lit 1),x5.1,()))<|
 A.inr _<|A.ret _ (x3.2.2.2.1,())) (x1.1,A.len .ints x1.1,A.lit 0,x2.1,())) (x.1,x0.1,x.1,A.len .ints x.1,A.lit 0,())
def RQ (A:Alg) (Yn:Pt A E5) (Yo:Ft A E5) (x:Tup A.ah [.i,.i,.l .i64]):Ot A Fw:=
 A.l1 .i (A.arith .add .i64 x.1 (A.lit 1)) fun x0=>
 A.iter [.i,.i,.i,.l .i64] (fun x1=>
 A.cond (A.cmp .lss x1.2.2.1 x1.2.1) (A.l1 .i x1.2.2.1 fun x2=>
 A.iter [.i,.i,.i,.i,.l .i64] (fun x3=>
 A.chk (A.orB (A.aB (A.cmp .gtr x3.2.2.2.1 x3.1)) (A.cmp .leq (A.lit 0) x3.2.2.2.1))<|
 A.chk (A.orB (A.aB (A.cmp .gtr x3.2.2.2.1 x3.1)) (A.cmp .lss x3.2.2.2.1 (A.len .i64 x3.q.1)))<|
 A.chk (A.orB (A.aB (A.cmp .gtr x3.2.2.2.1 x3.1)) (A.cmp .leq (A.lit 0) x3.2.2.2.1))<|
 A.chk (A.orB (A.aB (A.cmp .gtr x3.2.2.2.1 x3.1)) (A.cmp .lss x3.2.2.2.1 (A.len .i64 x3.q.1)))<|
 A.chk (A.orB (A.aB (A.cmp .gtr x3.2.2.2.1 x3.1)) (A.cmp .leq (A.lit 0) (A.arith .sub .i64 x3.2.2.2.1 (A.lit 1))))<|
 A.chk (A.orB (A.aB (A.cmp .gtr x3.2.2.2.1 x3.1)) (A.cmp .lss (A.arith .sub .i64 x3.2.2.2.1 (A.lit 1)) (A.len .i64 x3.q.1)))<|
 A.chk (A.orB (A.aB (A.cmp .gtr x3.2.2.2.1 x3.1)) (A.cmp .leq (A.lit 0) (A.arith .sub .i64 x3.2.2.2.1 (A.lit 1))))<|
 A.chk (A.orB (A.aB (A.cmp .gtr x3.2.2.2.1 x3.1)) (A.cmp .lss (A.arith .sub .i64 x3.2.2.2.1 (A.lit 1)) (A.len .i64 x3.q.1)))<|
 A.cg (A.cmp .gtr x3.2.2.2.1 x3.1) Yn Yo (A.fI .i64 0 (A.get .i64 x3.q.1 x3.2.2.2.1),A.fI .i64 0 (A.get .i64 x3.q.1 (A.arith .sub .i64 x3.2.2.2.1 (A.lit 1))),()) fun x4=>
 A.cond (A.ak (A.cmp .gtr x3.2.2.2.1 x3.1) x4.1 (A.bl false)) (A.bd .i64 x3.q.1 (A.arith .sub .i64 x3.2.2.2.1 (A.lit 1))<|
 A.bd .i64 x3.q.1 (A.arith .sub .i64 x3.2.2.2.1 (A.lit 1))<|
 A.bd .i64 x3.q.1 x3.2.2.2.1<|
 A.bd .i64 x3.q.1 x3.2.2.2.1<|
 A.bd .i64 x3.q.1 x3.2.2.2.1<|
 A.bd .i64 x3.q.1 x3.2.2.2.1<|
 A.l1 .i (A.fI .i64 0 (A.get .i64 x3.q.1 (A.arith .sub .i64 x3.2.2.2.1 (A.lit 1)))) fun x5=>
 A.bd .i64 (A.set .i64 x3.q.1 x3.2.2.2.1 (A.mkX .i64 (x5.1,()))) (A.arith .sub .i64 x3.2.2.2.1 (A.lit 1))<|
 A.bd .i64 (A.set .i64 x3.q.1 x3.2.2.2.1 (A.mkX .i64 (x5.1,()))) (A.arith .sub .i64 x3.2.2.2.1 (A.lit 1))<|
 A.l1 .i (A.fI .i64 0 (A.get .i64 x3.q.1 x3.2.2.2.1)) fun x6=>
 A.l1 .i (A.arith .sub .i64 x3.2.2.2.1 (A.lit 1)) fun x7=>
 A.inl _ (x3.1,x3.2.1,x3.2.2.1,x7.1,A.set .i64 (A.set .i64 x3.q.1 x3.2.2.2.1 (A.mkX .i64 (x5.1,()))) (A.arith .sub .i64 x3.2.2.2.1 (A.lit 1)) (A.mkX .i64 (x6.1,())),()))<|
 A.inr _<|A.l1 .i (A.arith .add .i64 x3.2.2.1 (A.lit 1)) fun x5=>
 A.inl _ (x3.1,x3.2.1,x5.1,x3.q.1,())) (x1.1,x1.2.1,x1.2.2.1,x2.1,x1.2.2.2.1,()))<|
 A.inr _<|A.ret _ (x1.2.2.2.1,())) (x.1,x.2.1,x0.1,x.2.2.1,())
def RS (A:Alg) (Yn:Pt A E5) (Yo:Ft A E5) (af4:Pt A Fw) (af5:Ft A Fw) (af6:Pt A Fx) (af7:Ft A Fx) (af8:Pt A Fy) (af9:Ft A Fy) (aga:Pt A Fz) (agb:Ft A Fz) (agc:Pt A FB) (agd:Ft A FB) (agf:Pt A FC) (agh:Ft A FC) (agi:Pt A FD) (agj:Ft A FD) (agk:Pt A FH) (agl:Ft A FH) (Kw:Pt A oW) (Ky:Ft A oW) (x:Tup A.ah [.i,.i,.i,.l .i64]):Ot A oW:=
 A.l1 .b (A.bl true) fun x0=>
 A.l1 .b (A.bl true) fun x1=>
 A.iter [.i,.i,.i,.b,.b,.l .i64] (fun x2=>
 A.lu [.i,.i,.i,.b,.b,.l .i64] (A.l1 .i (A.arith .sub .i64 x2.2.1 x2.1) fun x3=>
 A.cond (A.cmp .leq x3.1 (A.lit 12)) (A.cl af4 af5 (x2.1,x2.2.1,x2.q.2.1,()) fun x4=>
 A.inr _<|A.inr _<|A.ret _ (x4.1,()))<|
 A.cond (A.cmp .eql x2.2.2.1 (A.lit 0)) (A.cl af6 af7 (x2.1,x2.2.1,x2.q.2.1,()) fun x4=>
 A.inr _<|A.inr _<|A.ret _ (x4.1,()))<|
 A.bind [.i,.i,.i,.b,.b,.i,.l .i64] (A.cond (A.aB x2.2.2.2.1) (A.cl af8 af9 (x2.1,x2.2.1,x2.q.2.1,()) fun x4=>
 A.l1 .i (A.arith .sub .i64 x2.2.2.1 (A.lit 1)) fun x5=>
 A.ret _ (x2.1,x2.2.1,x5.1,x2.2.2.2.1,x2.q.1,x3.1,x4.1,()))<|
 A.ret _ (x2.1,x2.2.1,x2.2.2.1,x2.2.2.2.1,x2.q.1,x3.1,x2.q.2.1,())) fun x4=>
 A.cl aga agb (x4.1,x4.2.1,x4.q.2.2.1,()) fun x5=>
 A.l1 .i x5.1 fun x6=>
 A.l1 .i x5.2.1 fun x7=>
 A.bind [.i,.i,.i,.b,.b,.i,.i,.i,.l .i64] (A.cond (A.cmp .eql x7.1 (A.lit 2)) (A.cl agc agd (x4.1,x4.2.1,x5.2.2.1,()) fun x8=>
 A.l1 .i (A.arith .sub .i64 (A.arith .sub .i64 x4.2.1 (A.lit 1)) (A.arith .sub .i64 x6.1 x4.1)) fun x9=>
 A.l1 .i (A.lit 1) fun x10=>
 A.ret _ (x4.1,x4.2.1,x4.2.2.1,x4.2.2.2.1,x4.q.1,x4.q.2.1,x9.1,x10.1,x8.1,()))<|
 A.ret _ (x4.1,x4.2.1,x4.2.2.1,x4.2.2.2.1,x4.q.1,x4.q.2.1,x6.1,x7.1,x5.2.2.1,())) fun x8=>
 A.lu [.i,.i,.i,.b,.b,.i,.i,.l .i64] (A.cond (A.ak (A.ak x8.2.2.2.1 x8.q.1 (A.bl false)) (A.cmp .eql x8.q.2.2.2.1 (A.lit 1)) (A.bl false)) (A.cl agf agh (x8.1,x8.2.1,x8.o.1,()) fun x9=>
 A.cond x9.1 (A.inr _<|A.inr _<|A.inr _<|A.ret _ (x9.2.1,()))<|
 A.inl _ (x8.1,x8.2.1,x8.2.2.1,x8.2.2.2.1,x8.q.1,x8.q.2.1,x8.q.2.2.1,x9.2.1,()))<|
 A.inl _ (x8.1,x8.2.1,x8.2.2.1,x8.2.2.2.1,x8.q.1,x8.q.2.1,x8.q.2.2.1,x8.o.1,())) fun x9=>
 A.chk (A.orB (A.aB (A.cmp .gtr x9.1 (A.lit 0))) (A.cmp .leq (A.lit 0) (A.arith .sub .i64 x9.1 (A.lit 1))))<|
 A.chk (A.orB (A.aB (A.cmp .gtr x9.1 (A.lit 0))) (A.cmp .lss (A.arith .sub .i64 x9.1 (A.lit 1)) (A.len .i64 x9.q.2.2.2.1)))<|
 A.chk (A.orB (A.aB (A.cmp .gtr x9.1 (A.lit 0))) (A.cmp .leq (A.lit 0) (A.arith .sub .i64 x9.1 (A.lit 1))))<|
 A.chk (A.orB (A.aB (A.cmp .gtr x9.1 (A.lit 0))) (A.cmp .lss (A.arith .sub .i64 x9.1 (A.lit 1)) (A.len .i64 x9.q.2.2.2.1)))<|
 A.chk (A.orB (A.aB (A.cmp .gtr x9.1 (A.lit 0))) (A.cmp .leq (A.lit 0) x9.q.2.2.1))<|
 A.chk (A.orB (A.aB (A.cmp .gtr x9.1 (A.lit 0))) (A.cmp .lss x9.q.2.2.1 (A.len .i64 x9.q.2.2.2.1)))<|
 A.chk (A.orB (A.aB (A.cmp .gtr x9.1 (A.lit 0))) (A.cmp .leq (A.lit 0) x9.q.2.2.1))<|
 A.chk (A.orB (A.aB (A.cmp .gtr x9.1 (A.lit 0))) (A.cmp .lss x9.q.2.2.1 (A.len .i64 x9.q.2.2.2.1)))<|
 A.cg (A.cmp .gtr x9.1 (A.lit 0)) Yn Yo (A.fI .i64 0 (A.get .i64 x9.q.2.2.2.1 (A.arith .sub .i64 x9.1 (A.lit 1))),A.fI .i64 0 (A.get .i64 x9.q.2.2.2.1 x9.q.2.2.1),()) fun x10=>
 A.cond (A.ak (A.cmp .gtr x9.1 (A.lit 0)) (A.aB x10.1) (A.bl false)) (A.cl agi agj (x9.1,x9.2.1,x9.q.2.2.1,x9.q.2.2.2.1,()) fun x11=>
 A.l1 .i x11.1 fun x12=>
 A.l1 .i x12.1 fun x13=>
 A.inl _ (x13.1,x9.2.1,x9.2.2.1,x9.2.2.2.1,x9.q.1,x11.2.1,()))<|
 A.cl agk agl (x9.1,x9.2.1,x9.q.2.2.1,x9.q.2.2.2.1,()) fun x11=>
 A.l1 .i x11.1 fun x12=>
 A.l1 .b x11.2.1 fun x13=>
 A.l1 .b x13.1 fun x14=>
 A.l1 .i (A.arith .sub .i64 x12.1 x9.1) fun x15=>
 A.l1 .i (A.arith .sub .i64 x9.2.1 x12.1) fun x16=>
 A.chk (A.cmp .neq (A.lit 8) (A.lit 0))<|
 A.l1 .i (A.arith .quo .i64 x9.q.2.1 (A.lit 8)) fun x17=>
 A.bind [.i,.i,.i,.b,.b,.l .i64] (A.cond (A.cmp .lss x15.1 x16.1) (A.l1 .b (A.cmp .geq x15.1 x17.1) fun x18=>
 A.cl Kw Ky (x9.1,x12.1,x9.2.2.1,x11.2.2.1,()) fun x19=>
 A.l1 .i (A.arith .add .i64 x12.1 (A.lit 1)) fun x20=>
 A.ret _ (x20.1,x9.2.1,x9.2.2.1,x18.1,x14.1,x19.1,()))<|
 A.l1 .b (A.cmp .geq x16.1 x17.1) fun x18=>
 A.cl Kw Ky (A.arith .add .i64 x12.1 (A.lit 1),x9.2.1,x9.2.2.1,x11.2.2.1,()) fun x19=>
 A.l1 .i x12.1 fun x20=>
 A.ret _ (x9.1,x20.1,x9.2.2.1,x18.1,x14.1,x19.1,())) fun x18=>
 A.inl _ (x18.1,x18.2.1,x18.2.2.1,x18.2.2.2.1,x18.q.1,x18.q.2.1,())) fun x3=>
 A.inl _ (x3.1,x3.2.1,x3.2.2.1,x3.2.2.2.1,x3.q.1,x3.q.2.1,())) (x.1,x.2.1,x.2.2.1,x0.1,x1.1,x.2.2.2.1,())
def RU (A:Alg) (Kw:Pt A oW) (Ky:Ft A oW) (alS:Pt A UH) (alT:Ft A UH) (x:Tup A.ah [.l .i64]):Ot A FJ:=
 A.l1 .i (A.len .i64 x.1) fun x0=>
 A.cl alS alT (A.conv .u64 x0.1,()) fun x1=>
 A.cl Kw Ky (A.lit 0,x0.1,x1.1,x.1,()) fun x2=>
 A.ret _ (x2.1,())
def Zd (A:Alg) (lD:Pt A iL) (lF:Ft A iL) (FY:Pt A uO) (FZ:Ft A uO) (Zb:Pt A BU) (Zc:Ft A BU) (agm:Pt A Fv) (agn:Ft A Fv) (agp:Pt A FJ) (agq:Ft A FJ) (x:Tup A.ah [.x .poly,.x .poly]):Ot A BX:=
 A.l1 .b (A.bl false) fun x0=>
 A.cl lD lF (x.1,()) fun x1=>
 A.cg (A.aB (A.aB x1.1)) lD lF (x.2.1,()) fun x2=>
 A.cond (A.ak (A.aB x1.1) (A.bl true) (A.aB x2.1)) (A.l1 .b (A.bl false) fun x3=>
 A.ret _ (x3.1,A.cu .mono,()))<|
 A.iter [.l .mono,.i,.i,.x .poly,.l .mono] (fun x3=>
 A.cond (A.cmp .lss x3.2.2.1 x3.2.1) (A.bd .mono x3.1 x3.2.2.1<|
 A.l1 (.x .mono) (A.get .mono x3.1 x3.2.2.1) fun x4=>
 A.iter [.l .mono,.i,.i,.l .mono,.i,.i,.x .poly,.l .mono,.x .mono] (fun x5=>
 A.cond (A.cmp .lss x5.q.2.1 x5.q.1) (A.bd .mono x5.2.2.2.1 x5.q.2.1<|
 A.l1 (.x .mono) (A.get .mono x5.2.2.2.1 x5.q.2.1) fun x6=>
 A.l1 (.l .ints) (A.lst .ints [A.mkX .ints (A.fL .mono 1 .i64 x5.o.1,()),A.mkX .ints (A.fL .mono 1 .i64 x6.1,())]) fun x7=>
 A.cl agm agn (x7.1,()) fun x8=>
 A.cl agp agq (x8.1,()) fun x9=>
 A.cl FY FZ (A.arith .mul .i64 (A.fI .mono 0 x5.o.1) (A.fI .mono 0 x6.1),()) fun x10=>
 A.l1 (.l .mono) (A.lst .mono [A.mkX .mono (x10.1,x9.1,())]) fun x11=>
 A.chk (A.cmp .leq (A.addN (A.len .mono x5.q.2.2.2.1) (A.len .mono x11.1)) (A.lit 1073741824))<|
 A.l1 (.l .mono) (A.app .mono x5.q.2.2.2.1 x11.1) fun x12=>
 A.inl _ (x5.1,x5.2.1,x5.2.2.1,x5.2.2.2.1,x5.q.1,A.arith .add .i64 x5.q.2.1 (A.lit 1),x5.q.2.2.1,x12.1,x5.o.1,()))<|
 A.inr _<|A.inl _ (x5.1,x5.2.1,A.arith .add .i64 x5.2.2.1 (A.lit 1),x5.q.2.2.1,x5.q.2.2.2.1,())) (x3.1,x3.2.1,x3.2.2.1,A.fL .poly 0 .mono x3.2.2.2.1,A.len .mono (A.fL .poly 0 .mono x3.2.2.2.1),A.lit 0,x3.2.2.2.1,x3.q.1,x4.1,()))<|
 A.inr _<|A.cl Zb Zc (x3.q.1,()) fun x4=>
 A.l1 .b x4.1 fun x5=>
 A.ret _ (x5.1,x4.2.2.1,())) (A.fL .poly 0 .mono x.1,A.len .mono (A.fL .poly 0 .mono x.1),A.lit 0,x.2.1,A.cu .mono,())
def Ze (A:Alg) (lD:Pt A iL) (lF:Ft A iL) (NH:Pt A uN) (NI:Ft A uN) (qD:Pt A jD) (qE:Ft A jD) (Zf:Pt A BX) (Zg:Ft A BX) (x:Tup A.ah [.x .poly,.i]):Ot A Ni:=
 A.cl lD lF (x.1,()) fun x0=>
 A.cg (A.aB (A.aB x0.1)) qD qE (x.2.1,()) fun x1=>
 A.cond (A.ak (A.aB x0.1) (A.bl true) (A.aB x1.1)) (A.ret _ (A.cu .mono,()))<|
 A.cl NH NI (x.2.1,()) fun x2=>
 A.cl Zf Zg (x.1,A.mkX .poly (x2.1,()),()) fun x3=>
 A.l1 .b x3.1 fun x4=>
 A.ret _ (x3.2.1,())
def Zh (A:Alg) (lZ:Pt A jE) (l5:Ft A jE) (NH:Pt A uN) (NI:Ft A uN) (alU:Pt A Nc) (alV:Ft A Nc) (adf:Pt A Nh) (adg:Ft A Nh) (Zf:Pt A BX) (Zg:Ft A BX) (alW:Pt A Ni) (alX:Ft A Ni) (NJ:Pt A BR) (NK:Ft A BR) (x:Tup A.ah [.i,.x .poly,.x .poly]):Ot A Nj:=
 A.l1 .b (A.bl false) fun x0=>
 A.l1 .b (A.cmp .eql x.1 (A.lit 1)) fun x1=>
 A.cond x1.1 (A.cl adf adg (x.2.1,x.2.2.1,()) fun x2=>
 A.l1 .b x2.1 fun x3=>
 A.ret _ (A.mkX .poly (x2.2.1,()),x3.1,()))<|
 A.l1 .b (A.cmp .eql x.1 (A.lit 2)) fun x2=>
 A.cond x2.1 (A.cl alW alX (x.2.2.1,A.lit 65535,()) fun x3=>
 A.cl adf adg (x.2.1,A.mkX .poly (x3.1,()),()) fun x4=>
 A.l1 .b x4.1 fun x5=>
 A.ret _ (A.mkX .poly (x4.2.1,()),x5.1,()))<|
 A.l1 .b (A.cmp .eql x.1 (A.lit 3)) fun x3=>
 A.cond x3.1 (A.cl Zf Zg (x.2.1,x.2.2.1,()) fun x4=>
 A.l1 .b x4.1 fun x5=>
 A.ret _ (A.mkX .poly (x4.2.1,()),x5.1,()))<|
 A.cl NJ NK (x.2.1,()) fun x4=>
 A.l1 .i x4.1 fun x5=>
 A.l1 .b x4.2.1 fun x6=>
 A.cl NJ NK (x.2.2.1,()) fun x7=>
 A.l1 .i x7.1 fun x8=>
 A.l1 .b x7.2.1 fun x9=>
 A.l1 .b (A.ak x6.1 x9.1 (A.bl false)) fun x10=>
 A.cond x10.1 (A.cl alU alV (x.1,x5.1,x8.1,()) fun x11=>
 A.cl NH NI (x11.1,()) fun x12=>
 A.l1 .b (A.bl true) fun x13=>
 A.ret _ (A.mkX .poly (x12.1,()),x13.1,()))<|
 A.cl lZ l5 (x.2.1,x.2.2.1,()) fun x11=>
 A.l1 .b (A.ak x11.1 (A.cmp .eql x.1 (A.lit 4)) (A.bl false)) fun x12=>
 A.cond x12.1 (A.l1 (.x .poly) x.2.1 fun x13=>
 A.l1 .b (A.bl true) fun x14=>
 A.ret _ (x13.1,x14.1,()))<|
 A.cl lZ l5 (x.2.1,x.2.2.1,()) fun x13=>
 A.l1 .b x13.1 fun x14=>
 A.cond x14.1 (A.l1 .b (A.bl true) fun x15=>
 A.ret _ (A.mkX .poly (A.cu .mono,()),x15.1,()))<|
 A.bind [.i,.i,.b,.x .poly] (A.cond x6.1 (A.l1 (.x .poly) x.2.2.1 fun x15=>
 A.l1 .i x5.1 fun x16=>
 A.l1 .b (A.bl true) fun x17=>
 A.ret _ (x.1,x16.1,x17.1,x15.1,()))<|
 A.ret _ (x.1,x8.1,x9.1,x.2.1,())) fun x15=>
 A.l1 .b (A.ak (A.ak x15.2.2.1 (A.cmp .eql x15.1 (A.lit 4)) (A.bl false)) (A.cmp .eql x15.2.1 (A.lit 0)) (A.bl false)) fun x16=>
 A.cond x16.1 (A.l1 .b (A.bl true) fun x17=>
 A.ret _ (A.mkX .poly (A.cu .mono,()),x17.1,()))<|
 A.l1 .b (A.ak x15.2.2.1 (A.ak (A.ak (A.cmp .eql x15.1 (A.lit 4)) (A.cmp .eql x15.2.1 (A.lit 65535)) (A.bl false)) (A.bl true) (A.ak (A.cmp .eql x15.1 (A.lit 5)) (A.cmp .eql x15.2.1 (A.lit 0)) (A.bl false))) (A.bl false)) fun x17=>
 A.cond x17.1 (A.l1 (.x .poly) x15.2.2.2.1 fun x18=>
 A.l1 .b (A.bl true) fun x19=>
 A.ret _ (x18.1,x19.1,()))<|
 A.l1 .b (A.bl false) fun x18=>
 A.ret _ (A.mkX .poly (A.cu .mono,()),x18.1,())
def Zi (A:Alg) (NA:Pt A uL) (NC:Ft A uL) (alY:Pt A Nj) (alZ:Ft A Nj) (YI:Pt A BK) (YJ:Ft A BK) (YG:Pt A BL) (YH:Ft A BL) (x:Tup A.ah [.x .tab,.i,.x .poly,.x .poly]):Ot A Nk:=
 A.l1 .b (A.bl false) fun x0=>
 A.cl alY alZ (x.2.1,x.2.2.1,x.2.2.2.1,()) fun x1=>
 A.l1 (.x .poly) x1.1 fun x2=>
 A.l1 .b x1.2.1 fun x3=>
 A.cond x3.1 (A.l1 (.x .tab) x.1 fun x4=>
 A.l1 (.x .poly) x2.1 fun x5=>
 A.l1 .b (A.bl true) fun x6=>
 A.ret _ (x4.1,x5.1,x6.1,()))<|
 A.cg (A.cmp .neq x.2.1 (A.lit 2)) NA NC (x.2.2.1,x.2.2.2.1,()) fun x4=>
 A.bind [.i,.x .tab,.x .poly,.x .poly] (A.cond (A.ak (A.cmp .neq x.2.1 (A.lit 2)) (A.cmp .gtr x4.1 (A.lit 0)) (A.bl false)) (A.l1 (.x .poly) x.2.2.2.1 fun x5=>
 A.l1 (.x .poly) x.2.2.1 fun x6=>
 A.ret _ (x.2.1,x.1,x5.1,x6.1,()))<|
 A.ret _ (x.2.1,x.1,x.2.2.1,x.2.2.2.1,())) fun x5=>
 A.cl YI YJ (x5.2.1,A.mkX .atom (A.lit 4,x5.1,A.fL .poly 0 .mono x5.2.2.1,A.fL .poly 0 .mono x5.2.2.2.1,()),()) fun x6=>
 A.l1 (.x .tab) x6.1 fun x7=>
 A.l1 .i x6.2.1 fun x8=>
 A.cond (A.cmp .lss x8.1 (A.lit 0)) (A.l1 .b (A.bl false) fun x9=>
 A.ret _ (A.mkX .tab (A.cu .atom,()),A.mkX .poly (A.cu .mono,()),x9.1,()))<|
 A.cl YG YH (x8.1,()) fun x9=>
 A.l1 (.x .tab) x7.1 fun x10=>
 A.l1 .b (A.bl true) fun x11=>
 A.ret _ (x10.1,A.mkX .poly (x9.1,()),x11.1,())
def Zj (A:Alg) (qD:Pt A jD) (qE:Ft A jD) (x:Tup A.ah [.i,.i,.i]):Ot A Nl:=
 A.l1 .b (A.bl false) fun x0=>
 A.cl qD qE (x.2.1,()) fun x1=>
 A.cg x1.1 qD qE (x.2.2.1,()) fun x2=>
 A.rb (A.ak (A.ak x1.1 x2.1 (A.bl false)) (A.ak (A.ak (A.cmp .eql x.1 (A.lit 1)) (A.cmp .eql x.2.1 x.2.2.1) (A.bl false)) (A.bl true) (A.ak (A.cmp .eql x.1 (A.lit 2)) (A.cmp .lss x.2.1 x.2.2.1) (A.bl false))) (A.bl false))
def Zk (A:Alg) (zq:Pt A uM) (zu:Ft A uM) (x:Tup A.ah [.l .poly]):Ot A Nn:=
 A.iter [.l .poly,.i,.i,.l .poly] (fun x0=>
 A.cond (A.cmp .lss x0.2.2.1 x0.2.1) (A.bd .poly x0.1 x0.2.2.1<|
 A.l1 (.x .poly) (A.get .poly x0.1 x0.2.2.1) fun x1=>
 A.cl zq zu (x1.1,()) fun x2=>
 A.l1 (.l .poly) (A.lst .poly [A.mkX .poly (x2.1,())]) fun x3=>
 A.chk (A.cmp .leq (A.addN (A.len .poly x0.2.2.2.1) (A.len .poly x3.1)) (A.lit 1073741824))<|
 A.l1 (.l .poly) (A.app .poly x0.2.2.2.1 x3.1) fun x4=>
 A.inl _ (x0.1,x0.2.1,A.arith .add .i64 x0.2.2.1 (A.lit 1),x4.1,()))<|
 A.inr _<|A.ret _ (x0.2.2.2.1,())) (x.1,A.len .poly x.1,A.lit 0,A.cu .poly,())
def Zl (A:Alg) (zq:Pt A uM) (zu:Ft A uM) (adh:Pt A Nn) (adi:Ft A Nn) (x:Tup A.ah [.x .sym]):Ot A Np:=
 A.cl adh adi (A.fL .sym 1 .poly x.1,()) fun x0=>
 A.cl zq zu (A.mkX .poly (A.fL .sym 3 .mono x.1,()),()) fun x1=>
 A.cl zq zu (A.mkX .poly (A.fL .sym 4 .mono x.1,()),()) fun x2=>
 A.iter [.l .ev,.i,.i,.i,.i,.i,.i,.l .ev,.l .poly,.l .mono,.l .mono] (fun x3=>
 A.cond (A.cmp .lss x3.2.2.1 x3.2.1) (A.bd .ev x3.1 x3.2.2.1<|
 A.l1 (.x .ev) (A.get .ev x3.1 x3.2.2.1) fun x4=>
 A.cl zq zu (A.mkX .poly (A.fL .ev 2 .mono x4.1,()),()) fun x5=>
 A.cl zq zu (A.mkX .poly (A.fL .ev 3 .mono x4.1,()),()) fun x6=>
 A.cl adh adi (A.fL .ev 4 .poly x4.1,()) fun x7=>
 A.l1 (.l .ev) (A.lst .ev [A.mkX .ev (A.fI .ev 0 x4.1,A.fI .ev 1 x4.1,x5.1,x6.1,x7.1,())]) fun x8=>
 A.chk (A.cmp .leq (A.addN (A.len .ev x3.q.2.2.2.1) (A.len .ev x8.1)) (A.lit 1073741824))<|
 A.l1 (.l .ev) (A.app .ev x3.q.2.2.2.1 x8.1) fun x9=>
 A.inl _ (x3.1,x3.2.1,A.arith .add .i64 x3.2.2.1 (A.lit 1),x3.2.2.2.1,x3.q.1,x3.q.2.1,x3.q.2.2.1,x9.1,x3.o.1,x3.o.2.1,x3.o.2.2.1,()))<|
 A.inr _<|A.ret _ (x3.q.2.1,x3.q.2.2.1,x3.q.2.2.2.1,x3.o.1,x3.o.2.1,x3.o.2.2.1,())) (A.fL .sym 0 .ev x.1,A.len .ev (A.fL .sym 0 .ev x.1),A.lit 0,A.lit 0,A.lit 0,A.fI .sym 2 x.1,A.fI .sym 5 x.1,A.cu .ev,x0.1,x1.1,x2.1,())
def Zm (A:Alg) (NJ:Pt A BR) (NK:Ft A BR) (lD:Pt A iL) (lF:Ft A iL) (NA:Pt A uL) (NC:Ft A uL) (al0:Pt A Np) (al1:Ft A Np) (lZ:Pt A jE) (l5:Ft A jE) (al2:Pt A Nl) (al3:Ft A Nl) (x:Tup A.ah [.x .sym,.i]):Ot A Nq:=
 A.cl lD lF (A.mkX .poly (A.fL .sym 3 .mono x.1,()),()) fun x0=>
 A.cg (A.aB (A.aB x0.1)) lD lF (A.mkX .poly (A.fL .sym 4 .mono x.1,()),()) fun x1=>
 A.cond (A.ak (A.aB x0.1) (A.bl true) (A.aB x1.1)) (A.ret _ (A.mkX .sym (A.cu .ev,A.cu .poly,A.lit 0,A.cu .mono,A.cu .mono,A.lit 0,()),()))<|
 A.cl al0 al1 (x.1,()) fun x2=>
 A.cl NJ NK (A.mkX .poly (A.fL .sym 3 .mono x.1,()),()) fun x3=>
 A.l1 .i x3.1 fun x4=>
 A.l1 .b x3.2.1 fun x5=>
 A.cl NJ NK (A.mkX .poly (A.fL .sym 4 .mono x.1,()),()) fun x6=>
 A.l1 .i x6.1 fun x7=>
 A.l1 .b x6.2.1 fun x8=>
 A.l1 .i (A.arith .add .i64 (A.arith .sub .i64 (A.fI .sym 2 x.1) (A.lit 3)) (A.lit 1)) fun x9=>
 A.l1 .b (A.ak (A.cmp .eql (A.fI .sym 2 x.1) (A.lit 2)) x5.1 (A.bl false)) fun x10=>
 A.bind [.i,.i,.i,.i,.l .ev,.l .poly,.l .mono,.l .mono] (A.cond x10.1 (A.l1 .i (A.lit 1) fun x11=>
 A.l1 .i x4.1 fun x12=>
 A.ret _ (A.lit 0,A.lit 0,x11.1,x12.1,x2.2.2.1,x2.2.2.2.1,A.cu .mono,A.cu .mono,()))<|
 A.l1 .b (A.ak (A.cmp .neq (A.fI .sym 2 x.1) (A.lit 3)) (A.cmp .neq (A.fI .sym 2 x.1) (A.lit 4)) (A.bl false)) fun x11=>
 A.bind [.i,.i,.i,.i,.l .ev,.l .poly,.l .mono,.l .mono] (A.cond x11.1 (A.ret _ (A.lit 0,A.lit 0,x2.1,x2.2.1,x2.2.2.1,x2.2.2.2.1,x2.q.1,x2.q.2.1,()))<|
 A.cl lZ l5 (A.mkX .poly (A.fL .sym 3 .mono x.1,()),A.mkX .poly (A.fL .sym 4 .mono x.1,()),()) fun x12=>
 A.l1 .b (A.ak x12.1 (A.bl true) (A.ak x5.1 x8.1 (A.bl false))) fun x13=>
 A.bind [.i,.i,.i,.i,.l .ev,.l .poly,.l .mono,.l .mono] (A.cond x13.1 (A.cl lZ l5 (A.mkX .poly (A.fL .sym 3 .mono x.1,()),A.mkX .poly (A.fL .sym 4 .mono x.1,()),()) fun x14=>
 A.cg (A.mU (A.aB (A.ak x14.1 (A.cmp .eql (A.fI .sym 2 x.1) (A.lit 3)) (A.bl false))) (A.ak x5.1 x8.1 (A.bl false))) al2 al3 (x9.1,x4.1,x7.1,()) fun x15=>
 A.l1 .b (A.ak (A.ak x14.1 (A.cmp .eql (A.fI .sym 2 x.1) (A.lit 3)) (A.bl false)) (A.bl true) (A.ak (A.ak x5.1 x8.1 (A.bl false)) x15.1 (A.bl false))) fun x16=>
 A.l1 .i (A.lit 1) fun x17=>
 A.bind [.i,.i,.i,.i,.l .ev,.l .poly] (A.cond (A.aB x16.1) (A.l1 .i x.2.1 fun x18=>
 A.ret _ (A.lit 0,A.lit 0,x17.1,x18.1,x2.2.2.1,x2.2.2.2.1,()))<|
 A.ret _ (A.lit 0,A.lit 0,x17.1,x2.2.1,x2.2.2.1,x2.2.2.2.1,())) fun x18=>
 A.ret _ (x18.1,x18.2.1,x18.2.2.1,x18.2.2.2.1,x18.q.1,x18.q.2.1,A.cu .mono,A.cu .mono,()))<|
 A.cg (A.cmp .eql (A.fI .sym 2 x.1) (A.lit 3)) NA NC (A.mkX .poly (A.fL .sym 3 .mono x.1,()),A.mkX .poly (A.fL .sym 4 .mono x.1,()),()) fun x14=>
 A.l1 .b (A.ak (A.cmp .eql (A.fI .sym 2 x.1) (A.lit 3)) (A.cmp .gtr x14.1 (A.lit 0)) (A.bl false)) fun x15=>
 A.bind [.i,.i,.i,.i,.l .ev,.l .poly,.l .mono,.l .mono] (A.cond x15.1 (A.ret _ (A.lit 0,A.lit 0,x2.1,x2.2.1,x2.2.2.1,x2.2.2.2.1,x2.q.2.1,x2.q.1,()))<|
 A.ret _ (A.lit 0,A.lit 0,x2.1,x2.2.1,x2.2.2.1,x2.2.2.2.1,x2.q.1,x2.q.2.1,())) fun x16=>
 A.ret _ (x16.1,x16.2.1,x16.2.2.1,x16.2.2.2.1,x16.q.1,x16.q.2.1,x16.q.2.2.1,x16.q.2.2.2.1,())) fun x14=>
 A.ret _ (x14.1,x14.2.1,x14.2.2.1,x14.2.2.2.1,x14.q.1,x14.q.2.1,x14.q.2.2.1,x14.q.2.2.2.1,())) fun x12=>
 A.ret _ (x12.1,x12.2.1,x12.2.2.1,x12.2.2.2.1,x12.q.1,x12.q.2.1,x12.q.2.2.1,x12.q.2.2.2.1,())) fun x11=>
 A.ret _ (A.mkX .sym (x11.q.1,x11.q.2.1,x11.2.2.1,x11.q.2.2.1,x11.q.2.2.2.1,x11.2.2.2.1,()),())
def Zn (A:Alg) (Yc:Pt A BF) (Yd:Ft A BF) (UQ:Pt A BG) (UR:Ft A BG) (Zo:Pt A BQ) (Zp:Ft A BQ) (X6:Pt A Bw) (X7:Ft A Bw) (NH:Pt A uN) (NI:Ft A uN) (al4:Pt A Nq) (al5:Ft A Nq) (al6:Pt A Na) (al7:Ft A Na) (YR:Pt A BP) (YS:Ft A BP) (al8:Pt A Nk) (al9:Ft A Nk) (UN:Pt A BM) (UO:Ft A BM) (YT:Pt A BN) (YU:Ft A BN) (ama:Pt A Nb) (amb:Ft A Nb) (x:Tup A.ah [.x .tab,.x .blk]):Ot A Nr:=
 A.cl al6 al7 (x.1,()) fun x0=>
 A.cg (A.aB (A.ak (A.aB x0.1) (A.bl true) (A.cmp .gtr (A.len .atom (A.fL .tab 0 .atom x.1)) (A.lit 100)))) UQ UR (x.2.1,()) fun x1=>
 A.cond (A.ak (A.ak (A.aB x0.1) (A.bl true) (A.cmp .gtr (A.len .atom (A.fL .tab 0 .atom x.1)) (A.lit 100))) (A.bl true) (A.aB x1.1)) (A.ret _ (A.mkX .tab (A.cu .atom,()),A.mkX .sym (A.cu .ev,A.cu .poly,A.lit 0,A.cu .mono,A.cu .mono,A.lit 0,()),()))<|
 A.cl YT YU (A.fL .tab 0 .atom x.1,A.bl false,()) fun x2=>
 A.chk (A.cmp .eql (A.len .iop (A.fL .blk 2 .iop x.2.1)) (A.len .iop (A.fL .blk 2 .iop x.2.1)))<|
 A.chk (A.cmp .leq (A.lit 0) (A.len .iop (A.fL .blk 2 .iop x.2.1)))<|
 A.chk (A.cmp .leq (A.len .iop (A.fL .blk 2 .iop x.2.1)) (A.lit 1073741824))<|
 A.l1 (.l .poly) (A.rep .poly (A.len .iop (A.fL .blk 2 .iop x.2.1)) (A.mkX .poly (A.cu .mono,()))) fun x3=>
 A.l1 .i (A.lit 0) fun x4=>
 A.l1 .i (A.lit 0) fun x5=>
 A.iter [.i,.i,.l .iop,.i,.i,.x .blk,.i,.i,.l .atom,.b,.i,.i,.l .poly,.l .ev,.l .poly] (fun x6=>
 A.cond (A.cmp .lss x6.q.1 x6.2.2.2.1) (A.bd .iop x6.2.2.1 x6.q.1<|
 A.l1 .i x6.q.1 fun x7=>
 A.l1 (.x .iop) (A.get .iop x6.2.2.1 x6.q.1) fun x8=>
 A.cl X6 X7 (x8.1,()) fun x9=>
 A.l1 .b x9.1 fun x10=>
 A.l1 .b x9.2.1 fun x11=>
 A.l1 .b x9.2.2.1 fun x12=>
 A.l1 .b x9.2.2.2.1 fun x13=>
 A.bind [.i,.i,.i,.b,.l .iop,.i,.i,.x .blk,.i,.i,.l .atom,.b,.i,.i,.l .poly,.x .iop,.x .poly,.l .ev,.l .poly] (A.cond x10.1 (A.bd .poly x6.o.q.1 (A.fI .iop 1 x8.1)<|
 A.bd .poly x6.o.q.1 (A.fI .iop 1 x8.1)<|
 A.l1 (.x .poly) (A.get .poly x6.o.q.1 (A.fI .iop 1 x8.1)) fun x14=>
 A.ret _ (x6.1,x6.2.1,x7.1,x11.1,x6.2.2.1,x6.2.2.2.1,x6.q.1,x6.q.2.1,x6.q.2.2.1,x6.q.2.2.2.1,x6.o.1,x6.o.2.1,x6.o.2.2.1,x6.o.2.2.2.1,x6.o.q.1,x8.1,x14.1,x6.o.q.2.1,x6.o.q.2.2.1,()))<|
 A.ret _ (x6.1,x6.2.1,x7.1,x11.1,x6.2.2.1,x6.2.2.2.1,x6.q.1,x6.q.2.1,x6.q.2.2.1,x6.q.2.2.2.1,x6.o.1,x6.o.2.1,x6.o.2.2.1,x6.o.2.2.2.1,x6.o.q.1,x8.1,A.mkX .poly (A.cu .mono,()),x6.o.q.2.1,x6.o.q.2.2.1,())) fun x14=>
 A.bind [.i,.i,.i,.l .iop,.i,.i,.x .blk,.i,.i,.l .atom,.b,.i,.i,.l .poly,.x .iop,.x .poly,.x .poly,.l .ev,.l .poly] (A.cond x14.2.2.2.1 (A.bd .poly x14.o.q.2.2.1 (A.fI .iop 2 x14.o.q.2.2.2.1)<|
 A.bd .poly x14.o.q.2.2.1 (A.fI .iop 2 x14.o.q.2.2.2.1)<|
 A.l1 (.x .poly) (A.get .poly x14.o.q.2.2.1 (A.fI .iop 2 x14.o.q.2.2.2.1)) fun x15=>
 A.ret _ (x14.1,x14.2.1,x14.2.2.1,x14.q.1,x14.q.2.1,x14.q.2.2.1,x14.q.2.2.2.1,x14.o.1,x14.o.2.1,x14.o.2.2.1,x14.o.2.2.2.1,x14.o.q.1,x14.o.q.2.1,x14.o.q.2.2.1,x14.o.q.2.2.2.1,x14.o.o.1,x15.1,x14.o.o.2.1,x14.o.o.2.2.1,()))<|
 A.ret _ (x14.1,x14.2.1,x14.2.2.1,x14.q.1,x14.q.2.1,x14.q.2.2.1,x14.q.2.2.2.1,x14.o.1,x14.o.2.1,x14.o.2.2.1,x14.o.2.2.2.1,x14.o.q.1,x14.o.q.2.1,x14.o.q.2.2.1,x14.o.q.2.2.2.1,x14.o.o.1,A.mkX .poly (A.cu .mono,()),x14.o.o.2.1,x14.o.o.2.2.1,())) fun x15=>
 A.cl Zo Zp (x15.o.q.2.2.1,()) fun x16=>
 A.bind [.i,.i,.i,.l .iop,.i,.i,.x .blk,.i,.i,.l .atom,.b,.i,.i,.l .poly,.x .iop,.x .poly,.x .poly,.l .ev,.l .poly] (A.cond x16.1 (A.bind [.i,.i,.i,.l .iop,.i,.i,.x .blk,.i,.i,.l .atom,.b,.i,.i,.l .poly,.x .iop,.x .poly,.x .poly,.i,.i,.l .mono,.l .mono,.l .ev,.l .poly,.l .poly] (A.cond (A.ak (A.cmp .eql (A.fI .iop 0 x15.o.q.2.2.1) (A.lit 4)) (A.bl true) (A.cmp .eql (A.fI .iop 0 x15.o.q.2.2.1) (A.lit 5))) (A.cl ama amb (x15.o.o.2.2.1,()) fun x17=>
 A.ret _ (x15.1,x15.2.1,x15.2.2.1,x15.2.2.2.1,x15.q.1,x15.q.2.1,x15.q.2.2.1,x15.q.2.2.2.1,x15.o.1,x15.o.2.1,x15.o.2.2.1,x15.o.2.2.2.1,x15.o.q.1,x15.o.q.2.1,x15.o.q.2.2.1,x15.o.q.2.2.2.1,x15.o.o.1,A.fI .iop 0 x15.o.q.2.2.1,A.fI .iop 4 x15.o.q.2.2.1,A.fL .poly 0 .mono x15.o.q.2.2.2.1,A.fL .poly 0 .mono x15.o.o.1,x15.o.o.2.1,x17.1,x17.2.1,()))<|
 A.ret _ (x15.1,x15.2.1,x15.2.2.1,x15.2.2.2.1,x15.q.1,x15.q.2.1,x15.q.2.2.1,x15.q.2.2.2.1,x15.o.1,x15.o.2.1,x15.o.2.2.1,x15.o.2.2.2.1,x15.o.q.1,x15.o.q.2.1,x15.o.q.2.2.1,x15.o.q.2.2.2.1,x15.o.o.1,A.fI .iop 0 x15.o.q.2.2.1,A.fI .iop 4 x15.o.q.2.2.1,A.fL .poly 0 .mono x15.o.q.2.2.2.1,A.fL .poly 0 .mono x15.o.o.1,x15.o.o.2.1,x15.o.o.2.2.1,A.cu .poly,())) fun x17=>
 A.l1 (.l .ev) (A.lst .ev [A.mkX .ev (x17.o.o.2.1,x17.o.o.2.2.1,x17.o.o.2.2.2.1,x17.o.o.q.1,x17.o.o.q.2.2.2.1,())]) fun x18=>
 A.chk (A.cmp .leq (A.addN (A.len .ev x17.o.o.q.2.1) (A.len .ev x18.1)) (A.lit 1073741824))<|
 A.l1 (.l .ev) (A.app .ev x17.o.o.q.2.1 x18.1) fun x19=>
 A.ret _ (x17.1,x17.2.1,x17.2.2.1,x17.2.2.2.1,x17.q.1,x17.q.2.1,x17.q.2.2.1,x17.q.2.2.2.1,x17.o.1,x17.o.2.1,x17.o.2.2.1,x17.o.2.2.2.1,x17.o.q.1,x17.o.q.2.1,x17.o.q.2.2.1,x17.o.q.2.2.2.1,x17.o.o.1,x19.1,x17.o.o.q.2.2.1,()))<|
 A.ret _ (x15.1,x15.2.1,x15.2.2.1,x15.2.2.2.1,x15.q.1,x15.q.2.1,x15.q.2.2.1,x15.q.2.2.2.1,x15.o.1,x15.o.2.1,x15.o.2.2.1,x15.o.2.2.2.1,x15.o.q.1,x15.o.q.2.1,x15.o.q.2.2.1,x15.o.q.2.2.2.1,x15.o.o.1,x15.o.o.2.1,x15.o.o.2.2.1,())) fun x17=>
 A.l1 .b (A.cmp .eql (A.fI .iop 0 x17.o.q.2.2.1) (A.lit 1)) fun x18=>
 A.lu [.i,.i,.l .iop,.i,.i,.x .blk,.i,.i,.l .atom,.b,.i,.i,.l .poly,.l .ev,.l .poly] (A.cond x18.1 (A.cl NH NI (A.fI .iop 3 x17.o.q.2.2.1,()) fun x19=>
 A.bd .poly x17.o.q.2.1 x17.2.2.1<|
 A.bd .poly x17.o.q.2.1 x17.2.2.1<|
 A.inl _ (x17.1,x17.2.1,x17.2.2.2.1,x17.q.1,x17.q.2.1,x17.q.2.2.1,x17.q.2.2.2.1,x17.o.1,x17.o.2.1,x17.o.2.2.1,x17.o.2.2.2.1,x17.o.q.1,A.set .poly x17.o.q.2.1 x17.2.2.1 (A.mkX .poly (x19.1,())),x17.o.o.2.1,x17.o.o.2.2.1,()))<|
 A.l1 .b (A.cmp .eql (A.fI .iop 0 x17.o.q.2.2.1) (A.lit 2)) fun x19=>
 A.lu [.i,.i,.l .iop,.i,.i,.x .blk,.i,.i,.l .atom,.b,.i,.i,.l .poly,.l .ev,.l .poly] (A.cond x19.1 (A.bd .poly x17.o.o.2.2.1 (A.fI .iop 3 x17.o.q.2.2.1)<|
 A.bd .poly x17.o.o.2.2.1 (A.fI .iop 3 x17.o.q.2.2.1)<|
 A.bd .poly x17.o.q.2.1 x17.2.2.1<|
 A.bd .poly x17.o.q.2.1 x17.2.2.1<|
 A.l1 (.x .poly) (A.get .poly x17.o.o.2.2.1 (A.fI .iop 3 x17.o.q.2.2.1)) fun x20=>
 A.inl _ (x17.1,x17.2.1,x17.2.2.2.1,x17.q.1,x17.q.2.1,x17.q.2.2.1,x17.q.2.2.2.1,x17.o.1,x17.o.2.1,x17.o.2.2.1,x17.o.2.2.2.1,x17.o.q.1,A.set .poly x17.o.q.2.1 x17.2.2.1 x20.1,x17.o.o.2.1,x17.o.o.2.2.1,()))<|
 A.l1 .b (A.cmp .eql (A.fI .iop 0 x17.o.q.2.2.1) (A.lit 3)) fun x20=>
 A.lu [.i,.i,.l .iop,.i,.i,.x .blk,.i,.i,.l .atom,.b,.i,.i,.l .poly,.l .ev,.l .poly] (A.cond x20.1 (A.cl al8 al9 (A.mkX .tab (x17.o.2.1,()),A.fI .iop 3 x17.o.q.2.2.1,x17.o.q.2.2.2.1,x17.o.o.1,()) fun x21=>
 A.l1 (.x .tab) x21.1 fun x22=>
 A.l1 (.x .poly) x21.2.1 fun x23=>
 A.l1 .b x21.2.2.1 fun x24=>
 A.cond (A.aB x24.1) (A.inr _<|A.inr _<|A.inr _<|A.inr _<|A.ret _ (A.mkX .tab (A.cu .atom,()),A.mkX .sym (A.cu .ev,A.cu .poly,A.lit 0,A.cu .mono,A.cu .mono,A.lit 0,()),()))<|
 A.l1 (.x .tab) x22.1 fun x25=>
 A.bd .poly x17.o.q.2.1 x17.2.2.1<|
 A.bd .poly x17.o.q.2.1 x17.2.2.1<|
 A.l1 (.x .poly) x23.1 fun x26=>
 A.inl _ (x17.1,x17.2.1,x17.2.2.2.1,x17.q.1,x17.q.2.1,x17.q.2.2.1,x17.q.2.2.2.1,x17.o.1,A.fL .tab 0 .atom x25.1,x17.o.2.2.1,x17.o.2.2.2.1,x17.o.q.1,A.set .poly x17.o.q.2.1 x17.2.2.1 x26.1,x17.o.o.2.1,x17.o.o.2.2.1,()))<|
 A.l1 .b (A.cmp .eql (A.fI .iop 0 x17.o.q.2.2.1) (A.lit 4)) fun x21=>
 A.bind [.i,.i,.l .iop,.i,.i,.x .blk,.i,.i,.l .atom,.b,.i,.i,.l .poly,.l .ev,.l .poly] (A.cond x21.1 (A.cl UN UO (A.lit 2,x17.1,x17.o.2.1,x17.o.2.2.1,()) fun x22=>
 A.bd .poly x17.o.q.2.1 x17.2.2.1<|
 A.bd .poly x17.o.q.2.1 x17.2.2.1<|
 A.l1 (.x .poly) x22.1 fun x23=>
 A.l1 .i (A.arith .add .i64 x17.1 (A.lit 1)) fun x24=>
 A.ret _ (x24.1,x17.2.1,x17.2.2.2.1,x17.q.1,x17.q.2.1,x17.q.2.2.1,x17.q.2.2.2.1,x17.o.1,x22.2.1,x22.2.2.1,x17.o.2.2.2.1,x17.o.q.1,A.set .poly x17.o.q.2.1 x17.2.2.1 x23.1,x17.o.o.2.1,x17.o.o.2.2.1,()))<|
 A.l1 .b (A.cmp .eql (A.fI .iop 0 x17.o.q.2.2.1) (A.lit 6)) fun x22=>
 A.bind [.i,.i,.l .iop,.i,.i,.x .blk,.i,.i,.l .atom,.b,.i,.i,.l .poly,.l .ev,.l .poly] (A.cond x22.1 (A.cl UN UO (A.lit 3,x17.2.1,x17.o.2.1,x17.o.2.2.1,()) fun x23=>
 A.bd .poly x17.o.q.2.1 x17.2.2.1<|
 A.bd .poly x17.o.q.2.1 x17.2.2.1<|
 A.l1 (.x .poly) x23.1 fun x24=>
 A.l1 .i (A.arith .add .i64 x17.2.1 (A.lit 1)) fun x25=>
 A.ret _ (x17.1,x25.1,x17.2.2.2.1,x17.q.1,x17.q.2.1,x17.q.2.2.1,x17.q.2.2.2.1,x17.o.1,x23.2.1,x23.2.2.1,x17.o.2.2.2.1,x17.o.q.1,A.set .poly x17.o.q.2.1 x17.2.2.1 x24.1,x17.o.o.2.1,x17.o.o.2.2.1,()))<|
 A.l1 .b (A.cmp .eql (A.fI .iop 0 x17.o.q.2.2.1) (A.lit 8)) fun x23=>
 A.bind [.i,.i,.l .iop,.i,.i,.x .blk,.i,.i,.l .atom,.b,.i,.i,.l .poly,.l .ev,.l .poly] (A.cond x23.1 (A.bd .poly x17.o.o.2.2.1 (A.fI .iop 3 x17.o.q.2.2.1)<|
 A.bd .poly x17.o.o.2.2.1 (A.fI .iop 3 x17.o.q.2.2.1)<|
 A.l1 (.x .poly) x17.o.q.2.2.2.1 fun x24=>
 A.ret _ (x17.1,x17.2.1,x17.2.2.2.1,x17.q.1,x17.q.2.1,x17.q.2.2.1,x17.q.2.2.2.1,x17.o.1,x17.o.2.1,x17.o.2.2.1,x17.o.2.2.2.1,x17.o.q.1,x17.o.q.2.1,x17.o.o.2.1,A.set .poly x17.o.o.2.2.1 (A.fI .iop 3 x17.o.q.2.2.1) x24.1,()))<|
 A.ret _ (x17.1,x17.2.1,x17.2.2.2.1,x17.q.1,x17.q.2.1,x17.q.2.2.1,x17.q.2.2.2.1,x17.o.1,x17.o.2.1,x17.o.2.2.1,x17.o.2.2.2.1,x17.o.q.1,x17.o.q.2.1,x17.o.o.2.1,x17.o.o.2.2.1,())) fun x24=>
 A.ret _ (x24.1,x24.2.1,x24.2.2.1,x24.2.2.2.1,x24.q.1,x24.q.2.1,x24.q.2.2.1,x24.q.2.2.2.1,x24.o.1,x24.o.2.1,x24.o.2.2.1,x24.o.2.2.2.1,x24.o.q.1,x24.o.q.2.1,x24.o.q.2.2.1,())) fun x23=>
 A.ret _ (x23.1,x23.2.1,x23.2.2.1,x23.2.2.2.1,x23.q.1,x23.q.2.1,x23.q.2.2.1,x23.q.2.2.2.1,x23.o.1,x23.o.2.1,x23.o.2.2.1,x23.o.2.2.2.1,x23.o.q.1,x23.o.q.2.1,x23.o.q.2.2.1,())) fun x22=>
 A.inl _ (x22.1,x22.2.1,x22.2.2.1,x22.2.2.2.1,x22.q.1,x22.q.2.1,x22.q.2.2.1,x22.q.2.2.2.1,x22.o.1,x22.o.2.1,x22.o.2.2.1,x22.o.2.2.2.1,x22.o.q.1,x22.o.q.2.1,x22.o.q.2.2.1,())) fun x21=>
 A.inl _ (x21.1,x21.2.1,x21.2.2.1,x21.2.2.2.1,x21.q.1,x21.q.2.1,x21.q.2.2.1,x21.q.2.2.2.1,x21.o.1,x21.o.2.1,x21.o.2.2.1,x21.o.2.2.2.1,x21.o.q.1,x21.o.q.2.1,x21.o.q.2.2.1,())) fun x20=>
 A.inl _ (x20.1,x20.2.1,x20.2.2.1,x20.2.2.2.1,x20.q.1,x20.q.2.1,x20.q.2.2.1,x20.q.2.2.2.1,x20.o.1,x20.o.2.1,x20.o.2.2.1,x20.o.2.2.2.1,x20.o.q.1,x20.o.q.2.1,x20.o.q.2.2.1,())) fun x19=>
 A.inl _ (x19.1,x19.2.1,x19.2.2.1,x19.2.2.2.1,A.arith .add .i64 x19.q.1 (A.lit 1),x19.q.2.1,x19.q.2.2.1,x19.q.2.2.2.1,x19.o.1,x19.o.2.1,x19.o.2.2.1,x19.o.2.2.2.1,x19.o.q.1,x19.o.q.2.1,x19.o.q.2.2.1,()))<|
 A.inr _<|A.cl Yc Yd (x6.q.2.1,()) fun x7=>
 A.l1 .b x7.1 fun x8=>
 A.l1 .b x7.2.1 fun x9=>
 A.l1 .b x7.2.2.1 fun x10=>
 A.bind [.b,.x .blk,.i,.i,.l .atom,.b,.i,.l .mono,.i,.l .poly,.l .ev,.l .poly] (A.cond x8.1 (A.bd .poly x6.o.q.1 (A.fI .blk 4 x6.q.2.1)<|
 A.bd .poly x6.o.q.1 (A.fI .blk 4 x6.q.2.1)<|
 A.l1 (.x .poly) (A.get .poly x6.o.q.1 (A.fI .blk 4 x6.q.2.1)) fun x11=>
 A.ret _ (x9.1,x6.q.2.1,x6.q.2.2.1,x6.q.2.2.2.1,x6.o.1,x6.o.2.1,x6.o.2.2.1,A.fL .poly 0 .mono x11.1,x6.o.2.2.2.1,x6.o.q.1,x6.o.q.2.1,x6.o.q.2.2.1,()))<|
 A.ret _ (x9.1,x6.q.2.1,x6.q.2.2.1,x6.q.2.2.2.1,x6.o.1,x6.o.2.1,x6.o.2.2.1,A.cu .mono,x6.o.2.2.2.1,x6.o.q.1,x6.o.q.2.1,x6.o.q.2.2.1,())) fun x11=>
 A.bind [.x .blk,.i,.i,.l .atom,.b,.i,.l .mono,.l .mono,.i,.l .ev,.l .poly] (A.cond x11.1 (A.bd .poly x11.o.2.1 (A.fI .blk 5 x11.2.1)<|
 A.bd .poly x11.o.2.1 (A.fI .blk 5 x11.2.1)<|
 A.l1 (.x .poly) (A.get .poly x11.o.2.1 (A.fI .blk 5 x11.2.1)) fun x12=>
 A.ret _ (x11.2.1,x11.2.2.1,x11.2.2.2.1,x11.q.1,x11.q.2.1,x11.q.2.2.1,x11.q.2.2.2.1,A.fL .poly 0 .mono x12.1,x11.o.1,x11.o.2.2.1,x11.o.2.2.2.1,()))<|
 A.ret _ (x11.2.1,x11.2.2.1,x11.2.2.2.1,x11.q.1,x11.q.2.1,x11.q.2.2.1,x11.q.2.2.2.1,A.cu .mono,x11.o.1,x11.o.2.2.1,x11.o.2.2.2.1,())) fun x12=>
 A.cond x12.q.1 (A.ret _ (A.mkX .tab (A.cu .atom,()),A.mkX .sym (A.cu .ev,A.cu .poly,A.lit 0,A.cu .mono,A.cu .mono,A.lit 0,()),()))<|
 A.cl YR YS (A.mkX .tab (x12.2.2.2.1,()),()) fun x13=>
 A.cl al4 al5 (A.mkX .sym (x12.o.2.1,x12.o.2.2.1,x12.q.2.1,x12.q.2.2.1,x12.q.2.2.2.1,x12.o.1,()),A.arith .add .i64 (A.fI .blk 0 x12.1) (A.fI .blk 1 x12.1),()) fun x14=>
 A.l1 (.x .sym) x14.1 fun x15=>
 A.ret _ (A.mkX .tab (x13.1,()),x15.1,())) (x4.1,x5.1,A.fL .blk 2 .iop x.2.1,A.len .iop (A.fL .blk 2 .iop x.2.1),A.lit 0,x.2.1,A.lit 0,A.lit 0,x2.1,x2.2.1,A.fI .blk 3 x.2.1,A.fI .blk 6 x.2.1,x3.1,A.cu .ev,x2.2.2.1,())
def Zq (A:Alg) (lZ:Pt A jE) (l5:Ft A jE) (x:Tup A.ah [.x .poly,.x .poly]):Ot A Ns:=
 A.l1 .b (A.bl false) fun x0=>
 A.cl lZ l5 (x.1,x.2.1,()) fun x1=>
 A.rb x1.1
def RV (A:Alg) (amc:Pt A Ns) (amd:Ft A Ns) (x:Tup A.ah [.l .poly,.l .poly]):Ot A FK:=
 A.l1 .b (A.bl false) fun x0=>
 A.cond (A.cmp .neq (A.len .poly x.1) (A.len .poly x.2.1)) (A.rb (A.bl false))<|
 A.iter [.l .poly,.l .poly,.i,.i] (fun x1=>
 A.cond (A.cmp .lss x1.2.2.2.1 x1.2.2.1) (A.bd .poly x1.2.1 x1.2.2.2.1<|
 A.l1 .i x1.2.2.2.1 fun x2=>
 A.l1 (.x .poly) (A.get .poly x1.2.1 x1.2.2.2.1) fun x3=>
 A.bd .poly x1.1 x2.1<|
 A.l1 (.x .poly) (A.get .poly x1.1 x2.1) fun x4=>
 A.cl amc amd (x3.1,x4.1,()) fun x5=>
 A.cond (A.aB x5.1) (A.l1 .b (A.bl false) fun x6=>
 A.inr _<|A.ret _ (x6.1,()))<|
 A.inl _ (x1.1,x1.2.1,x1.2.2.1,A.arith .add .i64 x1.2.2.2.1 (A.lit 1),()))<|
 A.inr _<|A.rb (A.bl true)) (x.2.1,x.1,A.len .poly x.1,A.lit 0,())
def Zr (A:Alg) (agr:Pt A FK) (ags:Ft A FK) (x:Tup A.ah [.l .poly,.l .poly]):Ot A BZ:=
 A.l1 .b (A.bl false) fun x0=>
 A.cl agr ags (x.1,x.2.1,()) fun x1=>
 A.rb x1.1
def Zt (A:Alg) (lZ:Pt A jE) (l5:Ft A jE) (Zu:Pt A BZ) (Zv:Ft A BZ) (x:Tup A.ah [.x .ev,.x .ev]):Ot A Nt:=
 A.l1 .b (A.bl false) fun x0=>
 A.cg (A.ak (A.cmp .eql (A.fI .ev 0 x.1) (A.fI .ev 0 x.2.1)) (A.cmp .eql (A.fI .ev 1 x.1) (A.fI .ev 1 x.2.1)) (A.bl false)) lZ l5 (A.mkX .poly (A.fL .ev 2 .mono x.1,()),A.mkX .poly (A.fL .ev 2 .mono x.2.1,()),()) fun x1=>
 A.cg (A.ak (A.ak (A.cmp .eql (A.fI .ev 0 x.1) (A.fI .ev 0 x.2.1)) (A.cmp .eql (A.fI .ev 1 x.1) (A.fI .ev 1 x.2.1)) (A.bl false)) x1.1 (A.bl false)) lZ l5 (A.mkX .poly (A.fL .ev 3 .mono x.1,()),A.mkX .poly (A.fL .ev 3 .mono x.2.1,()),()) fun x2=>
 A.cg (A.ak (A.ak (A.ak (A.cmp .eql (A.fI .ev 0 x.1) (A.fI .ev 0 x.2.1)) (A.cmp .eql (A.fI .ev 1 x.1) (A.fI .ev 1 x.2.1)) (A.bl false)) x1.1 (A.bl false)) x2.1 (A.bl false)) Zu Zv (A.fL .ev 4 .poly x.1,A.fL .ev 4 .poly x.2.1,()) fun x3=>
 A.rb (A.ak (A.ak (A.ak (A.ak (A.cmp .eql (A.fI .ev 0 x.1) (A.fI .ev 0 x.2.1)) (A.cmp .eql (A.fI .ev 1 x.1) (A.fI .ev 1 x.2.1)) (A.bl false)) x1.1 (A.bl false)) x2.1 (A.bl false)) x3.1 (A.bl false))
def RX (A:Alg) (ame:Pt A Nt) (amf:Ft A Nt) (x:Tup A.ah [.l .ev,.l .ev]):Ot A FL:=
 A.l1 .b (A.bl false) fun x0=>
 A.cond (A.cmp .neq (A.len .ev x.1) (A.len .ev x.2.1)) (A.rb (A.bl false))<|
 A.iter [.l .ev,.l .ev,.i,.i] (fun x1=>
 A.cond (A.cmp .lss x1.2.2.2.1 x1.2.2.1) (A.bd .ev x1.2.1 x1.2.2.2.1<|
 A.l1 .i x1.2.2.2.1 fun x2=>
 A.l1 (.x .ev) (A.get .ev x1.2.1 x1.2.2.2.1) fun x3=>
 A.bd .ev x1.1 x2.1<|
 A.l1 (.x .ev) (A.get .ev x1.1 x2.1) fun x4=>
 A.cl ame amf (x3.1,x4.1,()) fun x5=>
 A.cond (A.aB x5.1) (A.l1 .b (A.bl false) fun x6=>
 A.inr _<|A.ret _ (x6.1,()))<|
 A.inl _ (x1.1,x1.2.1,x1.2.2.1,A.arith .add .i64 x1.2.2.2.1 (A.lit 1),()))<|
 A.inr _<|A.rb (A.bl true)) (x.2.1,x.1,A.len .ev x.1,A.lit 0,())
def Zw (A:Alg) (lZ:Pt A jE) (l5:Ft A jE) (Zu:Pt A BZ) (Zv:Ft A BZ) (agt:Pt A FL) (agu:Ft A FL) (x:Tup A.ah [.x .sym,.x .sym]):Ot A Nu:=
 A.l1 .b (A.bl false) fun x0=>
 A.cl agt agu (A.fL .sym 0 .ev x.1,A.fL .sym 0 .ev x.2.1,()) fun x1=>
 A.l1 .b x1.1 fun x2=>
 A.cg x2.1 Zu Zv (A.fL .sym 1 .poly x.1,A.fL .sym 1 .poly x.2.1,()) fun x3=>
 A.cg (A.ak (A.ak x2.1 x3.1 (A.bl false)) (A.cmp .eql (A.fI .sym 2 x.1) (A.fI .sym 2 x.2.1)) (A.bl false)) lZ l5 (A.mkX .poly (A.fL .sym 3 .mono x.1,()),A.mkX .poly (A.fL .sym 3 .mono x.2.1,()),()) fun x4=>
 A.cg (A.ak (A.ak (A.ak x2.1 x3.1 (A.bl false)) (A.cmp .eql (A.fI .sym 2 x.1) (A.fI .sym 2 x.2.1)) (A.bl false)) x4.1 (A.bl false)) lZ l5 (A.mkX .poly (A.fL .sym 4 .mono x.1,()),A.mkX .poly (A.fL .sym 4 .mono x.2.1,()),()) fun x5=>
 A.rb (A.ak (A.ak (A.ak (A.ak (A.ak x2.1 x3.1 (A.bl false)) (A.cmp .eql (A.fI .sym 2 x.1) (A.fI .sym 2 x.2.1)) (A.bl false)) x4.1 (A.bl false)) x5.1 (A.bl false)) (A.cmp .eql (A.fI .sym 5 x.1) (A.fI .sym 5 x.2.1)) (A.bl false))
def Zx (A:Alg) (UQ:Pt A BG) (UR:Ft A BG) (amg:Pt A MW) (amh:Ft A MW) (ami:Pt A M9) (amj:Ft A M9) (adk:Pt A Nr) (adl:Ft A Nr) (amk:Pt A Nu) (aml:Ft A Nu) (x:Tup A.ah [.x .blk,.x .blk]):Ot A Nv:=
 A.l1 .b (A.bl false) fun x0=>
 A.cl UQ UR (x.1,()) fun x1=>
 A.cg (A.aB (A.aB x1.1)) UQ UR (x.2.1,()) fun x2=>
 A.cond (A.ak (A.ak (A.ak (A.aB x1.1) (A.bl true) (A.aB x2.1)) (A.bl true) (A.cmp .neq (A.fI .blk 0 x.1) (A.fI .blk 0 x.2.1))) (A.bl true) (A.cmp .neq (A.fI .blk 1 x.1) (A.fI .blk 1 x.2.1))) (A.rb (A.bl false))<|
 A.cl amg amh (x.1,x.2.1,()) fun x3=>
 A.cond x3.1 (A.rb (A.bl true))<|
 A.cl ami amj () fun x4=>
 A.l1 (.x .tab) x4.1 fun x5=>
 A.l1 (.l .poly) x4.2.1 fun x6=>
 A.cl adk adl (x5.1,x.1,()) fun x7=>
 A.l1 (.x .tab) x7.1 fun x8=>
 A.l1 (.x .sym) x7.2.1 fun x9=>
 A.cl adk adl (x8.1,x.2.1,()) fun x10=>
 A.l1 (.x .tab) x10.1 fun x11=>
 A.l1 (.x .sym) x10.2.1 fun x12=>
 A.cl amk aml (x9.1,x12.1,()) fun x13=>
 A.rb x13.1
def Zy (A:Alg) (Zo:Pt A BQ) (Zp:Ft A BQ) (x:Tup A.ah [.x .blk]):Ot A Nw:=
 A.l1 .i (A.lit 0) fun x0=>
 A.l1 .i (A.lit 0) fun x1=>
 A.iter [.i,.l .iop,.i,.i] (fun x2=>
 A.cond (A.cmp .lss x2.2.2.2.1 x2.2.2.1) (A.bd .iop x2.2.1 x2.2.2.2.1<|
 A.l1 (.x .iop) (A.get .iop x2.2.1 x2.2.2.2.1) fun x3=>
 A.cl Zo Zp (x3.1,()) fun x4=>
 A.bind [.i,.l .iop,.i,.i] (A.cond x4.1 (A.l1 .i (A.arith .add .i64 x2.1 (A.lit 1)) fun x5=>
 A.ret _ (x5.1,x2.2.1,x2.2.2.1,x2.2.2.2.1,()))<|
 A.ret _ (x2.1,x2.2.1,x2.2.2.1,x2.2.2.2.1,())) fun x5=>
 A.inl _ (x5.1,x5.2.1,x5.2.2.1,A.arith .add .i64 x5.2.2.2.1 (A.lit 1),()))<|
 A.inr _<|A.l1 .i x2.1 fun x3=>
 A.ret _ (x3.1,())) (x1.1,A.fL .blk 2 .iop x.1,A.len .iop (A.fL .blk 2 .iop x.1),A.lit 0,())
def RY (A:Alg) (aV:Pt A dK) (aW:Ft A dK) (yj:Pt A jS) (yu:Ft A jS) (x:Tup A.ah [.x .blk,.l .u8,.i]):Ot A FN:=
 A.cl yj yu (x.1,()) fun x0=>
 A.l1 .i (A.lit 0) fun x1=>
 A.iter [.i,.l .u8,.i,.i,.i,.i,.i,.i,.i,.i,.i,.i,.i,.i,.i,.l .iop] (fun x2=>
 A.cond (A.cmp .lss x2.1 (A.len .iop x2.o.q.2.2.2.1)) (A.bd .iop x2.o.q.2.2.2.1 x2.1<|
 A.bd .iop x2.o.q.2.2.2.1 x2.1<|
 A.l1 (.x .iop) (A.get .iop x2.o.q.2.2.2.1 x2.1) fun x3=>
 A.bind [.i,.b,.l .u8,.i,.i,.i,.i,.i,.i,.i,.i,.i,.i,.i,.i,.i,.x .iop,.l .iop] (A.cond (A.ak (A.cmp .eql (A.fI .iop 0 x3.1) (A.lit 3)) (A.cmp .neq (A.fI .iop 3 x3.1) (A.lit 2)) (A.bl false)) (A.cl aV aW (A.lit 2,x2.2.1,x2.2.2.1,()) fun x4=>
 A.ret _ (x2.1,A.ak (A.ak (A.cmp .eql (A.fI .iop 0 x3.1) (A.lit 3)) (A.cmp .neq (A.fI .iop 3 x3.1) (A.lit 2)) (A.bl false)) (A.cmp .eql x4.1 (A.lit 0)) (A.bl false),x4.2.1,x4.2.2.1,x2.2.2.2.1,x2.q.1,x2.q.2.1,x2.q.2.2.1,x2.q.2.2.2.1,x2.o.1,x2.o.2.1,x2.o.2.2.1,x2.o.2.2.2.1,x2.o.q.1,x2.o.q.2.1,x2.o.q.2.2.1,x3.1,x2.o.q.2.2.2.1,()))<|
 A.chk (A.aB (A.ak (A.cmp .eql (A.fI .iop 0 x3.1) (A.lit 3)) (A.cmp .neq (A.fI .iop 3 x3.1) (A.lit 2)) (A.bl false)))<|
 A.ret _ (x2.1,A.bl false,x2.2.1,x2.2.2.1,x2.2.2.2.1,x2.q.1,x2.q.2.1,x2.q.2.2.1,x2.q.2.2.2.1,x2.o.1,x2.o.2.1,x2.o.2.2.1,x2.o.2.2.2.1,x2.o.q.1,x2.o.q.2.1,x2.o.q.2.2.1,x3.1,x2.o.q.2.2.2.1,())) fun x4=>
 A.bind [.i,.l .u8,.i,.i,.i,.i,.i,.i,.i,.i,.i,.i,.i,.i,.i,.x .iop,.l .iop] (A.cond x4.2.1 (A.bd .iop x4.o.o.2.1 x4.1<|
 A.bd .iop x4.o.o.2.1 x4.1<|
 A.l1 .i (A.fI .iop 2 x4.o.o.1) fun x5=>
 A.bd .iop (A.set .iop x4.o.o.2.1 x4.1 (A.mkX .iop (A.fI .iop 0 (A.get .iop x4.o.o.2.1 x4.1),x5.1,A.fI .iop 2 (A.get .iop x4.o.o.2.1 x4.1),A.fI .iop 3 (A.get .iop x4.o.o.2.1 x4.1),A.fI .iop 4 (A.get .iop x4.o.o.2.1 x4.1),()))) x4.1<|
 A.bd .iop (A.set .iop x4.o.o.2.1 x4.1 (A.mkX .iop (A.fI .iop 0 (A.get .iop x4.o.o.2.1 x4.1),x5.1,A.fI .iop 2 (A.get .iop x4.o.o.2.1 x4.1),A.fI .iop 3 (A.get .iop x4.o.o.2.1 x4.1),A.fI .iop 4 (A.get .iop x4.o.o.2.1 x4.1),()))) x4.1<|
 A.l1 .i (A.fI .iop 1 x4.o.o.1) fun x6=>
 A.ret _ (x4.1,x4.2.2.1,x4.2.2.2.1,x4.q.1,x4.q.2.1,x4.q.2.2.1,x4.q.2.2.2.1,x4.o.1,x4.o.2.1,x4.o.2.2.1,x4.o.2.2.2.1,x4.o.q.1,x4.o.q.2.1,x4.o.q.2.2.1,x4.o.q.2.2.2.1,x4.o.o.1,A.set .iop (A.set .iop x4.o.o.2.1 x4.1 (A.mkX .iop (A.fI .iop 0 (A.get .iop x4.o.o.2.1 x4.1),x5.1,A.fI .iop 2 (A.get .iop x4.o.o.2.1 x4.1),A.fI .iop 3 (A.get .iop x4.o.o.2.1 x4.1),A.fI .iop 4 (A.get .iop x4.o.o.2.1 x4.1),()))) x4.1 (A.mkX .iop (A.fI .iop 0 (A.get .iop (A.set .iop x4.o.o.2.1 x4.1 (A.mkX .iop (A.fI .iop 0 (A.get .iop x4.o.o.2.1 x4.1),x5.1,A.fI .iop 2 (A.get .iop x4.o.o.2.1 x4.1),A.fI .iop 3 (A.get .iop x4.o.o.2.1 x4.1),A.fI .iop 4 (A.get .iop x4.o.o.2.1 x4.1),()))) x4.1),A.fI .iop 1 (A.get .iop (A.set .iop x4.o.o.2.1 x4.1 (A.mkX .iop (A.fI .iop 0 (A.get .iop x4.o.o.2.1 x4.1),x5.1,A.fI .iop 2 (A.get .iop x4.o.o.2.1 x4.1),A.fI .iop 3 (A.get .iop x4.o.o.2.1 x4.1),A.fI .iop 4 (A.get .iop x4.o.o.2.1 x4.1),()))) x4.1),x6.1,A.fI .iop 3 (A.get .iop (A.set .iop x4.o.o.2.1 x4.1 (A.mkX .iop (A.fI .iop 0 (A.get .iop x4.o.o.2.1 x4.1),x5.1,A.fI .iop 2 (A.get .iop x4.o.o.2.1 x4.1),A.fI .iop 3 (A.get .iop x4.o.o.2.1 x4.1),A.fI .iop 4 (A.get .iop x4.o.o.2.1 x4.1),()))) x4.1),A.fI .iop 4 (A.get .iop (A.set .iop x4.o.o.2.1 x4.1 (A.mkX .iop (A.fI .iop 0 (A.get .iop x4.o.o.2.1 x4.1),x5.1,A.fI .iop 2 (A.get .iop x4.o.o.2.1 x4.1),A.fI .iop 3 (A.get .iop x4.o.o.2.1 x4.1),A.fI .iop 4 (A.get .iop x4.o.o.2.1 x4.1),()))) x4.1),())),()))<|
 A.ret _ (x4.1,x4.2.2.1,x4.2.2.2.1,x4.q.1,x4.q.2.1,x4.q.2.2.1,x4.q.2.2.2.1,x4.o.1,x4.o.2.1,x4.o.2.2.1,x4.o.2.2.2.1,x4.o.q.1,x4.o.q.2.1,x4.o.q.2.2.1,x4.o.q.2.2.2.1,x4.o.o.1,x4.o.o.2.1,())) fun x5=>
 A.bind [.i,.l .u8,.i,.i,.i,.i,.i,.i,.i,.i,.i,.i,.i,.i,.i,.x .iop,.l .iop] (A.cond (A.ak (A.ak (A.cmp .eql (A.fI .iop 0 x5.o.q.2.2.2.1) (A.lit 3)) (A.cmp .eql (A.fI .iop 1 x5.o.q.2.2.2.1) (A.fI .iop 2 x5.o.q.2.2.2.1)) (A.bl false)) (A.ak (A.cmp .eql (A.fI .iop 3 x5.o.q.2.2.2.1) (A.lit 2)) (A.bl true) (A.cmp .eql (A.fI .iop 3 x5.o.q.2.2.2.1) (A.lit 5))) (A.bl false)) (A.bd .iop x5.o.o.1 x5.1<|
 A.bd .iop x5.o.o.1 x5.1<|
 A.ret _ (x5.1,x5.2.1,x5.2.2.1,x5.2.2.2.1,x5.q.1,x5.q.2.1,x5.q.2.2.1,x5.q.2.2.2.1,x5.o.1,x5.o.2.1,x5.o.2.2.1,x5.o.2.2.2.1,x5.o.q.1,x5.o.q.2.1,x5.o.q.2.2.1,x5.o.q.2.2.2.1,A.set .iop x5.o.o.1 x5.1 (A.mkX .iop (A.lit 1,A.lit 0,A.lit 0,A.lit 0,A.lit 0,())),()))<|
 A.ret _ (x5.1,x5.2.1,x5.2.2.1,x5.2.2.2.1,x5.q.1,x5.q.2.1,x5.q.2.2.1,x5.q.2.2.2.1,x5.o.1,x5.o.2.1,x5.o.2.2.1,x5.o.2.2.2.1,x5.o.q.1,x5.o.q.2.1,x5.o.q.2.2.1,x5.o.q.2.2.2.1,x5.o.o.1,())) fun x6=>
 A.chk (A.orB (A.aB (A.ak (A.cmp .eql (A.fI .iop 0 x6.o.q.2.2.2.1) (A.lit 3)) (A.cmp .eql (A.fI .iop 3 x6.o.q.2.2.2.1) (A.lit 3)) (A.bl false))) (A.cmp .leq (A.lit 0) (A.fI .iop 2 x6.o.q.2.2.2.1)))<|
 A.chk (A.orB (A.aB (A.ak (A.cmp .eql (A.fI .iop 0 x6.o.q.2.2.2.1) (A.lit 3)) (A.cmp .eql (A.fI .iop 3 x6.o.q.2.2.2.1) (A.lit 3)) (A.bl false))) (A.cmp .lss (A.fI .iop 2 x6.o.q.2.2.2.1) (A.len .iop x6.o.o.1)))<|
 A.chk (A.orB (A.aB (A.ak (A.cmp .eql (A.fI .iop 0 x6.o.q.2.2.2.1) (A.lit 3)) (A.cmp .eql (A.fI .iop 3 x6.o.q.2.2.2.1) (A.lit 3)) (A.bl false))) (A.cmp .leq (A.lit 0) (A.fI .iop 2 x6.o.q.2.2.2.1)))<|
 A.chk (A.orB (A.aB (A.ak (A.cmp .eql (A.fI .iop 0 x6.o.q.2.2.2.1) (A.lit 3)) (A.cmp .eql (A.fI .iop 3 x6.o.q.2.2.2.1) (A.lit 3)) (A.bl false))) (A.cmp .lss (A.fI .iop 2 x6.o.q.2.2.2.1) (A.len .iop x6.o.o.1)))<|
 A.chk (A.orB (A.aB (A.ak (A.ak (A.cmp .eql (A.fI .iop 0 x6.o.q.2.2.2.1) (A.lit 3)) (A.cmp .eql (A.fI .iop 3 x6.o.q.2.2.2.1) (A.lit 3)) (A.bl false)) (A.cmp .eql (A.fI .iop 0 (A.get .iop x6.o.o.1 (A.fI .iop 2 x6.o.q.2.2.2.1))) (A.lit 1)) (A.bl false))) (A.cmp .leq (A.lit 0) (A.fI .iop 2 x6.o.q.2.2.2.1)))<|
 A.chk (A.orB (A.aB (A.ak (A.ak (A.cmp .eql (A.fI .iop 0 x6.o.q.2.2.2.1) (A.lit 3)) (A.cmp .eql (A.fI .iop 3 x6.o.q.2.2.2.1) (A.lit 3)) (A.bl false)) (A.cmp .eql (A.fI .iop 0 (A.get .iop x6.o.o.1 (A.fI .iop 2 x6.o.q.2.2.2.1))) (A.lit 1)) (A.bl false))) (A.cmp .lss (A.fI .iop 2 x6.o.q.2.2.2.1) (A.len .iop x6.o.o.1)))<|
 A.chk (A.orB (A.aB (A.ak (A.ak (A.cmp .eql (A.fI .iop 0 x6.o.q.2.2.2.1) (A.lit 3)) (A.cmp .eql (A.fI .iop 3 x6.o.q.2.2.2.1) (A.lit 3)) (A.bl false)) (A.cmp .eql (A.fI .iop 0 (A.get .iop x6.o.o.1 (A.fI .iop 2 x6.o.q.2.2.2.1))) (A.lit 1)) (A.bl false))) (A.cmp .leq (A.lit 0) (A.fI .iop 2 x6.o.q.2.2.2.1)))<|
 A.chk (A.orB (A.aB (A.ak (A.ak (A.cmp .eql (A.fI .iop 0 x6.o.q.2.2.2.1) (A.lit 3)) (A.cmp .eql (A.fI .iop 3 x6.o.q.2.2.2.1) (A.lit 3)) (A.bl false)) (A.cmp .eql (A.fI .iop 0 (A.get .iop x6.o.o.1 (A.fI .iop 2 x6.o.q.2.2.2.1))) (A.lit 1)) (A.bl false))) (A.cmp .lss (A.fI .iop 2 x6.o.q.2.2.2.1) (A.len .iop x6.o.o.1)))<|
 A.bind [.i,.l .u8,.i,.i,.i,.i,.i,.i,.i,.i,.i,.i,.i,.i,.i,.l .iop] (A.cond (A.ak (A.ak (A.ak (A.cmp .eql (A.fI .iop 0 x6.o.q.2.2.2.1) (A.lit 3)) (A.cmp .eql (A.fI .iop 3 x6.o.q.2.2.2.1) (A.lit 3)) (A.bl false)) (A.cmp .eql (A.fI .iop 0 (A.get .iop x6.o.o.1 (A.fI .iop 2 x6.o.q.2.2.2.1))) (A.lit 1)) (A.bl false)) (A.cmp .eql (A.fI .iop 3 (A.get .iop x6.o.o.1 (A.fI .iop 2 x6.o.q.2.2.2.1))) (A.lit 2)) (A.bl false)) (A.bd .iop x6.o.o.1 x6.1<|
 A.bd .iop x6.o.o.1 x6.1<|
 A.ret _ (x6.1,x6.2.1,x6.2.2.1,x6.2.2.2.1,x6.q.1,x6.q.2.1,x6.q.2.2.1,x6.q.2.2.2.1,x6.o.1,x6.o.2.1,x6.o.2.2.1,x6.o.2.2.2.1,x6.o.q.1,x6.o.q.2.1,x6.o.q.2.2.1,A.set .iop x6.o.o.1 x6.1 (A.mkX .iop (A.lit 3,A.fI .iop 1 x6.o.q.2.2.2.1,A.fI .iop 1 x6.o.q.2.2.2.1,A.lit 1,A.lit 0,())),()))<|
 A.ret _ (x6.1,x6.2.1,x6.2.2.1,x6.2.2.2.1,x6.q.1,x6.q.2.1,x6.q.2.2.1,x6.q.2.2.2.1,x6.o.1,x6.o.2.1,x6.o.2.2.1,x6.o.2.2.2.1,x6.o.q.1,x6.o.q.2.1,x6.o.q.2.2.1,x6.o.o.1,())) fun x7=>
 A.l1 .i (A.arith .add .i64 x7.1 (A.lit 1)) fun x8=>
 A.inl _ (x8.1,x7.2.1,x7.2.2.1,x7.2.2.2.1,x7.q.1,x7.q.2.1,x7.q.2.2.1,x7.q.2.2.2.1,x7.o.1,x7.o.2.1,x7.o.2.2.1,x7.o.2.2.2.1,x7.o.q.1,x7.o.q.2.1,x7.o.q.2.2.1,x7.o.q.2.2.2.1,()))<|
 A.inr _<|A.ret _ (x2.o.2.1,x2.o.2.2.1,x2.o.2.2.2.1,x2.o.q.1,x2.o.q.2.1,x2.o.q.2.2.1,x2.2.1,x2.2.2.1,x2.o.q.2.2.2.1,())) (x1.1,x.2.1,x.2.2.1,A.lit 0,A.lit 0,A.lit 0,A.lit 0,A.lit 0,A.lit 0,x0.1,x0.2.1,x0.2.2.1,x0.2.2.2.1,x0.q.1,x0.q.2.1,x0.q.2.2.1,())
def RZ (A:Alg) (kI:Pt A fM) (kJ:Ft A fM) (Aw:Pt A uE) (Ay:Ft A uE) (FU:Pt A nu) (FV:Ft A nu) (aV:Pt A dK) (aW:Ft A dK) (Ku:Pt A uK) (Kv:Ft A uK) (Zz:Pt A ET) (ZA:Ft A ET) (ZB:Pt A FN) (ZE:Ft A FN) (x:Tup A.ah [.i,.l .u8,.i]):Ot A FP:=
 A.cl Zz ZA (x.1,x.2.1,x.2.2.1,()) fun x0=>
 A.l1 (.x .blk) x0.1 fun x1=>
 A.cl kI kJ (x1.1,()) fun x2=>
 A.cond (A.aB x2.1) (A.l1 (.x .blk) x1.1 fun x3=>
 A.l1 (.x .blk) x1.1 fun x4=>
 A.ret _ (x3.1,x4.1,x0.2.1,x0.2.2.1,()))<|
 A.cl aV aW (A.lit 9,x0.2.1,x0.2.2.1,()) fun x3=>
 A.l1 .b (A.cmp .eql x3.1 (A.lit 0)) fun x4=>
 A.cond x4.1 (A.cl ZB ZE (x1.1,x3.2.1,x3.2.2.1,()) fun x5=>
 A.l1 (.x .blk) x1.1 fun x6=>
 A.ret _ (x6.1,A.mkX .blk (x5.1,x5.2.1,x5.o.1,x5.2.2.1,x5.2.2.2.1,x5.q.1,x5.q.2.1,()),x5.q.2.2.1,x5.q.2.2.2.1,()))<|
 A.l1 .b (A.cmp .eql x3.1 (A.lit 1)) fun x5=>
 A.cond x5.1 (A.cl Aw Ay (x1.1,()) fun x6=>
 A.l1 (.x .blk) x1.1 fun x7=>
 A.ret _ (x7.1,A.mkX .blk (x6.1,x6.2.1,x6.q.2.2.1,x6.2.2.1,x6.2.2.2.1,x6.q.1,x6.q.2.1,()),x3.2.1,x3.2.2.1,()))<|
 A.l1 .b (A.cmp .eql x3.1 (A.lit 2)) fun x6=>
 A.cond x6.1 (A.cl ZB ZE (x1.1,x3.2.1,x3.2.2.1,()) fun x7=>
 A.cl Aw Ay (A.mkX .blk (x7.1,x7.2.1,x7.o.1,x7.2.2.1,x7.2.2.2.1,x7.q.1,x7.q.2.1,()),()) fun x8=>
 A.l1 (.x .blk) x1.1 fun x9=>
 A.ret _ (x9.1,A.mkX .blk (x8.1,x8.2.1,x8.q.2.2.1,x8.2.2.1,x8.2.2.2.1,x8.q.1,x8.q.2.1,()),x7.q.2.2.1,x7.q.2.2.2.1,()))<|
 A.l1 .b (A.cmp .eql x3.1 (A.lit 3)) fun x7=>
 A.cond x7.1 (A.cl Ku Kv (x1.1,x3.2.1,x3.2.2.1,()) fun x8=>
 A.l1 (.x .blk) x1.1 fun x9=>
 A.ret _ (x9.1,A.mkX .blk (x8.1,x8.2.1,x8.o.1,x8.2.2.1,x8.2.2.2.1,x8.q.1,x8.q.2.1,()),x8.q.2.2.1,x8.q.2.2.2.1,()))<|
 A.l1 .b (A.cmp .eql x3.1 (A.lit 4)) fun x8=>
 A.cond x8.1 (A.cl Aw Ay (x1.1,()) fun x9=>
 A.cl Ku Kv (A.mkX .blk (x9.1,x9.2.1,x9.q.2.2.1,x9.2.2.1,x9.2.2.2.1,x9.q.1,x9.q.2.1,()),x3.2.1,x3.2.2.1,()) fun x10=>
 A.l1 (.x .blk) x1.1 fun x11=>
 A.ret _ (x11.1,A.mkX .blk (x10.1,x10.2.1,x10.o.1,x10.2.2.1,x10.2.2.2.1,x10.q.1,x10.q.2.1,()),x10.q.2.2.1,x10.q.2.2.2.1,()))<|
 A.l1 .b (A.cmp .eql x3.1 (A.lit 5)) fun x9=>
 A.cond x9.1 (A.cl Aw Ay (x1.1,()) fun x10=>
 A.l1 (.x .blk) x1.1 fun x11=>
 A.ret _ (A.mkX .blk (x10.1,x10.2.1,x10.q.2.2.1,x10.2.2.1,x10.2.2.2.1,x10.q.1,x10.q.2.1,()),x11.1,x3.2.1,x3.2.2.1,()))<|
 A.l1 .b (A.cmp .eql x3.1 (A.lit 6)) fun x10=>
 A.cond x10.1 (A.cl Zz ZA (x.1,x3.2.1,x3.2.2.1,()) fun x11=>
 A.l1 (.x .blk) x1.1 fun x12=>
 A.l1 (.x .blk) x11.1 fun x13=>
 A.ret _ (x12.1,x13.1,x11.2.1,x11.2.2.1,()))<|
 A.l1 .b (A.cmp .eql x3.1 (A.lit 7)) fun x11=>
 A.cond x11.1 (A.cl FU FV (x1.1,()) fun x12=>
 A.l1 (.x .blk) x1.1 fun x13=>
 A.ret _ (x13.1,A.mkX .blk (x12.1,x12.2.1,x12.q.2.2.1,x12.2.2.1,x12.2.2.2.1,x12.q.1,x12.q.2.1,()),x3.2.1,x3.2.2.1,()))<|
 A.l1 (.x .blk) x1.1 fun x12=>
 A.l1 (.x .blk) x1.1 fun x13=>
 A.ret _ (x12.1,x13.1,x3.2.1,x3.2.2.1,())
def R3 (A:Alg) (agv:Pt A EU) (agw:Ft A EU) (agx:Pt A FP) (agy:Ft A FP) (x:Tup A.ah [.l .u8]):Ot A FQ:=
 A.cl agv agw (x.1,()) fun x0=>
 A.cl agx agy (A.lit 14,x0.1,x0.2.1,()) fun x1=>
 A.l1 (.x .blk) x1.1 fun x2=>
 A.l1 (.x .blk) x1.2.1 fun x3=>
 A.ret _ (x2.1,x3.1,())
def ZF (A:Alg) (ZG:Pt A Nv) (ZH:Ft A Nv) (adn:Pt A Nw) (ado:Ft A Nw) (amm:Pt A MV) (amn:Ft A MV) (agz:Pt A FQ) (agA:Ft A FQ) (kI:Pt A fM) (kJ:Ft A fM) (x:Tup A.ah [.l .u8]):Ot A ade:=
 A.l1 .b (A.bl false) fun x0=>
 A.cond (A.cmp .gtr (A.len .u8 x.1) (A.lit 1048576)) (A.rb (A.bl true))<|
 A.cl agz agA (x.1,()) fun x1=>
 A.l1 (.x .blk) x1.1 fun x2=>
 A.l1 (.x .blk) x1.2.1 fun x3=>
 A.cl ZG ZH (x2.1,x3.1,()) fun x4=>
 A.l1 .b x4.1 fun x5=>
 A.cl ZG ZH (x3.1,x2.1,()) fun x6=>
 A.cg (A.aB (A.aB (A.eqB x6.1 x5.1))) ZG ZH (x2.1,x2.1,()) fun x7=>
 A.cg (A.aB (A.aB (A.eqB x6.1 x5.1))) kI kJ (x2.1,()) fun x8=>
 A.cond (A.ak (A.aB (A.eqB x6.1 x5.1)) (A.bl true) (A.aB (A.eqB x7.1 x8.1))) (A.rb (A.bl false))<|
 A.cg (A.aB (A.aB x5.1)) adn ado (x2.1,()) fun x9=>
 A.cg (A.aB (A.aB x5.1)) adn ado (x3.1,()) fun x10=>
 A.cg (A.ak (A.aB x5.1) (A.bl true) (A.ak (A.ak (A.cmp .eql x9.1 x10.1) (A.cmp .eql (A.fI .blk 0 x2.1) (A.fI .blk 0 x3.1)) (A.bl false)) (A.cmp .eql (A.fI .blk 1 x2.1) (A.fI .blk 1 x3.1)) (A.bl false))) amm amn () fun x11=>
 A.rb (A.ak (A.ak (A.aB x5.1) (A.bl true) (A.ak (A.ak (A.cmp .eql x9.1 x10.1) (A.cmp .eql (A.fI .blk 0 x2.1) (A.fI .blk 0 x3.1)) (A.bl false)) (A.cmp .eql (A.fI .blk 1 x2.1) (A.fI .blk 1 x3.1)) (A.bl false))) x11.1 (A.bl false))
end Go.TX.F
namespace Go.TX.Seat
open Go Go.AE Go.TX Go.Proofs
set_option maxRecDepth 100000
def ty:TypeId→Option TY
 | 2=>some ⟨(.int .i64),1,8,[.d true (.int .i64 0)]⟩
 | 3=>some ⟨(.int .i64),1,8,[.d true (.int .i64 0)]⟩
 | 4=>some ⟨.bool,1,1,[.d true (.bool false)]⟩
 | 5=>some ⟨(.int .u8),1,1,[.d true (.int .u8 0)]⟩
 | 6=>some ⟨(.int .u8),1,1,[.d true (.int .u8 0)]⟩
 | 7=>some ⟨(.struct [(0,2),(1,3),(2,4),(3,6)]),4,24,[.d true (.int .i64 0),.d true (.int .i64 0),.d true (.bool false),.d true (.int .u8 0)]⟩
 | 8=>some ⟨(.struct [(0,2),(1,3),(2,4),(3,6)]),4,24,[.d true (.int .i64 0),.d true (.int .i64 0),.d true (.bool false),.d true (.int .u8 0)]⟩
 | 9=>some ⟨.scalar,1,16,[.d true (.str ⟨#[]⟩)]⟩
 | 10=>some ⟨.scalar,1,16,[.d true (.str ⟨#[]⟩)]⟩
 | 11=>some ⟨.scalar,1,16,[.d true (.str ⟨#[]⟩)]⟩
 | 12=>some ⟨(.int .u64),1,8,[.d true (.int .u64 0)]⟩
 | 13=>some ⟨(.struct [(0,9),(1,12)]),2,24,[.d true (.str ⟨#[]⟩),.d true (.int .u64 0)]⟩
 | 14=>some ⟨(.struct [(0,9),(1,12)]),2,24,[.d true (.str ⟨#[]⟩),.d true (.int .u64 0)]⟩
 | 15=>some ⟨.scalar,1,8,[.np]⟩
 | 16=>some ⟨.scalar,1,8,[.np]⟩
 | 17=>some ⟨.scalar,1,8,[.np]⟩
 | 18=>some ⟨(.struct [(0,17)]),1,8,[.np]⟩
 | 19=>some ⟨(.struct [(0,17)]),1,8,[.np]⟩
 | 21=>some ⟨(.int .i32),1,4,[.d true (.int .i32 0)]⟩
 | 22=>some ⟨(.slice 5),1,24,[.nil]⟩
 | 23=>some ⟨(.slice 34),1,24,[.nil]⟩
 | 24=>some ⟨(.struct [(0,3),(1,3),(2,23),(3,3),(4,3),(5,3),(6,3)]),7,72,[.d true (.int .i64 0),.d true (.int .i64 0),.nil,.d true (.int .i64 0),.d true (.int .i64 0),.d true (.int .i64 0),.d true (.int .i64 0)]⟩
 | 25=>some ⟨(.struct [(0,3),(1,3),(2,23),(3,3),(4,3),(5,3),(6,3)]),7,72,[.d true (.int .i64 0),.d true (.int .i64 0),.nil,.d true (.int .i64 0),.d true (.int .i64 0),.d true (.int .i64 0),.d true (.int .i64 0)]⟩
 | 31=>some ⟨(.slice 4),1,24,[.nil]⟩
 | 33=>some ⟨(.struct [(0,3),(1,3),(2,3),(3,3),(4,3)]),5,40,[.d true (.int .i64 0),.d true (.int .i64 0),.d true (.int .i64 0),.d true (.int .i64 0),.d true (.int .i64 0)]⟩
 | 34=>some ⟨(.struct [(0,3),(1,3),(2,3),(3,3),(4,3)]),5,40,[.d true (.int .i64 0),.d true (.int .i64 0),.d true (.int .i64 0),.d true (.int .i64 0),.d true (.int .i64 0)]⟩
 | 37=>some ⟨(.slice 42),1,24,[.nil]⟩
 | 41=>some ⟨(.struct [(0,25),(7,25)]),14,144,[.d true (.int .i64 0),.d true (.int .i64 0),.nil,.d true (.int .i64 0),.d true (.int .i64 0),.d true (.int .i64 0),.d true (.int .i64 0),.d true (.int .i64 0),.d true (.int .i64 0),.nil,.d true (.int .i64 0),.d true (.int .i64 0),.d true (.int .i64 0),.d true (.int .i64 0)]⟩
 | 42=>some ⟨(.struct [(0,25),(7,25)]),14,144,[.d true (.int .i64 0),.d true (.int .i64 0),.nil,.d true (.int .i64 0),.d true (.int .i64 0),.d true (.int .i64 0),.d true (.int .i64 0),.d true (.int .i64 0),.d true (.int .i64 0),.nil,.d true (.int .i64 0),.d true (.int .i64 0),.d true (.int .i64 0),.d true (.int .i64 0)]⟩
 | 46=>some ⟨(.slice 52),1,24,[.nil]⟩
 | 50=>some ⟨(.slice 3),1,24,[.nil]⟩
 | 51=>some ⟨(.struct [(0,50),(1,25)]),8,96,[.nil,.d true (.int .i64 0),.d true (.int .i64 0),.nil,.d true (.int .i64 0),.d true (.int .i64 0),.d true (.int .i64 0),.d true (.int .i64 0)]⟩
 | 52=>some ⟨(.struct [(0,50),(1,25)]),8,96,[.nil,.d true (.int .i64 0),.d true (.int .i64 0),.nil,.d true (.int .i64 0),.d true (.int .i64 0),.d true (.int .i64 0),.d true (.int .i64 0)]⟩
 | 61=>some ⟨(.struct [(0,50),(1,3),(2,50),(3,3),(4,4),(5,4),(6,3),(7,50),(8,50),(9,3)]),10,136,[.nil,.d true (.int .i64 0),.nil,.d true (.int .i64 0),.d true (.bool false),.d true (.bool false),.d true (.int .i64 0),.nil,.nil,.d true (.int .i64 0)]⟩
 | 62=>some ⟨(.struct [(0,50),(1,3),(2,50),(3,3),(4,4),(5,4),(6,3),(7,50),(8,50),(9,3)]),10,136,[.nil,.d true (.int .i64 0),.nil,.d true (.int .i64 0),.d true (.bool false),.d true (.bool false),.d true (.int .i64 0),.nil,.nil,.d true (.int .i64 0)]⟩
 | 63=>some ⟨(.struct [(0,62),(10,46),(11,37)]),12,184,[.nil,.d true (.int .i64 0),.nil,.d true (.int .i64 0),.d true (.bool false),.d true (.bool false),.d true (.int .i64 0),.nil,.nil,.d true (.int .i64 0),.nil,.nil]⟩
 | 64=>some ⟨(.struct [(0,62),(10,46),(11,37)]),12,184,[.nil,.d true (.int .i64 0),.nil,.d true (.int .i64 0),.d true (.bool false),.d true (.bool false),.d true (.int .i64 0),.nil,.nil,.d true (.int .i64 0),.nil,.nil]⟩
 | 72=>some ⟨.scalar,1,8,[.np]⟩
 | 81=>some ⟨(.slice 169),1,24,[.nil]⟩
 | 82=>some ⟨(.struct [(0,81)]),1,24,[.nil]⟩
 | 83=>some ⟨(.struct [(0,81)]),1,24,[.nil]⟩
 | 84=>some ⟨(.slice 90),1,24,[.nil]⟩
 | 87=>some ⟨(.slice 140),1,24,[.nil]⟩
 | 88=>some ⟨(.slice 173),1,24,[.nil]⟩
 | 89=>some ⟨(.struct [(0,88)]),1,24,[.nil]⟩
 | 90=>some ⟨(.struct [(0,88)]),1,24,[.nil]⟩
 | 91=>some ⟨(.struct [(0,87),(1,84),(2,3),(3,90),(4,90),(5,3)]),6,112,[.nil,.nil,.d true (.int .i64 0),.nil,.nil,.d true (.int .i64 0)]⟩
 | 92=>some ⟨(.struct [(0,87),(1,84),(2,3),(3,90),(4,90),(5,3)]),6,112,[.nil,.nil,.d true (.int .i64 0),.nil,.nil,.d true (.int .i64 0)]⟩
 | 106=>some ⟨(.slice 160),1,24,[.nil]⟩
 | 125=>some ⟨(.struct [(0,22),(1,3)]),2,32,[.nil,.d true (.int .i64 0)]⟩
 | 126=>some ⟨(.struct [(0,22),(1,3)]),2,32,[.nil,.d true (.int .i64 0)]⟩
 | 127=>some ⟨.scalar,1,8,[.np]⟩
 | 133=>some ⟨.scalar,1,8,[.np]⟩
 | 134=>some ⟨(.struct [(0,83),(1,4)]),2,32,[.nil,.d true (.bool false)]⟩
 | 135=>some ⟨(.struct [(0,83),(1,4)]),2,32,[.nil,.d true (.bool false)]⟩
 | 139=>some ⟨(.struct [(0,3),(1,3),(2,90),(3,90),(4,84)]),5,88,[.d true (.int .i64 0),.d true (.int .i64 0),.nil,.nil,.nil]⟩
 | 140=>some ⟨(.struct [(0,3),(1,3),(2,90),(3,90),(4,84)]),5,88,[.d true (.int .i64 0),.d true (.int .i64 0),.nil,.nil,.nil]⟩
 | 159=>some ⟨(.struct [(0,3),(1,3),(2,3),(3,3)]),4,32,[.d true (.int .i64 0),.d true (.int .i64 0),.d true (.int .i64 0),.d true (.int .i64 0)]⟩
 | 160=>some ⟨(.struct [(0,3),(1,3),(2,3),(3,3)]),4,32,[.d true (.int .i64 0),.d true (.int .i64 0),.d true (.int .i64 0),.d true (.int .i64 0)]⟩
 | 168=>some ⟨(.struct [(0,3),(1,3),(2,90),(3,90)]),4,64,[.d true (.int .i64 0),.d true (.int .i64 0),.nil,.nil]⟩
 | 169=>some ⟨(.struct [(0,3),(1,3),(2,90),(3,90)]),4,64,[.d true (.int .i64 0),.d true (.int .i64 0),.nil,.nil]⟩
 | 172=>some ⟨(.struct [(0,3),(1,50)]),2,32,[.d true (.int .i64 0),.nil]⟩
 | 173=>some ⟨(.struct [(0,3),(1,50)]),2,32,[.d true (.int .i64 0),.nil]⟩
 | 190=>some ⟨(.struct [(0,4),(1,22)]),2,32,[.d true (.bool false),.nil]⟩
 | 191=>some ⟨(.struct [(0,4),(1,22)]),2,32,[.d true (.bool false),.nil]⟩
 | 260=>some ⟨(.slice 88),1,24,[.nil]⟩
 | 262=>some ⟨(.slice 50),1,24,[.nil]⟩
 | 266=>some ⟨(.int .u64),1,8,[.d true (.int .u64 0)]⟩
 | 277=>some ⟨(.int .i64),1,8,[.d true (.int .i64 0)]⟩
 | 284=>some ⟨(.int .u32),1,4,[.d true (.int .u32 0)]⟩
 | 286=>some ⟨(.int .u64),1,8,[.d true (.int .u64 0)]⟩
 | 291=>some ⟨(.int .u64),1,8,[.d true (.int .u64 0)]⟩
 | 295=>some ⟨.scalar,1,8,[.np]⟩
 | 298=>some ⟨.scalar,1,8,[.np]⟩
 | 302=>some ⟨(.struct [(0,17),(1,17),(2,17),(3,9)]),4,40,[.np,.np,.np,.d true (.str ⟨#[]⟩)]⟩
 | 303=>some ⟨(.struct [(0,17),(1,17),(2,17),(3,9)]),4,40,[.np,.np,.np,.d true (.str ⟨#[]⟩)]⟩
 | 308=>some ⟨(.int .u8),1,1,[.d true (.int .u8 0)]⟩
 | 309=>some ⟨(.int .u8),1,1,[.d true (.int .u8 0)]⟩
 | 311=>some ⟨.scalar,1,8,[.np]⟩
 | 312=>some ⟨(.int .i32),1,4,[.d true (.int .i32 0)]⟩
 | 313=>some ⟨(.int .i32),1,4,[.d true (.int .i32 0)]⟩
 | _=>none
theorem ok2:bL Tryz.prog 2 ⟨(.int .i64),1,8,[.d true (.int .i64 0)]⟩:=⟨⟨Tryz.t2,by kernel_rfl,rfl,rfl,_,rfl,fun c w=>aC (by rfl)⟩,Tryz.underlying2,rfl⟩
theorem ok3:bL Tryz.prog 3 ⟨(.int .i64),1,8,[.d true (.int .i64 0)]⟩:=⟨⟨Tryz.t3,by kernel_rfl,rfl,rfl,_,rfl,fun c w=>aC (by rfl)⟩,Tryz.underlying3,rfl⟩
theorem ok4:bL Tryz.prog 4 ⟨.bool,1,1,[.d true (.bool false)]⟩:=⟨⟨Tryz.t4,by kernel_rfl,rfl,rfl,_,rfl,fun c w=>aC (by rfl)⟩,Tryz.underlying4,rfl⟩
theorem ok5:bL Tryz.prog 5 ⟨(.int .u8),1,1,[.d true (.int .u8 0)]⟩:=⟨⟨Tryz.t5,by kernel_rfl,rfl,rfl,_,rfl,fun c w=>aC (by rfl)⟩,Tryz.underlying5,rfl⟩
theorem ok6:bL Tryz.prog 6 ⟨(.int .u8),1,1,[.d true (.int .u8 0)]⟩:=⟨⟨Tryz.t6,by kernel_rfl,rfl,rfl,_,rfl,fun c w=>aC (by rfl)⟩,Tryz.underlying6,rfl⟩
theorem ok7:bL Tryz.prog 7 ⟨(.struct [(0,2),(1,3),(2,4),(3,6)]),4,24,[.d true (.int .i64 0),.d true (.int .i64 0),.d true (.bool false),.d true (.int .u8 0)]⟩:=⟨⟨Tryz.t7,by kernel_rfl,rfl,rfl,_,rfl,fun c w=>aC (by rfl)⟩,⟨_,Tryz.underlying7,by rfl⟩,rfl⟩
theorem ok8:bL Tryz.prog 8 ⟨(.struct [(0,2),(1,3),(2,4),(3,6)]),4,24,[.d true (.int .i64 0),.d true (.int .i64 0),.d true (.bool false),.d true (.int .u8 0)]⟩:=⟨⟨Tryz.t8,by kernel_rfl,rfl,rfl,_,rfl,fun c w=>aC (by rfl)⟩,⟨_,Tryz.underlying8,by rfl⟩,rfl⟩
theorem ok9:bL Tryz.prog 9 ⟨.scalar,1,16,[.d true (.str ⟨#[]⟩)]⟩:=⟨⟨Tryz.t9,by kernel_rfl,rfl,rfl,_,rfl,fun c w=>aC (by rfl)⟩,⟨_,Tryz.underlying9,(fun _ h=>by cases h),(fun _ _ h=>by cases h)⟩,rfl⟩
theorem aqN:bL Tryz.prog 10 ⟨.scalar,1,16,[.d true (.str ⟨#[]⟩)]⟩:=⟨⟨Tryz.t10,by kernel_rfl,rfl,rfl,_,rfl,fun c w=>aC (by rfl)⟩,⟨_,Tryz.underlying10,(fun _ h=>by cases h),(fun _ _ h=>by cases h)⟩,rfl⟩
theorem aqO:bL Tryz.prog 11 ⟨.scalar,1,16,[.d true (.str ⟨#[]⟩)]⟩:=⟨⟨Tryz.t11,by kernel_rfl,rfl,rfl,_,rfl,fun c w=>aC (by rfl)⟩,⟨_,Tryz.underlying11,(fun _ h=>by cases h),(fun _ _ h=>by cases h)⟩,rfl⟩
theorem aqP:bL Tryz.prog 12 ⟨(.int .u64),1,8,[.d true (.int .u64 0)]⟩:=⟨⟨Tryz.t12,by kernel_rfl,rfl,rfl,_,rfl,fun c w=>aC (by rfl)⟩,Tryz.underlying12,rfl⟩
theorem aqQ:bL Tryz.prog 13 ⟨(.struct [(0,9),(1,12)]),2,24,[.d true (.str ⟨#[]⟩),.d true (.int .u64 0)]⟩:=⟨⟨Tryz.t13,by kernel_rfl,rfl,rfl,_,rfl,fun c w=>aC (by rfl)⟩,⟨_,Tryz.underlying13,by rfl⟩,rfl⟩
theorem aqR:bL Tryz.prog 14 ⟨(.struct [(0,9),(1,12)]),2,24,[.d true (.str ⟨#[]⟩),.d true (.int .u64 0)]⟩:=⟨⟨Tryz.t14,by kernel_rfl,rfl,rfl,_,rfl,fun c w=>aC (by rfl)⟩,⟨_,Tryz.underlying14,by rfl⟩,rfl⟩
theorem aqS:bL Tryz.prog 15 ⟨.scalar,1,8,[.np]⟩:=⟨⟨Tryz.t15,by kernel_rfl,rfl,rfl,_,rfl,fun c w=>aC (by rfl)⟩,⟨_,Tryz.underlying15,(fun _ h=>by cases h),(fun _ _ h=>by cases h)⟩,rfl⟩
theorem ok16:bL Tryz.prog 16 ⟨.scalar,1,8,[.np]⟩:=⟨⟨Tryz.t16,by kernel_rfl,rfl,rfl,_,rfl,fun c w=>aC (by rfl)⟩,⟨_,Tryz.underlying16,(fun _ h=>by cases h),(fun _ _ h=>by cases h)⟩,rfl⟩
theorem aqT:bL Tryz.prog 17 ⟨.scalar,1,8,[.np]⟩:=⟨⟨Tryz.t17,by kernel_rfl,rfl,rfl,_,rfl,fun c w=>aC (by rfl)⟩,⟨_,Tryz.underlying17,(fun _ h=>by cases h),(fun _ _ h=>by cases h)⟩,rfl⟩
theorem aqU:bL Tryz.prog 18 ⟨(.struct [(0,17)]),1,8,[.np]⟩:=⟨⟨Tryz.t18,by kernel_rfl,rfl,rfl,_,rfl,fun c w=>aC (by rfl)⟩,⟨_,Tryz.underlying18,by rfl⟩,rfl⟩
theorem aqV:bL Tryz.prog 19 ⟨(.struct [(0,17)]),1,8,[.np]⟩:=⟨⟨Tryz.t19,by kernel_rfl,rfl,rfl,_,rfl,fun c w=>aC (by rfl)⟩,⟨_,Tryz.underlying19,by rfl⟩,rfl⟩
theorem aqW:bL Tryz.prog 21 ⟨(.int .i32),1,4,[.d true (.int .i32 0)]⟩:=⟨⟨Tryz.t21,by kernel_rfl,rfl,rfl,_,rfl,fun c w=>aC (by rfl)⟩,Tryz.underlying21,rfl⟩
theorem aqX:bL Tryz.prog 22 ⟨(.slice 5),1,24,[.nil]⟩:=⟨⟨Tryz.t22,by kernel_rfl,rfl,rfl,_,rfl,fun c w=>aC (by rfl)⟩,Tryz.underlying22,rfl⟩
theorem aqY:bL Tryz.prog 23 ⟨(.slice 34),1,24,[.nil]⟩:=⟨⟨Tryz.t23,by kernel_rfl,rfl,rfl,_,rfl,fun c w=>aC (by rfl)⟩,Tryz.underlying23,rfl⟩
theorem aqZ:bL Tryz.prog 24 ⟨(.struct [(0,3),(1,3),(2,23),(3,3),(4,3),(5,3),(6,3)]),7,72,[.d true (.int .i64 0),.d true (.int .i64 0),.nil,.d true (.int .i64 0),.d true (.int .i64 0),.d true (.int .i64 0),.d true (.int .i64 0)]⟩:=⟨⟨Tryz.t24,by kernel_rfl,rfl,rfl,_,rfl,fun c w=>aC (by rfl)⟩,⟨_,Tryz.underlying24,by rfl⟩,rfl⟩
theorem aq0:bL Tryz.prog 25 ⟨(.struct [(0,3),(1,3),(2,23),(3,3),(4,3),(5,3),(6,3)]),7,72,[.d true (.int .i64 0),.d true (.int .i64 0),.nil,.d true (.int .i64 0),.d true (.int .i64 0),.d true (.int .i64 0),.d true (.int .i64 0)]⟩:=⟨⟨Tryz.t25,by kernel_rfl,rfl,rfl,_,rfl,fun c w=>aC (by rfl)⟩,⟨_,Tryz.underlying25,by rfl⟩,rfl⟩
theorem aq1:bL Tryz.prog 31 ⟨(.slice 4),1,24,[.nil]⟩:=⟨⟨Tryz.t31,by kernel_rfl,rfl,rfl,_,rfl,fun c w=>aC (by rfl)⟩,Tryz.underlying31,rfl⟩
theorem aq2:bL Tryz.prog 33 ⟨(.struct [(0,3),(1,3),(2,3),(3,3),(4,3)]),5,40,[.d true (.int .i64 0),.d true (.int .i64 0),.d true (.int .i64 0),.d true (.int .i64 0),.d true (.int .i64 0)]⟩:=⟨⟨Tryz.t33,by kernel_rfl,rfl,rfl,_,rfl,fun c w=>aC (by rfl)⟩,⟨_,Tryz.underlying33,by rfl⟩,rfl⟩
theorem aq3:bL Tryz.prog 34 ⟨(.struct [(0,3),(1,3),(2,3),(3,3),(4,3)]),5,40,[.d true (.int .i64 0),.d true (.int .i64 0),.d true (.int .i64 0),.d true (.int .i64 0),.d true (.int .i64 0)]⟩:=⟨⟨Tryz.t34,by kernel_rfl,rfl,rfl,_,rfl,fun c w=>aC (by rfl)⟩,⟨_,Tryz.underlying34,by rfl⟩,rfl⟩
theorem aq4:bL Tryz.prog 37 ⟨(.slice 42),1,24,[.nil]⟩:=⟨⟨Tryz.t37,by kernel_rfl,rfl,rfl,_,rfl,fun c w=>aC (by rfl)⟩,Tryz.underlying37,rfl⟩
theorem aq5:bL Tryz.prog 41 ⟨(.struct [(0,25),(7,25)]),14,144,[.d true (.int .i64 0),.d true (.int .i64 0),.nil,.d true (.int .i64 0),.d true (.int .i64 0),.d true (.int .i64 0),.d true (.int .i64 0),.d true (.int .i64 0),.d true (.int .i64 0),.nil,.d true (.int .i64 0),.d true (.int .i64 0),.d true (.int .i64 0),.d true (.int .i64 0)]⟩:=⟨⟨Tryz.t41,by kernel_rfl,rfl,rfl,_,rfl,fun c w=>aC (by rfl)⟩,⟨_,Tryz.underlying41,by rfl⟩,rfl⟩
theorem aq6:bL Tryz.prog 42 ⟨(.struct [(0,25),(7,25)]),14,144,[.d true (.int .i64 0),.d true (.int .i64 0),.nil,.d true (.int .i64 0),.d true (.int .i64 0),.d true (.int .i64 0),.d true (.int .i64 0),.d true (.int .i64 0),.d true (.int .i64 0),.nil,.d true (.int .i64 0),.d true (.int .i64 0),.d true (.int .i64 0),.d true (.int .i64 0)]⟩:=⟨⟨Tryz.t42,by kernel_rfl,rfl,rfl,_,rfl,fun c w=>aC (by rfl)⟩,⟨_,Tryz.underlying42,by rfl⟩,rfl⟩
theorem aq7:bL Tryz.prog 46 ⟨(.slice 52),1,24,[.nil]⟩:=⟨⟨Tryz.t46,by kernel_rfl,rfl,rfl,_,rfl,fun c w=>aC (by rfl)⟩,Tryz.underlying46,rfl⟩
theorem aq8:bL Tryz.prog 50 ⟨(.slice 3),1,24,[.nil]⟩:=⟨⟨Tryz.t50,by kernel_rfl,rfl,rfl,_,rfl,fun c w=>aC (by rfl)⟩,Tryz.underlying50,rfl⟩
theorem aq9:bL Tryz.prog 51 ⟨(.struct [(0,50),(1,25)]),8,96,[.nil,.d true (.int .i64 0),.d true (.int .i64 0),.nil,.d true (.int .i64 0),.d true (.int .i64 0),.d true (.int .i64 0),.d true (.int .i64 0)]⟩:=⟨⟨Tryz.t51,by kernel_rfl,rfl,rfl,_,rfl,fun c w=>aC (by rfl)⟩,⟨_,Tryz.underlying51,by rfl⟩,rfl⟩
theorem ara:bL Tryz.prog 52 ⟨(.struct [(0,50),(1,25)]),8,96,[.nil,.d true (.int .i64 0),.d true (.int .i64 0),.nil,.d true (.int .i64 0),.d true (.int .i64 0),.d true (.int .i64 0),.d true (.int .i64 0)]⟩:=⟨⟨Tryz.t52,by kernel_rfl,rfl,rfl,_,rfl,fun c w=>aC (by rfl)⟩,⟨_,Tryz.underlying52,by rfl⟩,rfl⟩
theorem arb:bL Tryz.prog 61 ⟨(.struct [(0,50),(1,3),(2,50),(3,3),(4,4),(5,4),(6,3),(7,50),(8,50),(9,3)]),10,136,[.nil,.d true (.int .i64 0),.nil,.d true (.int .i64 0),.d true (.bool false),.d true (.bool false),.d true (.int .i64 0),.nil,.nil,.d true (.int .i64 0)]⟩:=⟨⟨Tryz.t61,by kernel_rfl,rfl,rfl,_,rfl,fun c w=>aC (by rfl)⟩,⟨_,Tryz.underlying61,by rfl⟩,rfl⟩
theorem ard:bL Tryz.prog 62 ⟨(.struct [(0,50),(1,3),(2,50),(3,3),(4,4),(5,4),(6,3),(7,50),(8,50),(9,3)]),10,136,[.nil,.d true (.int .i64 0),.nil,.d true (.int .i64 0),.d true (.bool false),.d true (.bool false),.d true (.int .i64 0),.nil,.nil,.d true (.int .i64 0)]⟩:=⟨⟨Tryz.t62,by kernel_rfl,rfl,rfl,_,rfl,fun c w=>aC (by rfl)⟩,⟨_,Tryz.underlying62,by rfl⟩,rfl⟩
theorem arf:bL Tryz.prog 63 ⟨(.struct [(0,62),(10,46),(11,37)]),12,184,[.nil,.d true (.int .i64 0),.nil,.d true (.int .i64 0),.d true (.bool false),.d true (.bool false),.d true (.int .i64 0),.nil,.nil,.d true (.int .i64 0),.nil,.nil]⟩:=⟨⟨Tryz.t63,by kernel_rfl,rfl,rfl,_,rfl,fun c w=>aC (by rfl)⟩,⟨_,Tryz.underlying63,by rfl⟩,rfl⟩
theorem arh:bL Tryz.prog 64 ⟨(.struct [(0,62),(10,46),(11,37)]),12,184,[.nil,.d true (.int .i64 0),.nil,.d true (.int .i64 0),.d true (.bool false),.d true (.bool false),.d true (.int .i64 0),.nil,.nil,.d true (.int .i64 0),.nil,.nil]⟩:=⟨⟨Tryz.t64,by kernel_rfl,rfl,rfl,_,rfl,fun c w=>aC (by rfl)⟩,⟨_,Tryz.underlying64,by rfl⟩,rfl⟩
theorem ari:bL Tryz.prog 72 ⟨.scalar,1,8,[.np]⟩:=⟨⟨Tryz.t72,by kernel_rfl,rfl,rfl,_,rfl,fun c w=>aC (by rfl)⟩,⟨_,Tryz.underlying72,(fun _ h=>by cases h),(fun _ _ h=>by cases h)⟩,rfl⟩
theorem arj:bL Tryz.prog 81 ⟨(.slice 169),1,24,[.nil]⟩:=⟨⟨Tryz.t81,by kernel_rfl,rfl,rfl,_,rfl,fun c w=>aC (by rfl)⟩,Tryz.underlying81,rfl⟩
theorem ark:bL Tryz.prog 82 ⟨(.struct [(0,81)]),1,24,[.nil]⟩:=⟨⟨Tryz.t82,by kernel_rfl,rfl,rfl,_,rfl,fun c w=>aC (by rfl)⟩,⟨_,Tryz.underlying82,by rfl⟩,rfl⟩
theorem arl:bL Tryz.prog 83 ⟨(.struct [(0,81)]),1,24,[.nil]⟩:=⟨⟨Tryz.t83,by kernel_rfl,rfl,rfl,_,rfl,fun c w=>aC (by rfl)⟩,⟨_,Tryz.underlying83,by rfl⟩,rfl⟩
theorem arn:bL Tryz.prog 84 ⟨(.slice 90),1,24,[.nil]⟩:=⟨⟨Tryz.t84,by kernel_rfl,rfl,rfl,_,rfl,fun c w=>aC (by rfl)⟩,Tryz.underlying84,rfl⟩
theorem aro:bL Tryz.prog 87 ⟨(.slice 140),1,24,[.nil]⟩:=⟨⟨Tryz.t87,by kernel_rfl,rfl,rfl,_,rfl,fun c w=>aC (by rfl)⟩,Tryz.underlying87,rfl⟩
theorem arp:bL Tryz.prog 88 ⟨(.slice 173),1,24,[.nil]⟩:=⟨⟨Tryz.t88,by kernel_rfl,rfl,rfl,_,rfl,fun c w=>aC (by rfl)⟩,Tryz.underlying88,rfl⟩
theorem arq:bL Tryz.prog 89 ⟨(.struct [(0,88)]),1,24,[.nil]⟩:=⟨⟨Tryz.t89,by kernel_rfl,rfl,rfl,_,rfl,fun c w=>aC (by rfl)⟩,⟨_,Tryz.underlying89,by rfl⟩,rfl⟩
theorem ars:bL Tryz.prog 90 ⟨(.struct [(0,88)]),1,24,[.nil]⟩:=⟨⟨Tryz.t90,by kernel_rfl,rfl,rfl,_,rfl,fun c w=>aC (by rfl)⟩,⟨_,Tryz.underlying90,by rfl⟩,rfl⟩
theorem aru:bL Tryz.prog 91 ⟨(.struct [(0,87),(1,84),(2,3),(3,90),(4,90),(5,3)]),6,112,[.nil,.nil,.d true (.int .i64 0),.nil,.nil,.d true (.int .i64 0)]⟩:=⟨⟨Tryz.t91,by kernel_rfl,rfl,rfl,_,rfl,fun c w=>aC (by rfl)⟩,⟨_,Tryz.underlying91,by rfl⟩,rfl⟩
theorem arv:bL Tryz.prog 92 ⟨(.struct [(0,87),(1,84),(2,3),(3,90),(4,90),(5,3)]),6,112,[.nil,.nil,.d true (.int .i64 0),.nil,.nil,.d true (.int .i64 0)]⟩:=⟨⟨Tryz.t92,by kernel_rfl,rfl,rfl,_,rfl,fun c w=>aC (by rfl)⟩,⟨_,Tryz.underlying92,by rfl⟩,rfl⟩
theorem amo:bL Tryz.prog 106 ⟨(.slice 160),1,24,[.nil]⟩:=⟨⟨Tryz.t106,by kernel_rfl,rfl,rfl,_,rfl,fun c w=>aC (by rfl)⟩,Tryz.underlying106,rfl⟩
theorem amq:bL Tryz.prog 125 ⟨(.struct [(0,22),(1,3)]),2,32,[.nil,.d true (.int .i64 0)]⟩:=⟨⟨Tryz.t125,by kernel_rfl,rfl,rfl,_,rfl,fun c w=>aC (by rfl)⟩,⟨_,Tryz.underlying125,by rfl⟩,rfl⟩
theorem amr:bL Tryz.prog 126 ⟨(.struct [(0,22),(1,3)]),2,32,[.nil,.d true (.int .i64 0)]⟩:=⟨⟨Tryz.t126,by kernel_rfl,rfl,rfl,_,rfl,fun c w=>aC (by rfl)⟩,⟨_,Tryz.underlying126,by rfl⟩,rfl⟩
theorem ams:bL Tryz.prog 127 ⟨.scalar,1,8,[.np]⟩:=⟨⟨Tryz.t127,by kernel_rfl,rfl,rfl,_,rfl,fun c w=>aC (by rfl)⟩,⟨_,Tryz.underlying127,(fun _ h=>by cases h),(fun _ _ h=>by cases h)⟩,rfl⟩
theorem amt:bL Tryz.prog 133 ⟨.scalar,1,8,[.np]⟩:=⟨⟨Tryz.t133,by kernel_rfl,rfl,rfl,_,rfl,fun c w=>aC (by rfl)⟩,⟨_,Tryz.underlying133,(fun _ h=>by cases h),(fun _ _ h=>by cases h)⟩,rfl⟩
theorem amu:bL Tryz.prog 134 ⟨(.struct [(0,83),(1,4)]),2,32,[.nil,.d true (.bool false)]⟩:=⟨⟨Tryz.t134,by kernel_rfl,rfl,rfl,_,rfl,fun c w=>aC (by rfl)⟩,⟨_,Tryz.underlying134,by rfl⟩,rfl⟩
theorem amv:bL Tryz.prog 135 ⟨(.struct [(0,83),(1,4)]),2,32,[.nil,.d true (.bool false)]⟩:=⟨⟨Tryz.t135,by kernel_rfl,rfl,rfl,_,rfl,fun c w=>aC (by rfl)⟩,⟨_,Tryz.underlying135,by rfl⟩,rfl⟩
theorem amw:bL Tryz.prog 139 ⟨(.struct [(0,3),(1,3),(2,90),(3,90),(4,84)]),5,88,[.d true (.int .i64 0),.d true (.int .i64 0),.nil,.nil,.nil]⟩:=⟨⟨Tryz.t139,by kernel_rfl,rfl,rfl,_,rfl,fun c w=>aC (by rfl)⟩,⟨_,Tryz.underlying139,by rfl⟩,rfl⟩
theorem amx:bL Tryz.prog 140 ⟨(.struct [(0,3),(1,3),(2,90),(3,90),(4,84)]),5,88,[.d true (.int .i64 0),.d true (.int .i64 0),.nil,.nil,.nil]⟩:=⟨⟨Tryz.t140,by kernel_rfl,rfl,rfl,_,rfl,fun c w=>aC (by rfl)⟩,⟨_,Tryz.underlying140,by rfl⟩,rfl⟩
theorem amy:bL Tryz.prog 159 ⟨(.struct [(0,3),(1,3),(2,3),(3,3)]),4,32,[.d true (.int .i64 0),.d true (.int .i64 0),.d true (.int .i64 0),.d true (.int .i64 0)]⟩:=⟨⟨Tryz.t159,by kernel_rfl,rfl,rfl,_,rfl,fun c w=>aC (by rfl)⟩,⟨_,Tryz.underlying159,by rfl⟩,rfl⟩
theorem amA:bL Tryz.prog 160 ⟨(.struct [(0,3),(1,3),(2,3),(3,3)]),4,32,[.d true (.int .i64 0),.d true (.int .i64 0),.d true (.int .i64 0),.d true (.int .i64 0)]⟩:=⟨⟨Tryz.t160,by kernel_rfl,rfl,rfl,_,rfl,fun c w=>aC (by rfl)⟩,⟨_,Tryz.underlying160,by rfl⟩,rfl⟩
theorem amB:bL Tryz.prog 168 ⟨(.struct [(0,3),(1,3),(2,90),(3,90)]),4,64,[.d true (.int .i64 0),.d true (.int .i64 0),.nil,.nil]⟩:=⟨⟨Tryz.t168,by kernel_rfl,rfl,rfl,_,rfl,fun c w=>aC (by rfl)⟩,⟨_,Tryz.underlying168,by rfl⟩,rfl⟩
theorem amC:bL Tryz.prog 169 ⟨(.struct [(0,3),(1,3),(2,90),(3,90)]),4,64,[.d true (.int .i64 0),.d true (.int .i64 0),.nil,.nil]⟩:=⟨⟨Tryz.t169,by kernel_rfl,rfl,rfl,_,rfl,fun c w=>aC (by rfl)⟩,⟨_,Tryz.underlying169,by rfl⟩,rfl⟩
theorem amD:bL Tryz.prog 172 ⟨(.struct [(0,3),(1,50)]),2,32,[.d true (.int .i64 0),.nil]⟩:=⟨⟨Tryz.t172,by kernel_rfl,rfl,rfl,_,rfl,fun c w=>aC (by rfl)⟩,⟨_,Tryz.underlying172,by rfl⟩,rfl⟩
theorem amE:bL Tryz.prog 173 ⟨(.struct [(0,3),(1,50)]),2,32,[.d true (.int .i64 0),.nil]⟩:=⟨⟨Tryz.t173,by kernel_rfl,rfl,rfl,_,rfl,fun c w=>aC (by rfl)⟩,⟨_,Tryz.underlying173,by rfl⟩,rfl⟩
theorem amF:bL Tryz.prog 190 ⟨(.struct [(0,4),(1,22)]),2,32,[.d true (.bool false),.nil]⟩:=⟨⟨Tryz.t190,by kernel_rfl,rfl,rfl,_,rfl,fun c w=>aC (by rfl)⟩,⟨_,Tryz.underlying190,by rfl⟩,rfl⟩
theorem amG:bL Tryz.prog 191 ⟨(.struct [(0,4),(1,22)]),2,32,[.d true (.bool false),.nil]⟩:=⟨⟨Tryz.t191,by kernel_rfl,rfl,rfl,_,rfl,fun c w=>aC (by rfl)⟩,⟨_,Tryz.underlying191,by rfl⟩,rfl⟩
theorem amH:bL Tryz.prog 260 ⟨(.slice 88),1,24,[.nil]⟩:=⟨⟨Tryz.t260,by kernel_rfl,rfl,rfl,_,rfl,fun c w=>aC (by rfl)⟩,Tryz.underlying260,rfl⟩
theorem amI:bL Tryz.prog 262 ⟨(.slice 50),1,24,[.nil]⟩:=⟨⟨Tryz.t262,by kernel_rfl,rfl,rfl,_,rfl,fun c w=>aC (by rfl)⟩,Tryz.underlying262,rfl⟩
theorem amJ:bL Tryz.prog 266 ⟨(.int .u64),1,8,[.d true (.int .u64 0)]⟩:=⟨⟨Tryz.t266,by kernel_rfl,rfl,rfl,_,rfl,fun c w=>aC (by rfl)⟩,Tryz.underlying266,rfl⟩
theorem amK:bL Tryz.prog 277 ⟨(.int .i64),1,8,[.d true (.int .i64 0)]⟩:=⟨⟨Tryz.t277,by kernel_rfl,rfl,rfl,_,rfl,fun c w=>aC (by rfl)⟩,Tryz.underlying277,rfl⟩
theorem amL:bL Tryz.prog 284 ⟨(.int .u32),1,4,[.d true (.int .u32 0)]⟩:=⟨⟨Tryz.t284,by kernel_rfl,rfl,rfl,_,rfl,fun c w=>aC (by rfl)⟩,Tryz.underlying284,rfl⟩
theorem amM:bL Tryz.prog 286 ⟨(.int .u64),1,8,[.d true (.int .u64 0)]⟩:=⟨⟨Tryz.t286,by kernel_rfl,rfl,rfl,_,rfl,fun c w=>aC (by rfl)⟩,Tryz.underlying286,rfl⟩
theorem amN:bL Tryz.prog 291 ⟨(.int .u64),1,8,[.d true (.int .u64 0)]⟩:=⟨⟨Tryz.t291,by kernel_rfl,rfl,rfl,_,rfl,fun c w=>aC (by rfl)⟩,Tryz.underlying291,rfl⟩
theorem amO:bL Tryz.prog 295 ⟨.scalar,1,8,[.np]⟩:=⟨⟨Tryz.t295,by kernel_rfl,rfl,rfl,_,rfl,fun c w=>aC (by rfl)⟩,⟨_,Tryz.underlying295,(fun _ h=>by cases h),(fun _ _ h=>by cases h)⟩,rfl⟩
theorem amP:bL Tryz.prog 298 ⟨.scalar,1,8,[.np]⟩:=⟨⟨Tryz.t298,by kernel_rfl,rfl,rfl,_,rfl,fun c w=>aC (by rfl)⟩,⟨_,Tryz.underlying298,(fun _ h=>by cases h),(fun _ _ h=>by cases h)⟩,rfl⟩
theorem amQ:bL Tryz.prog 302 ⟨(.struct [(0,17),(1,17),(2,17),(3,9)]),4,40,[.np,.np,.np,.d true (.str ⟨#[]⟩)]⟩:=⟨⟨Tryz.t302,by kernel_rfl,rfl,rfl,_,rfl,fun c w=>aC (by rfl)⟩,⟨_,Tryz.underlying302,by rfl⟩,rfl⟩
theorem amR:bL Tryz.prog 303 ⟨(.struct [(0,17),(1,17),(2,17),(3,9)]),4,40,[.np,.np,.np,.d true (.str ⟨#[]⟩)]⟩:=⟨⟨Tryz.t303,by kernel_rfl,rfl,rfl,_,rfl,fun c w=>aC (by rfl)⟩,⟨_,Tryz.underlying303,by rfl⟩,rfl⟩
theorem amS:bL Tryz.prog 308 ⟨(.int .u8),1,1,[.d true (.int .u8 0)]⟩:=⟨⟨Tryz.t308,by kernel_rfl,rfl,rfl,_,rfl,fun c w=>aC (by rfl)⟩,Tryz.underlying308,rfl⟩
theorem amT:bL Tryz.prog 309 ⟨(.int .u8),1,1,[.d true (.int .u8 0)]⟩:=⟨⟨Tryz.t309,by kernel_rfl,rfl,rfl,_,rfl,fun c w=>aC (by rfl)⟩,Tryz.underlying309,rfl⟩
theorem amU:bL Tryz.prog 311 ⟨.scalar,1,8,[.np]⟩:=⟨⟨Tryz.t311,by kernel_rfl,rfl,rfl,_,rfl,fun c w=>aC (by rfl)⟩,⟨_,Tryz.underlying311,(fun _ h=>by cases h),(fun _ _ h=>by cases h)⟩,rfl⟩
theorem amV:bL Tryz.prog 312 ⟨(.int .i32),1,4,[.d true (.int .i32 0)]⟩:=⟨⟨Tryz.t312,by kernel_rfl,rfl,rfl,_,rfl,fun c w=>aC (by rfl)⟩,Tryz.underlying312,rfl⟩
theorem amW:bL Tryz.prog 313 ⟨(.int .i32),1,4,[.d true (.int .i32 0)]⟩:=⟨⟨Tryz.t313,by kernel_rfl,rfl,rfl,_,rfl,fun c w=>aC (by rfl)⟩,Tryz.underlying313,rfl⟩
theorem arw:∀t y,ty t=some y→bL Tryz.prog t y:=by
 intro t y h
 unfold ty at h
 split at h<;>first | (cases h;done) | skip
 ·cases h;exact ok2
 ·cases h;exact ok3
 ·cases h;exact ok4
 ·cases h;exact ok5
 ·cases h;exact ok6
 ·cases h;exact ok7
 ·cases h;exact ok8
 ·cases h;exact ok9
 ·cases h;exact aqN
 ·cases h;exact aqO
 ·cases h;exact aqP
 ·cases h;exact aqQ
 ·cases h;exact aqR
 ·cases h;exact aqS
 ·cases h;exact ok16
 ·cases h;exact aqT
 ·cases h;exact aqU
 ·cases h;exact aqV
 ·cases h;exact aqW
 ·cases h;exact aqX
 ·cases h;exact aqY
 ·cases h;exact aqZ
 ·cases h;exact aq0
 ·cases h;exact aq1
 ·cases h;exact aq2
 ·cases h;exact aq3
 ·cases h;exact aq4
 ·cases h;exact aq5
 ·cases h;exact aq6
 ·cases h;exact aq7
 ·cases h;exact aq8
 ·cases h;exact aq9
 ·cases h;exact ara
 ·cases h;exact arb
 ·cases h;exact ard
 ·cases h;exact arf
 ·cases h;exact arh
 ·cases h;exact ari
 ·cases h;exact arj
 ·cases h;exact ark
 ·cases h;exact arl
 ·cases h;exact arn
 ·cases h;exact aro
 ·cases h;exact arp
 ·cases h;exact arq
 ·cases h;exact ars
 ·cases h;exact aru
 ·cases h;exact arv
 ·cases h;exact amo
 ·cases h;exact amq
 ·cases h;exact amr
 ·cases h;exact ams
 ·cases h;exact amt
 ·cases h;exact amu
 ·cases h;exact amv
 ·cases h;exact amw
 ·cases h;exact amx
 ·cases h;exact amy
 ·cases h;exact amA
 ·cases h;exact amB
 ·cases h;exact amC
 ·cases h;exact amD
 ·cases h;exact amE
 ·cases h;exact amF
 ·cases h;exact amG
 ·cases h;exact amH
 ·cases h;exact amI
 ·cases h;exact amJ
 ·cases h;exact amK
 ·cases h;exact amL
 ·cases h;exact amM
 ·cases h;exact amN
 ·cases h;exact amO
 ·cases h;exact amP
 ·cases h;exact amQ
 ·cases h;exact amR
 ·cases h;exact amS
 ·cases h;exact amT
 ·cases h;exact amU
 ·cases h;exact amV
 ·cases h;exact amW
def co:TypeId→Option Co
 | 3=>some .i64
 | 4=>some .bool
 | 5=>some .u8
 | 9=>some .str
 | 25=>some .blk
 | 34=>some .iop
 | 42=>some .cer
 | 50=>some .ints
 | 52=>some .cac
 | 62=>some .Iy
 | 64=>some .eng
 | 83=>some .tab
 | 88=>some .poly
 | 90=>some .poly
 | 92=>some .sym
 | 140=>some .ev
 | 160=>some .ins
 | 169=>some .atom
 | 173=>some .mono
 | 191=>some .ask
 | _=>none
def ieq:TypeId→Option Co
 | 34=>some .iop
 | 160=>some .ins
 | _=>none
def X:XT:={ty:=ty,co:=co,glob:=fun g=>none,ieq:=ieq}
noncomputable def E:Tab:={P:=Tryz.prog,ty:=ty,glob:=fun g=>none,ieq:=fun t=>(ieq t).map fun c=>c.size}
end Go.TX.Seat
namespace Go.TX.Seat
open Go Go.AE Go.TX Go.TX.F Go.Proofs
set_option maxRecDepth 100000
theorem agB (A:Alg): @Ru aH.z X E A [(7,[(0,([0],[])),(1,([47],[])),(2,([48],[])),(3,([49],[])),(4,([5],[])),(5,([0],[])),(6,([52],[])),(7,([53],[])),(8,([54],[])),(9,([55],[])),(10,([51,56],[])),(11,([50,57],[])),(12,([58],[])),(13,([59],[])),(14,([60],[])),(15,([0],[])),(16,([62],[])),(17,([63],[])),(18,([64],[])),(19,([5],[])),(20,([66],[])),(21,([67],[])),(22,([0],[])),(23,([69],[])),(24,([70],[])),(25,([71],[])),(26,([72],[])),(27,([68,73],[])),(28,([65,74],[])),(29,([75],[])),(30,([76],[])),(31,([77],[])),(32,([61,78],[])),(33,([5],[])),(34,([80],[])),(35,([79,81],[])),(36,([5],[])),(37,([0],[])),(38,([84],[])),(39,([85],[])),(40,([86],[])),(41,([87],[])),(42,([83,88],[])),(43,([89],[])),(44,([82,90],[])),(45,([91],[]))])] .u dK Tryz.f78 [] (Qk A):=fun _=>by kernel_rfl
theorem agC (A:Alg) (bE:Ct A.ah dK): @Ru aH.z X E A [] .u Eo Tryz.f91 [(78,⟨_,bE⟩)] (Ql A bE.pre bE.fn):=fun _=>by kernel_rfl
theorem agD (A:Alg): @Ru aH.z X E A [] .u fK Tryz.f61 [] (Qm A):=fun _=>by kernel_rfl
theorem agE (A:Alg): @Ru aH.z X E A [] .u mZ Tryz.f115 [] (Qn A):=fun _=>by kernel_rfl
theorem agF (A:Alg) (bU:Ct A.ah fK): @Ru aH.z X E A [] .u Ep Tryz.f156 [(61,⟨_,bU⟩)] (Qo A bU.pre bU.fn):=fun _=>by kernel_rfl
theorem agG (A:Alg) (F6:Ct A.ah Ep): @Ru aH.z X E A [] .u uo Tryz.f116 [(156,⟨_,F6⟩)] (Qp A F6.pre F6.fn):=fun _=>by kernel_rfl
theorem agH (A:Alg) (jk:Ct A.ah mZ) (bU:Ct A.ah fK) (pq:Ct A.ah uo): @Ru aH.z X E A [] (.seq .u (.seq .u (.seq (.seq .u (.block (.seq .u (.cond .u (.seq .u (.cond .u (.seq .u (.cond .u (.seq (.seq .u (.cut ⟨[(0,.c (.rows false .iop)),(1,.c (.int .i64)),(2,.c (.int .i64)),(7,.c (.pb 0 5 0)),(13,.c (.int .i64)),(78,.c (.bool))],[.box (.sv false .iop)]⟩ (.cond .u .u))) .u))))))))) .u))) Er Tryz.f62 [(115,⟨_,jk⟩),(61,⟨_,bU⟩),(116,⟨_,pq⟩)] (Qq A jk.pre jk.fn bU.pre bU.fn pq.pre pq.fn):=fun _=>by kernel_rfl
theorem agI (A:Alg) (jk:Ct A.ah mZ) (pq:Ct A.ah uo): @Ru aH.z X E A [] (.seq .u (.seq .u (.seq (.seq .u (.block (.seq .u (.cond .u (.seq .u (.cond .u (.seq (.seq .u (.cut ⟨[(1,.c (.pb 0 7 0)),(3,.c (.int .i64)),(42,.c (.bool))],[.box (.sv false .blk)]⟩ (.cond .u .u))) .u))))))) .u))) Es Tryz.f63 [(115,⟨_,jk⟩),(116,⟨_,pq⟩)] (Qr A jk.pre jk.fn pq.pre pq.fn):=fun _=>by kernel_rfl
theorem agJ (A:Alg) (bU:Ct A.ah fK) (F7:Ct A.ah Es) (F8:Ct A.ah Er): @Ru aH.z X E A [] (.seq .u (.seq .u (.seq (.seq .u (.block (.loop ⟨[(1,.c (.pb 0 7 0)),(3,.c (.int .i64))],[.box (.sv false .blk)]⟩ .u))) .u))) fM Tryz.f19 [(61,⟨_,bU⟩),(63,⟨_,F7⟩),(62,⟨_,F8⟩)] (Qs A bU.pre bU.fn F7.pre F7.fn F8.pre F8.fn):=fun _=>by kernel_rfl
theorem agK (A:Alg): @Ru aH.z X E A [] .u jS Tryz.f59 [] (Qt A):=fun _=>by kernel_rfl
theorem agL (A:Alg) (bU:Ct A.ah fK): @Ru aH.z X E A [] (.seq .u (.seq .u (.seq (.seq .u (.cut ⟨[(1,.c (.rows false .i64)),(2,.c (.pb 0 5 0)),(4,.c (.pb 1 5 0)),(5,.c (.pb 2 5 0))],[.box (.sv false .iop),.box (.agg [.int .i64,.int .i64,.int .i64,.int .i64,.int .i64]),.box (.sv true .iop)]⟩ (.cond .u .u))) (.seq (.seq .u (.cut ⟨[(4,.c (.pb 0 5 0)),(5,.c (.pb 1 5 0))],[.box (.agg [.int .i64,.int .i64,.int .i64,.int .i64,.int .i64]),.box (.sv true .iop)]⟩ (.cond .u .u))) .u)))) uw Tryz.f60 [(61,⟨_,bU⟩)] (Qu A bU.pre bU.fn):=fun _=>by kernel_rfl
theorem agM (A:Alg) (bV:Ct A.ah fM) (pz:Ct A.ah uw) (gP:Ct A.ah jS): @Ru aH.z X E A [] (.seq .u (.seq .u (.seq .u (.seq .u (.seq .u (.seq (.seq .u (.block (.loop ⟨[(2,.c (.pb 0 7 0)),(3,.c (.pb 1 7 0)),(4,.c (.own 2)),(5,.c (.own 3)),(6,.c (.int .i64))],[.box (.agg [.int .i64,.int .i64,.nil,.int .i64,.int .i64,.int .i64,.int .i64]),.box (.agg [.int .i64,.int .i64,.own 4,.int .i64,.int .i64,.int .i64,.int .i64]),.rows true .i64,.rows true .i64,.rows true .iop]⟩ (.seq .u (.seq (.block (.seq .u (.seq .u (.seq .u (.seq (.seq .u (.cut ⟨[(2,.c (.pb 0 7 0)),(3,.c (.pb 1 7 0)),(4,.c (.own 2)),(5,.c (.own 3)),(6,.c (.int .i64)),(7,.c (.pb 4 5 0)),(8,.c (.int .i64))],[.box (.agg [.int .i64,.int .i64,.nil,.int .i64,.int .i64,.int .i64,.int .i64]),.box (.agg [.int .i64,.int .i64,.own 5,.int .i64,.int .i64,.int .i64,.int .i64]),.rows true .i64,.rows true .i64,.box (.sv true .iop),.rows true .iop]⟩ (.cond .u .u))) (.seq (.seq .u (.cut ⟨[(2,.c (.pb 0 7 0)),(3,.c (.pb 1 7 0)),(4,.c (.own 2)),(5,.c (.own 3)),(6,.c (.int .i64)),(7,.c (.pb 4 5 0)),(8,.c (.int .i64))],[.box (.agg [.int .i64,.int .i64,.nil,.int .i64,.int .i64,.int .i64,.int .i64]),.box (.agg [.int .i64,.int .i64,.own 5,.int .i64,.int .i64,.int .i64,.int .i64]),.rows true .i64,.rows true .i64,.box (.sv true .iop),.rows true .iop]⟩ (.cond .u .u))) (.seq (.seq .u (.cut ⟨[(2,.c (.pb 0 7 0)),(3,.c (.pb 1 7 0)),(4,.c (.own 2)),(5,.c (.own 3)),(6,.c (.int .i64)),(8,.c (.int .i64))],[.box (.agg [.int .i64,.int .i64,.nil,.int .i64,.int .i64,.int .i64,.int .i64]),.box (.agg [.int .i64,.int .i64,.own 4,.int .i64,.int .i64,.int .i64,.int .i64]),.rows true .i64,.rows true .i64,.rows true .iop]⟩ (.cond .u .u))) .u))))))) .u))))) (.seq (.seq .u (.cut ⟨[(2,.c (.pb 0 7 0)),(3,.c (.pb 1 7 0)),(4,.c (.own 2))],[.box (.agg [.int .i64,.int .i64,.nil,.int .i64,.int .i64,.int .i64,.int .i64]),.box (.agg [.int .i64,.int .i64,.own 3,.int .i64,.int .i64,.int .i64,.int .i64]),.rows true .i64,.rows true .iop]⟩ (.cond .u .u))) (.seq (.seq .u (.cut ⟨[(2,.c (.pb 0 7 0)),(3,.c (.pb 1 7 0))],[.box (.agg [.int .i64,.int .i64,.nil,.int .i64,.int .i64,.int .i64,.int .i64]),.box (.agg [.int .i64,.int .i64,.own 2,.int .i64,.int .i64,.int .i64,.int .i64]),.rows true .iop]⟩ (.cond .u .u))) .u)))))))) nu Tryz.f18 [(19,⟨_,bV⟩),(60,⟨_,pz⟩),(59,⟨_,gP⟩)] (Qv A bV.pre bV.fn pz.pre pz.fn gP.pre gP.fn):=fun _=>by kernel_rfl
theorem agN (A:Alg) (pz:Ct A.ah uw): @Ru aH.z X E A [] (.seq .u (.seq .u (.seq .u (.seq (.seq .u (.block (.loop ⟨[(1,.c (.rows false .bool)),(2,.c (.pb 0 7 0)),(4,.c (.pb 1 7 0)),(5,.c (.own 2)),(6,.c (.own 3)),(7,.c (.int .i64))],[.box (.sv false .blk),.box (.agg [.int .i64,.int .i64,.nil,.int .i64,.int .i64,.int .i64,.int .i64]),.rows true .iop,.rows true .i64]⟩ (.seq .u (.seq (.block (.seq .u (.seq .u (.cut ⟨[(1,.c (.rows false .bool)),(2,.c (.pb 0 7 0)),(4,.c (.pb 1 7 0)),(5,.c (.own 2)),(6,.c (.own 3)),(7,.c (.int .i64))],[.box (.sv false .blk),.box (.agg [.int .i64,.int .i64,.nil,.int .i64,.int .i64,.int .i64,.int .i64]),.rows true .iop,.rows true .i64]⟩ (.cond .u .u))))) .u))))) (.seq .u (.seq .u (.seq (.seq .u (.cut ⟨[(2,.c (.pb 0 7 0)),(4,.c (.pb 1 7 0)),(6,.c (.own 2)),(8,.c (.pb 3 7 0))],[.box (.sv false .blk),.box (.agg [.int .i64,.int .i64,.nil,.int .i64,.int .i64,.int .i64,.int .i64]),.rows true .i64,.box (.agg [.int .i64,.int .i64,.own 4,.int .i64,.int .i64,.int .i64,.int .i64]),.rows true .iop]⟩ (.cond .u .u))) (.seq (.seq .u (.cut ⟨[(4,.c (.pb 0 7 0)),(8,.c (.pb 1 7 0))],[.box (.agg [.int .i64,.int .i64,.nil,.int .i64,.int .i64,.int .i64,.int .i64]),.box (.agg [.int .i64,.int .i64,.own 2,.int .i64,.int .i64,.int .i64,.int .i64]),.rows true .iop]⟩ (.cond .u .u))) .u)))))))) uz Tryz.f130 [(60,⟨_,pz⟩)] (Qy A pz.pre pz.fn):=fun _=>by kernel_rfl
theorem agO (A:Alg) (bV:Ct A.ah fM) (bU:Ct A.ah fK): @Ru aH.z X E A [] (.seq .u (.seq .u (.seq .u (.seq (.seq .u (.block (.loop ⟨[(1,.c (.pb 0 7 0)),(3,.c (.own 1)),(4,.c (.int .i64))],[.box (.sv false .blk),.rows true .bool]⟩ .u))) (.seq (.seq .u (.cut ⟨[(1,.c (.pb 0 7 0)),(3,.c (.own 1))],[.box (.sv false .blk),.rows true .bool]⟩ (.cond .u .u))) (.seq (.seq .u (.cut ⟨[(1,.c (.pb 0 7 0)),(3,.c (.own 1))],[.box (.sv false .blk),.rows true .bool]⟩ (.cond .u .u))) (.seq (.seq .u (.block (.loop ⟨[(1,.c (.pb 0 7 0)),(3,.c (.own 1)),(5,.c (.int .i64))],[.box (.sv false .blk),.rows true .bool]⟩ (.seq .u (.seq (.cut ⟨[(1,.c (.pb 0 7 0)),(3,.c (.own 1)),(5,.c (.int .i64))],[.box (.sv false .blk),.rows true .bool]⟩ (.block (.seq .u (.seq .u (.seq (.seq .u (.cut ⟨[(1,.c (.pb 0 7 0)),(3,.c (.own 1)),(5,.c (.int .i64)),(6,.c (.pb 2 5 0))],[.box (.sv false .blk),.rows true .bool,.box (.sv false .iop)]⟩ (.cond .u .u))) (.seq .u (.cut ⟨[(1,.c (.pb 0 7 0)),(3,.c (.own 1)),(5,.c (.int .i64))],[.box (.sv false .blk),.rows true .bool]⟩ (.cond .u .u)))))))) .u))))) .u))))))) Eu Tryz.f131 [(19,⟨_,bV⟩),(61,⟨_,bU⟩)] (Qz A bV.pre bV.fn bU.pre bU.fn):=fun _=>by kernel_rfl
theorem agP (A:Alg) (bV:Ct A.ah fM) (F9:Ct A.ah Eu) (pE:Ct A.ah uz): @Ru aH.z X E A [(3,[(0,([1],[])),(1,([1],[])),(2,([8],[0])),(3,([7,9],[])),(4,([2,10],[]))])] .u Ew Tryz.f70 [(19,⟨_,bV⟩),(131,⟨_,F9⟩),(130,⟨_,pE⟩)] (QA A bV.pre bV.fn F9.pre F9.fn pE.pre pE.fn):=fun _=>by kernel_rfl
theorem agQ (A:Alg): @Ru aH.z X E A [(4,[(0,([0],[])),(1,([5],[])),(2,([14,15],[])),(3,([16],[])),(4,([17],[])),(5,([18],[])),(6,([19],[])),(7,([0,20],[])),(8,([5,20],[])),(9,([20,21,22],[])),(10,([20,23],[])),(11,([20,24],[])),(12,([20,25],[])),(13,([20,26],[])),(14,([27],[])),(15,([0,28],[])),(16,([5,28],[])),(17,([28,29,30],[])),(18,([28,31],[])),(19,([28,32],[])),(20,([28,33],[])),(21,([28,34],[])),(22,([0,35],[])),(23,([5,35],[])),(24,([35,36,37],[])),(25,([35,38],[])),(26,([35,39],[])),(27,([0,35],[])),(28,([1,35],[])),(29,([35,41,42],[])),(30,([35,43],[])),(31,([35,44],[])),(32,([35,40,45],[])),(33,([28,35,46],[])),(34,([28,47],[]))]),(6,[(0,([0],[])),(1,([5],[])),(2,([49,50],[])),(3,([51],[])),(4,([52],[])),(5,([53],[])),(6,([54],[])),(7,([0,55],[])),(8,([5,55],[])),(9,([55,56,57],[])),(10,([55,58],[])),(11,([55,59],[])),(12,([0,55],[])),(13,([1,55],[])),(14,([55,61,62],[])),(15,([55,63],[])),(16,([55,64],[])),(17,([55,60,65],[])),(18,([55,66],[]))])] (.seq .u (.seq (.seq .u (.block (.loop ⟨[(0,.c (.rows false .iop)),(1,.c (.int .i64)),(5,.c (.int .i64))],[]⟩ .u))) .u)) Ey Tryz.f132 [] (QD A):=fun _=>by kernel_rfl
theorem agR (A:Alg) (bV:Ct A.ah fM) (pE:Ct A.ah uz) (Ga:Ct A.ah Ey): @Ru aH.z X E A [] (.seq .u (.seq .u (.seq .u (.seq (.seq .u (.block (.loop ⟨[(1,.c (.pb 0 7 0)),(2,.c (.pb 1 7 0)),(3,.c (.own 2)),(4,.c (.int .i64))],[.box (.sv false .blk),.box (.agg [.int .i64,.int .i64,.nil,.int .i64,.int .i64,.int .i64,.int .i64]),.rows true .bool]⟩ .u))) .u)))) Ez Tryz.f71 [(19,⟨_,bV⟩),(130,⟨_,pE⟩),(132,⟨_,Ga⟩)] (QE A bV.pre bV.fn pE.pre pE.fn Ga.pre Ga.fn):=fun _=>by kernel_rfl
theorem agS (A:Alg): @Ru aH.z X E A [] .u uD Tryz.f133 [] (QF A):=fun _=>by kernel_rfl
theorem agT (A:Alg): @Ru aH.z X E A [] (.seq .u (.seq .u (.seq (.seq .u (.cut ⟨[(3,.c (.int .i64))],[]⟩ (.cond .u .u))) .u))) EA Tryz.f169 [] (QG A):=fun _=>by kernel_rfl
theorem agU (A:Alg) (Gb:Ct A.ah EA) (jk:Ct A.ah mZ): @Ru aH.z X E A [] .u EB Tryz.f134 [(169,⟨_,Gb⟩),(115,⟨_,jk⟩)] (QH A Gb.pre Gb.fn jk.pre jk.fn):=fun _=>by kernel_rfl
theorem agV (A:Alg): @Ru aH.z X E A [] .u EC Tryz.f170 [] (QK A):=fun _=>by kernel_rfl
theorem agW (A:Alg) (Gc:Ct A.ah EC) (pF:Ct A.ah uD): @Ru aH.z X E A [] (.seq .u (.seq .u (.seq .u (.seq (.block (.seq .u (.cond .u (.seq (.seq .u (.cut ⟨[(1,.c (.pb 0 7 0)),(2,.c (.pb 1 7 0)),(4,.c (.bool)),(6,.c (.bool)),(33,.c (.bool))],[.box (.sv false .blk),.box (.agg [.int .i64,.int .i64,.nil,.int .i64,.int .i64,.int .i64,.int .i64])]⟩ (.cond .u .u))) .u)))) .u)))) ED Tryz.f135 [(170,⟨_,Gc⟩),(133,⟨_,pF⟩)] (QL A Gc.pre Gc.fn pF.pre pF.fn):=fun _=>by kernel_rfl
theorem agX (A:Alg) (bV:Ct A.ah fM) (Gd:Ct A.ah EB) (Gf:Ct A.ah ED) (pF:Ct A.ah uD) (gP:Ct A.ah jS): @Ru aH.z X E A [(11,[(0,([3],[])),(1,([53],[])),(2,([4],[])),(3,([5],[])),(4,([56],[])),(5,([6],[])),(6,([8],[])),(7,([57,58,59],[1])),(8,([60],[])),(9,([54,55],[])),(10,([61,62],[]))])] (.seq .u (.seq .u (.seq .u (.seq (.seq .u (.block (.loop ⟨[(2,.c (.pb 0 7 0)),(3,.c (.pb 1 7 0)),(4,.c (.int .i64))],[.box (.agg [.int .i64,.int .i64,.nil,.int .i64,.int .i64,.int .i64,.int .i64]),.box (.agg [.int .i64,.int .i64,.own 2,.int .i64,.int .i64,.int .i64,.int .i64]),.rows true .iop]⟩ (.seq .u (.seq (.block (.seq .u (.seq .u (.seq .u (.seq .u (.cut ⟨[(2,.c (.pb 0 7 0)),(3,.c (.pb 1 7 0)),(4,.c (.int .i64))],[.box (.agg [.int .i64,.int .i64,.nil,.int .i64,.int .i64,.int .i64,.int .i64]),.box (.agg [.int .i64,.int .i64,.own 2,.int .i64,.int .i64,.int .i64,.int .i64]),.rows true .iop]⟩ (.cond .u .u))))))) .u))))) .u)))) EF Tryz.f72 [(19,⟨_,bV⟩),(134,⟨_,Gd⟩),(135,⟨_,Gf⟩),(133,⟨_,pF⟩),(59,⟨_,gP⟩)] (QO A bV.pre bV.fn Gd.pre Gd.fn Gf.pre Gf.fn pF.pre pF.fn gP.pre gP.fn):=fun _=>by kernel_rfl
theorem agY (A:Alg) (Gg:Ct A.ah EF) (jl:Ct A.ah nu) (Gh:Ct A.ah Ew) (Gi:Ct A.ah Ez): @Ru aH.z X E A [] .u uE Tryz.f25 [(72,⟨_,Gg⟩),(18,⟨_,jl⟩),(70,⟨_,Gh⟩),(71,⟨_,Gi⟩)] (QS A Gg.pre Gg.fn jl.pre jl.fn Gh.pre Gh.fn Gi.pre Gi.fn):=fun _=>by kernel_rfl
theorem agZ (A:Alg) (bE:Ct A.ah dK): @Ru aH.z X E A [] (.seq .u (.seq .u (.seq .u (.seq (.seq .u (.block (.seq (.seq .u (.cut ⟨[(0,.c (.pb 0 2 0)),(2,.c (.pb 1 4 0)),(3,.c (.int .i64)),(4,.c (.int .i64)),(10,.c (.int .i64)),(11,.c (.bool))],[.box (.agg [.rows true .u8,.int .i64]),.box (.agg [.int .i64,.int .i64,.int .i64,.int .i64])]⟩ (.cond .u .u))) (.cond .u (.seq .u (.cond .u (.seq (.seq .u (.cut ⟨[(0,.c (.pb 0 2 0)),(2,.c (.pb 1 4 0)),(3,.c (.int .i64)),(4,.c (.int .i64)),(10,.c (.int .i64)),(30,.c (.bool))],[.box (.agg [.rows true .u8,.int .i64]),.box (.agg [.int .i64,.int .i64,.int .i64,.int .i64])]⟩ (.cond .u (.seq .u (.cut ⟨[(0,.c (.pb 0 2 0)),(2,.c (.pb 1 4 0)),(3,.c (.int .i64)),(4,.c (.int .i64)),(10,.c (.int .i64)),(30,.c (.bool))],[.box (.agg [.rows true .u8,.int .i64]),.box (.agg [.int .i64,.int .i64,.int .i64,.int .i64])]⟩ (.cond .u .u)))))) (.cond .u (.seq .u (.cond .u (.seq (.seq .u (.cut ⟨[(0,.c (.pb 0 2 0)),(2,.c (.pb 1 4 0)),(3,.c (.int .i64)),(4,.c (.int .i64)),(10,.c (.int .i64)),(54,.c (.bool))],[.box (.agg [.rows true .u8,.int .i64]),.box (.agg [.int .i64,.int .i64,.int .i64,.int .i64])]⟩ (.cond .u .u))) .u))))))))))) .u)))) EG Tryz.f179 [(78,⟨_,bE⟩)] (QT A bE.pre bE.fn):=fun _=>by kernel_rfl
theorem ag0 (A:Alg): @Ru aH.z X E A [] (.seq .u (.seq (.seq .u (.block (.seq .u (.cond .u (.seq .u (.cond .u (.seq .u (.cond .u (.seq (.seq .u (.cut ⟨[(1,.c (.pb 0 4 0)),(4,.c (.int .i64)),(30,.c (.bool))],[.box (.sv false .ins)]⟩ (.cond .u (.seq .u (.cut ⟨[(1,.c (.pb 0 4 0)),(4,.c (.int .i64)),(30,.c (.bool))],[.box (.sv false .ins)]⟩ (.cond .u (.seq .u (.cut ⟨[(1,.c (.pb 0 4 0)),(4,.c (.int .i64)),(30,.c (.bool))],[.box (.sv false .ins)]⟩ (.cond .u (.seq .u (.cut ⟨[(1,.c (.pb 0 4 0)),(4,.c (.int .i64)),(30,.c (.bool))],[.box (.sv false .ins)]⟩ (.cond .u .u)))))))))))) (.cond .u (.seq .u (.cond .u (.seq .u (.cond .u (.seq (.seq .u (.cut ⟨[(1,.c (.pb 0 4 0)),(54,.c (.bool))],[.box (.sv false .ins)]⟩ (.cond .u .u))) .u))))))))))))))) .u)) EH Tryz.f237 [] (QU A):=fun _=>by kernel_rfl
theorem ag1 (A:Alg) (bU:Ct A.ah fK) (Gj:Ct A.ah EH): @Ru aH.z X E A [] .u uF Tryz.f181 [(61,⟨_,bU⟩),(237,⟨_,Gj⟩)] (QV A bU.pre bU.fn Gj.pre Gj.fn):=fun _=>by kernel_rfl
theorem ag2 (A:Alg): @Ru aH.z X E A [] .u uG Tryz.f182 [] (QW A):=fun _=>by kernel_rfl
theorem ag3 (A:Alg) (pG:Ct A.ah uG) (pI:Ct A.ah uF): @Ru aH.z X E A [] .u uH Tryz.f180 [(182,⟨_,pG⟩),(181,⟨_,pI⟩)] (QX A pG.pre pG.fn pI.pre pI.fn):=fun _=>by kernel_rfl
theorem ag4 (A:Alg) (Gm:Ct A.ah EG) (bE:Ct A.ah dK) (pJ:Ct A.ah uH): @Ru aH.z X E A [(3,[(0,([3],[])),(1,([9],[])),(2,([3],[])),(3,([11],[])),(4,([0],[])),(5,([13],[1,3])),(6,([10,12,14],[])),(7,([2,15],[]))])] .u EI Tryz.f143 [(179,⟨_,Gm⟩),(78,⟨_,bE⟩),(180,⟨_,pJ⟩)] (Q6 A Gm.pre Gm.fn bE.pre bE.fn pJ.pre pJ.fn):=fun _=>by kernel_rfl
theorem ag5 (A:Alg) (Gn:Ct A.ah EI) (bE:Ct A.ah dK): @Ru aH.z X E A [] (.seq .u (.seq .u (.seq (.seq .u (.block (.loop ⟨[(0,.c (.pb 0 2 0)),(3,.c (.own 1)),(4,.c (.int .i64))],[.box (.agg [.rows true .u8,.int .i64]),.rows true .ins]⟩ .u))) .u))) EJ Tryz.f92 [(143,⟨_,Gn⟩),(78,⟨_,bE⟩)] (Q9 A Gn.pre Gn.fn bE.pre bE.fn):=fun _=>by kernel_rfl
theorem ag6 (A:Alg) (pG:Ct A.ah uG) (pI:Ct A.ah uF) (bU:Ct A.ah fK) (pJ:Ct A.ah uH): @Ru aH.z X E A [] (.seq .u (.seq .u (.seq (.seq .u (.block (.loop ⟨[(1,.c (.rows false .ins)),(5,.c (.int .i64))],[]⟩ .u))) .u))) EK Tryz.f145 [(182,⟨_,pG⟩),(181,⟨_,pI⟩),(61,⟨_,bU⟩),(180,⟨_,pJ⟩)] (Ra A pG.pre pG.fn pI.pre pI.fn bU.pre bU.fn pJ.pre pJ.fn):=fun _=>by kernel_rfl
theorem ag7 (A:Alg): @Ru aH.z X E A [(2,[(0,([2],[])),(1,([2],[])),(2,([13],[])),(3,([14],[])),(4,([15],[])),(5,([4,12],[2])),(6,([16],[]))])] .u iK Tryz.f183 [] (Rb A):=fun _=>by kernel_rfl
theorem ag8 (A:Alg) (eZ:Ct A.ah iK): @Ru aH.z X E A [] .u uI Tryz.f184 [(183,⟨_,eZ⟩)] (Rc A eZ.pre eZ.fn):=fun _=>by kernel_rfl
theorem ag9 (A:Alg) (eZ:Ct A.ah iK): @Ru aH.z X E A [] .u jT Tryz.f185 [(183,⟨_,eZ⟩)] (Rf A eZ.pre eZ.fn):=fun _=>by kernel_rfl
theorem aha (A:Alg) (gQ:Ct A.ah jT) (eZ:Ct A.ah iK): @Ru aH.z X E A [] .u uJ Tryz.f186 [(185,⟨_,gQ⟩),(183,⟨_,eZ⟩)] (Rh A gQ.pre gQ.fn eZ.pre eZ.fn):=fun _=>by kernel_rfl
theorem ahb (A:Alg): @Ru aH.z X E A [] (.seq .u (.seq .u (.seq (.seq .u (.block (.loop ⟨[(0,.c (.int .i64)),(3,.c (.int .i64)),(4,.c (.int .i64))],[]⟩ .u))) .u))) EL Tryz.f187 [] (Ri A):=fun _=>by kernel_rfl
theorem ahc (A:Alg) (gQ:Ct A.ah jT) (eZ:Ct A.ah iK) (pK:Ct A.ah uJ) (pO:Ct A.ah uI): @Ru aH.z X E A [] .u EM Tryz.f188 [(185,⟨_,gQ⟩),(183,⟨_,eZ⟩),(186,⟨_,pK⟩),(184,⟨_,pO⟩)] (Rj A gQ.pre gQ.fn eZ.pre eZ.fn pK.pre pK.fn pO.pre pO.fn):=fun _=>by kernel_rfl
theorem ahd (A:Alg) (gQ:Ct A.ah jT): @Ru aH.z X E A [] (.seq .u (.seq .u (.seq .u (.seq .u (.seq .u (.seq (.seq .u (.cut ⟨[(3,.c (.pb 1 4 0)),(4,.c (.pb 2 7 0)),(8,.c (.int .i64)),(9,.c (.pb 3 7 0)),(10,.c (.int .i64))],[.gone,.box (.sv false .ins),.box (.agg [.int .i64,.int .i64,.nil,.int .i64,.int .i64,.int .i64,.int .i64]),.box (.agg [.int .i64,.int .i64,.own 4,.int .i64,.int .i64,.int .i64,.int .i64]),.rows true .iop]⟩ (.cond .u .u))) .u)))))) EN Tryz.f189 [(185,⟨_,gQ⟩)] (Rk A gQ.pre gQ.fn):=fun _=>by kernel_rfl
theorem ahe (A:Alg) (gQ:Ct A.ah jT) (Gp:Ct A.ah EN) (eZ:Ct A.ah iK) (Gq:Ct A.ah EM) (pK:Ct A.ah uJ) (pO:Ct A.ah uI) (Gr:Ct A.ah EL): @Ru aH.z X E A [(9,[(0,([3],[])),(1,([4],[])),(2,([56],[])),(3,([4],[])),(4,([58],[])),(5,([59],[0,2])),(6,([60],[])),(7,([55,57,61],[])),(8,([62],[])),(9,([54],[])),(10,([54],[])),(11,([],[])),(12,([11,63],[])),(13,([64],[]))])] (.seq .u (.seq (.seq .u (.block (.seq .u (.cond .u (.seq .u (.cond .u (.seq .u (.cond .u (.seq (.seq .u (.cut ⟨[(2,.c (.int .i64)),(3,.c (.pb 1 7 0)),(4,.c (.pb 2 4 0)),(6,.c (.pb 3 7 0)),(22,.c (.int .i64)),(70,.c (.bool))],[.rows true .iop,.box (.agg [.int .i64,.int .i64,.own 0,.int .i64,.int .i64,.int .i64,.int .i64]),.box (.sv false .ins),.box (.agg [.int .i64,.int .i64,.nil,.int .i64,.int .i64,.int .i64,.int .i64])]⟩ (.cond .u .u))) (.cond .u (.seq .u (.cond .u (.seq .u (.cond .u (.seq (.seq .u (.cut ⟨[(3,.c (.pb 1 7 0)),(4,.c (.pb 2 4 0)),(6,.c (.pb 3 7 0)),(109,.c (.bool))],[.rows true .iop,.box (.agg [.int .i64,.int .i64,.own 0,.int .i64,.int .i64,.int .i64,.int .i64]),.box (.sv false .ins),.box (.agg [.int .i64,.int .i64,.nil,.int .i64,.int .i64,.int .i64,.int .i64])]⟩ (.cond .u (.seq .u (.cut ⟨[(3,.c (.pb 1 7 0)),(4,.c (.pb 2 4 0)),(6,.c (.pb 3 7 0)),(109,.c (.bool))],[.rows true .iop,.box (.agg [.int .i64,.int .i64,.own 0,.int .i64,.int .i64,.int .i64,.int .i64]),.box (.sv false .ins),.box (.agg [.int .i64,.int .i64,.nil,.int .i64,.int .i64,.int .i64,.int .i64])]⟩ (.cond .u .u)))))) .u))))))))))))))) .u)) EO Tryz.f146 [(185,⟨_,gQ⟩),(189,⟨_,Gp⟩),(183,⟨_,eZ⟩),(188,⟨_,Gq⟩),(186,⟨_,pK⟩),(184,⟨_,pO⟩),(187,⟨_,Gr⟩)] (Rl A gQ.pre gQ.fn Gp.pre Gp.fn eZ.pre eZ.fn Gq.pre Gq.fn pK.pre pK.fn pO.pre pO.fn Gr.pre Gr.fn):=fun _=>by kernel_rfl
theorem ahf (A:Alg) (Gs:Ct A.ah EK) (Gt:Ct A.ah EO): @Ru aH.z X E A [(7,[(0,([5],[])),(1,([1],[])),(2,([6],[])),(3,([27,28],[])),(4,([29],[])),(5,([6],[])),(6,([26,30,31],[])),(7,([5,32],[]))])] (.seq .u (.seq .u (.seq .u (.seq (.seq .u (.block (.loop ⟨[(1,.c (.rows false .ins)),(4,.c (.pb 0 7 0)),(5,.c (.pb 1 7 0)),(6,.c (.int .i64))],[.box (.agg [.int .i64,.int .i64,.nil,.int .i64,.int .i64,.int .i64,.int .i64]),.box (.agg [.int .i64,.int .i64,.own 2,.int .i64,.int .i64,.int .i64,.int .i64]),.rows true .iop]⟩ .u))) .u)))) EP Tryz.f94 [(145,⟨_,Gs⟩),(146,⟨_,Gt⟩)] (Rm A Gs.pre Gs.fn Gt.pre Gt.fn):=fun _=>by kernel_rfl
theorem ahg (A:Alg) (Gu:Ct A.ah EP) (pQ:Ct A.ah uE) (jl:Ct A.ah nu) (bE:Ct A.ah dK) (Gw:Ct A.ah EJ): @Ru aH.z X E A [] .u ER Tryz.f111 [(94,⟨_,Gu⟩),(25,⟨_,pQ⟩),(18,⟨_,jl⟩),(78,⟨_,bE⟩),(92,⟨_,Gw⟩)] (Rn A Gu.pre Gu.fn pQ.pre pQ.fn jl.pre jl.fn bE.pre bE.fn Gw.pre Gw.fn):=fun _=>by kernel_rfl
theorem ahh (A:Alg) (bE:Ct A.ah dK) (gP:Ct A.ah jS): @Ru aH.z X E A [(9,[(0,([5],[])),(1,([33],[])),(2,([6],[])),(3,([5],[])),(4,([36],[])),(5,([6],[])),(6,([37,38],[])),(7,([39],[])),(8,([40],[])),(9,([41],[])),(10,([34,35],[])),(11,([43],[])),(12,([42,44],[]))]),(11,[(0,([5],[])),(1,([47],[])),(2,([6],[])),(3,([0],[])),(4,([6],[])),(5,([51],[])),(6,([50,52],[1])),(7,([48,49],[])),(8,([54],[])),(9,([53,55],[]))]),(13,[(0,([5],[])),(1,([58],[])),(2,([6],[])),(3,([0],[])),(4,([6],[])),(5,([62],[])),(6,([61,63],[1])),(7,([59,60],[])),(8,([65],[])),(9,([64,66],[]))]),(15,[(0,([5],[])),(1,([69],[])),(2,([6],[])),(3,([0],[])),(4,([5],[])),(5,([73],[])),(6,([74],[])),(7,([72,75],[1])),(8,([70,71],[])),(9,([77],[])),(10,([76,78],[]))]),(23,[(0,([5],[])),(1,([99],[])),(2,([6],[])),(3,([5],[])),(4,([102],[])),(5,([6],[])),(6,([104],[])),(7,([103,105],[])),(8,([106],[])),(9,([100,101],[])),(10,([107,108],[]))]),(26,[(0,([5],[])),(1,([117],[])),(2,([6],[])),(3,([0],[])),(4,([120],[1])),(5,([121],[])),(6,([118,119],[])),(7,([122,123],[]))])] (.seq .u (.seq .u (.seq .u (.seq .u (.seq (.seq .u (.block (.seq .u (.cut ⟨[(4,.c (.pb 1 7 0)),(5,.c (.pb 2 7 0))],[.box (.agg [.rows true .u8,.int .i64]),.box (.agg [.int .i64,.int .i64,.nil,.int .i64,.int .i64,.int .i64,.int .i64]),.box (.agg [.int .i64,.int .i64,.own 3,.int .i64,.int .i64,.int .i64,.int .i64]),.rows true .iop]⟩ (.cond .u (.seq .u (.cut ⟨[(4,.c (.pb 1 7 0)),(5,.c (.pb 2 7 0))],[.box (.agg [.rows true .u8,.int .i64]),.box (.agg [.int .i64,.int .i64,.nil,.int .i64,.int .i64,.int .i64,.int .i64]),.box (.agg [.int .i64,.int .i64,.own 3,.int .i64,.int .i64,.int .i64,.int .i64]),.rows true .iop]⟩ (.cond .u (.seq .u (.cut ⟨[(4,.c (.pb 1 7 0)),(5,.c (.pb 2 7 0))],[.box (.agg [.rows true .u8,.int .i64]),.box (.agg [.int .i64,.int .i64,.nil,.int .i64,.int .i64,.int .i64,.int .i64]),.box (.agg [.int .i64,.int .i64,.own 3,.int .i64,.int .i64,.int .i64,.int .i64]),.rows true .iop]⟩ (.cond .u (.seq .u (.cut ⟨[(4,.c (.pb 1 7 0)),(5,.c (.pb 2 7 0))],[.box (.agg [.rows true .u8,.int .i64]),.box (.agg [.int .i64,.int .i64,.nil,.int .i64,.int .i64,.int .i64,.int .i64]),.box (.agg [.int .i64,.int .i64,.own 3,.int .i64,.int .i64,.int .i64,.int .i64]),.rows true .iop]⟩ (.cond .u (.seq .u (.cut ⟨[(4,.c (.pb 1 7 0)),(5,.c (.pb 2 7 0))],[.box (.agg [.rows true .u8,.int .i64]),.box (.agg [.int .i64,.int .i64,.nil,.int .i64,.int .i64,.int .i64,.int .i64]),.box (.agg [.int .i64,.int .i64,.own 3,.int .i64,.int .i64,.int .i64,.int .i64]),.rows true .iop]⟩ (.cond .u (.seq .u (.cut ⟨[(4,.c (.pb 1 7 0)),(5,.c (.pb 2 7 0))],[.box (.agg [.rows true .u8,.int .i64]),.box (.agg [.int .i64,.int .i64,.nil,.int .i64,.int .i64,.int .i64,.int .i64]),.box (.agg [.int .i64,.int .i64,.own 3,.int .i64,.int .i64,.int .i64,.int .i64]),.rows true .iop]⟩ (.cond .u (.seq .u (.cut ⟨[(4,.c (.pb 1 7 0)),(5,.c (.pb 2 7 0))],[.box (.agg [.rows true .u8,.int .i64]),.box (.agg [.int .i64,.int .i64,.nil,.int .i64,.int .i64,.int .i64,.int .i64]),.box (.agg [.int .i64,.int .i64,.own 3,.int .i64,.int .i64,.int .i64,.int .i64]),.rows true .iop]⟩ (.cond (.seq .u (.cut ⟨[(4,.c (.pb 1 7 0)),(5,.c (.pb 2 7 0))],[.box (.agg [.rows true .u8,.int .i64]),.box (.agg [.int .i64,.int .i64,.nil,.int .i64,.int .i64,.int .i64,.int .i64]),.box (.agg [.int .i64,.int .i64,.own 3,.int .i64,.int .i64,.int .i64,.int .i64]),.rows true .iop]⟩ (.cond .u .u))) (.seq .u (.cut ⟨[(4,.c (.pb 1 7 0)),(5,.c (.pb 2 7 0))],[.box (.agg [.rows true .u8,.int .i64]),.box (.agg [.int .i64,.int .i64,.nil,.int .i64,.int .i64,.int .i64,.int .i64]),.box (.agg [.int .i64,.int .i64,.own 3,.int .i64,.int .i64,.int .i64,.int .i64]),.rows true .iop]⟩ (.cond .u .u)))))))))))))))))))))))))) .u))))) uK Tryz.f112 [(78,⟨_,bE⟩),(59,⟨_,gP⟩)] (Kt A bE.pre bE.fn gP.pre gP.fn):=fun _=>by kernel_rfl
theorem ahi (A:Alg) (Gx:Ct A.ah Eo) (bE:Ct A.ah dK) (pR:Ct A.ah uK) (Gy:Ct A.ah ER): @Ru aH.z X E A [(15,[(0,([5],[])),(1,([54],[])),(2,([],[])),(3,([0],[])),(7,([5],[])),(8,([61],[])),(9,([62],[])),(4,([57],[1,8])),(5,([56,58],[])),(6,([59],[])),(10,([60,63],[])),(11,([64],[])),(12,([55,65],[])),(13,([5],[])),(14,([66,67],[]))])] (.seq .u (.seq .u (.seq (.seq .u (.cut ⟨[(4,.c (.pb 1 7 0)),(5,.c (.pb 2 7 0))],[.box (.agg [.rows true .u8,.int .i64]),.box (.agg [.int .i64,.int .i64,.nil,.int .i64,.int .i64,.int .i64,.int .i64]),.box (.agg [.int .i64,.int .i64,.own 3,.int .i64,.int .i64,.int .i64,.int .i64]),.rows true .iop]⟩ (.cond (.seq .u (.block (.seq .u (.cut ⟨[(4,.c (.pb 1 7 0)),(5,.c (.pb 2 7 0))],[.box (.agg [.rows true .u8,.int .i64]),.box (.agg [.int .i64,.int .i64,.nil,.int .i64,.int .i64,.int .i64,.int .i64]),.box (.agg [.int .i64,.int .i64,.own 3,.int .i64,.int .i64,.int .i64,.int .i64]),.rows true .iop]⟩ (.cond .u (.seq .u (.cut ⟨[(4,.c (.pb 1 7 0)),(5,.c (.pb 2 7 0))],[.box (.agg [.rows true .u8,.int .i64]),.box (.agg [.int .i64,.int .i64,.nil,.int .i64,.int .i64,.int .i64,.int .i64]),.box (.agg [.int .i64,.int .i64,.own 3,.int .i64,.int .i64,.int .i64,.int .i64]),.rows true .iop]⟩ (.cond .u (.seq .u (.cut ⟨[(4,.c (.pb 1 7 0)),(5,.c (.pb 2 7 0))],[.box (.agg [.rows true .u8,.int .i64]),.box (.agg [.int .i64,.int .i64,.nil,.int .i64,.int .i64,.int .i64,.int .i64]),.box (.agg [.int .i64,.int .i64,.own 3,.int .i64,.int .i64,.int .i64,.int .i64]),.rows true .iop]⟩ (.cond (.block (.loop ⟨[(4,.c (.pb 1 7 0)),(5,.c (.pb 2 7 0))],[.box (.agg [.rows true .u8,.int .i64]),.box (.agg [.int .i64,.int .i64,.nil,.int .i64,.int .i64,.int .i64,.int .i64]),.box (.agg [.int .i64,.int .i64,.own 3,.int .i64,.int .i64,.int .i64,.int .i64]),.rows true .iop]⟩ .u)) (.seq .u (.cut ⟨[(4,.c (.pb 1 7 0)),(5,.c (.pb 2 7 0))],[.box (.agg [.rows true .u8,.int .i64]),.box (.agg [.int .i64,.int .i64,.nil,.int .i64,.int .i64,.int .i64,.int .i64]),.box (.agg [.int .i64,.int .i64,.own 3,.int .i64,.int .i64,.int .i64,.int .i64]),.rows true .iop]⟩ (.cond .u .u)))))))))))))) .u))) .u))) ET Tryz.f55 [(91,⟨_,Gx⟩),(78,⟨_,bE⟩),(112,⟨_,pR⟩),(111,⟨_,Gy⟩)] (Ro A Gx.pre Gx.fn bE.pre bE.fn pR.pre pR.fn Gy.pre Gy.fn):=fun _=>by kernel_rfl
theorem ahj (A:Alg): @Ru aH.z X E A [] (.seq .u (.seq (.seq .u (.cut ⟨[(0,.c (.rows true .u8))],[]⟩ (.cond .u .u))) .u)) EU Tryz.f56 [] (Rp A):=fun _=>by kernel_rfl
theorem amX (A:Alg): @Ru aH.z X E A [] .u cZ Tryz.f73 [] (XV A):=fun _=>by kernel_rfl
theorem amY (A:Alg) (aZ:Ct A.ah cZ): @Ru aH.z X E A [] .u jD Tryz.f64 [(73,⟨_,aZ⟩)] (XW A aZ.pre aZ.fn):=fun _=>by kernel_rfl
theorem amZ (A:Alg) (aZ:Ct A.ah cZ): @Ru aH.z X E A [] .u Bw Tryz.f113 [(73,⟨_,aZ⟩)] (XY A aZ.pre aZ.fn):=fun _=>by kernel_rfl
theorem am0 (A:Alg) (aZ:Ct A.ah cZ): @Ru aH.z X E A [] .u Bz Tryz.f136 [(73,⟨_,aZ⟩)] (XZ A aZ.pre aZ.fn):=fun _=>by kernel_rfl
theorem am1 (A:Alg) (aZ:Ct A.ah cZ): @Ru aH.z X E A [] .u BA Tryz.f137 [(73,⟨_,aZ⟩)] (X0 A aZ.pre aZ.fn):=fun _=>by kernel_rfl
theorem am2 (A:Alg) (aZ:Ct A.ah cZ): @Ru aH.z X E A [] .u MR Tryz.f171 [(73,⟨_,aZ⟩)] (X3 A aZ.pre aZ.fn):=fun _=>by kernel_rfl
theorem am3 (A:Alg) (NP:Ct A.ah MR) (aZ:Ct A.ah cZ): @Ru aH.z X E A [] .u BD Tryz.f138 [(171,⟨_,NP⟩),(73,⟨_,aZ⟩)] (X4 A NP.pre NP.fn aZ.pre aZ.fn):=fun _=>by kernel_rfl
theorem am4 (A:Alg) (wM:Ct A.ah BD) (wN:Ct A.ah Bw) (fU:Ct A.ah jD) (aZ:Ct A.ah cZ) (wO:Ct A.ah BA) (wP:Ct A.ah Bz): @Ru ⟨[],[27,40]⟩ X E A [(5,[(0,([],[])),(1,([5],[])),(2,([28],[])),(5,([5],[])),(6,([31],[])),(9,([5],[])),(10,([34],[])),(13,([5],[])),(14,([37],[])),(18,([5],[])),(19,([41],[])),(3,([29],[6,10,14,19])),(4,([27,30],[])),(7,([32],[10,14,19])),(8,([27,33],[])),(11,([35],[14,19])),(12,([27,36],[])),(15,([38],[19])),(16,([27,39],[])),(17,([27],[])),(20,([30,33,36,39,40,42],[])),(21,([43],[]))])] .u MS Tryz.f74 [(138,⟨_,wM⟩),(113,⟨_,wN⟩),(64,⟨_,fU⟩),(73,⟨_,aZ⟩),(137,⟨_,wO⟩),(136,⟨_,wP⟩)] (X5 A wM.pre wM.fn wN.pre wN.fn fU.pre fU.fn aZ.pre aZ.fn wO.pre wO.fn wP.pre wP.fn):=fun _=>by kernel_rfl
theorem am5 (A:Alg): @Ru aH.z X E A [(1,[(0,([1],[])),(1,([5],[])),(2,([6],[])),(3,([1],[])),(4,([8],[])),(5,([9],[])),(6,([1],[])),(7,([11],[])),(8,([12],[])),(9,([7],[])),(10,([10],[])),(11,([13],[]))])] .u BF Tryz.f114 [] (Ya A):=fun _=>by kernel_rfl
theorem am6 (A:Alg) (wQ:Ct A.ah BF) (wM:Ct A.ah BD) (fU:Ct A.ah jD) (aZ:Ct A.ah cZ): @Ru aH.z X E A [] .u MU Tryz.f75 [(114,⟨_,wQ⟩),(138,⟨_,wM⟩),(64,⟨_,fU⟩),(73,⟨_,aZ⟩)] (Yb A wQ.pre wQ.fn wM.pre wM.fn fU.pre fU.fn aZ.pre aZ.fn):=fun _=>by kernel_rfl
theorem am7 (A:Alg) (NQ:Ct A.ah MU) (NR:Ct A.ah MS) (aZ:Ct A.ah cZ): @Ru aH.z X E A [] (.seq .u (.seq .u (.seq (.seq .u (.block (.loop ⟨[(1,.c (.pb 0 7 0)),(25,.c (.int .i64)),(26,.c (.int .i64))],[.box (.sv false .blk)]⟩ .u))) .u))) BG Tryz.f26 [(75,⟨_,NQ⟩),(74,⟨_,NR⟩),(73,⟨_,aZ⟩)] (Ye A NQ.pre NQ.fn NR.pre NR.fn aZ.pre aZ.fn):=fun _=>by kernel_rfl
end Go.TX.Seat
namespace Go.TX.Seat
open Go Go.AE Go.TX Go.TX.F Go.Proofs
set_option maxRecDepth 100000
theorem am8 (A:Alg) (fU:Ct A.ah jD): @Ru aH.z X E A [] .u MV Tryz.f20 [(64,⟨_,fU⟩)] (Yf A fU.pre fU.fn):=fun _=>by kernel_rfl
theorem ahk (A:Alg): @Ru aH.z X E A [(6,[(0,([0],[])),(1,([5],[])),(2,([16,17],[])),(3,([18],[])),(4,([1],[])),(5,([5],[])),(6,([20,21],[])),(7,([22],[])),(8,([19,23],[]))])] (.seq .u (.seq .u (.seq (.seq .u (.block (.loop ⟨[(0,.c (.rows false .iop)),(1,.c (.rows false .iop)),(12,.c (.int .i64)),(13,.c (.int .i64))],[]⟩ .u))) .u))) EW Tryz.f117 [] (Rq A):=fun _=>by kernel_rfl
theorem am9 (A:Alg) (Gz:Ct A.ah EW): @Ru aH.z X E A [] .u MW Tryz.f66 [(117,⟨_,Gz⟩)] (Yg A Gz.pre Gz.fn):=fun _=>by kernel_rfl
theorem ana (A:Alg): @Ru aH.z X E A [] .u MX Tryz.f252 [] (Yh A):=fun _=>by kernel_rfl
theorem ahl (A:Alg) (NS:Ct A.ah MX): @Ru aH.z X E A [] (.seq .u (.seq (.seq .u (.block (.loop ⟨[(0,.c (.rows false .i64)),(1,.c (.fn 252 [(0,1)])),(7,.c (.int .i64)),(8,.c (.int .i64))],[.box (.c (.int .i64))]⟩ .u))) .u)) EX Tryz.f275 [(252,⟨_,NS⟩)] (Rs A NS.pre NS.fn):=fun _=>by kernel_rfl
theorem ahm (A:Alg) (GA:Ct A.ah EX): @Ru aH.z X E A [] .u EY Tryz.f251 [(275,⟨_,GA⟩)] (Rt A GA.pre GA.fn):=fun _=>by kernel_rfl
theorem anb (A:Alg) (GD:Ct A.ah EY): @Ru aH.z X E A [] (.seq .u (.seq (.seq .u (.block (.loop ⟨[(3,.c (.pb 0 1 0)),(8,.c (.rows false .mono)),(9,.c (.int .i64)),(10,.c (.int .i64))],[.box (.c (.int .i64))]⟩ .u))) .u)) BH Tryz.f210 [(251,⟨_,GD⟩)] (Yi A GD.pre GD.fn):=fun _=>by kernel_rfl
theorem arx (A:Alg): @Ru aH.z X E A [] .u MZ Tryz.f257 [] (afF A):=fun _=>by kernel_rfl
theorem arz (A:Alg) (IC:Ct A.ah MZ): @Ru aH.z X E A [] .u EZ Tryz.f217 [(257,⟨_,IC⟩)] (afG A IC.pre IC.fn):=fun _=>by kernel_rfl
theorem arA (A:Alg): @Ru aH.z X E A [] (.seq .u (.seq .u (.seq (.seq .u (.block (.loop ⟨[(3,.c (.int .i64)),(6,.c (.rows false .i64)),(7,.c (.int .i64)),(8,.c (.int .i64))],[]⟩ .u))) .u))) M0 Tryz.f218 [] (afH A):=fun _=>by kernel_rfl
theorem ane (A:Alg) (yA:Ct A.ah EZ): @Ru aH.z X E A [] (.seq .u (.seq (.seq .u (.block (.loop ⟨[(0,.c (.rows false .i64)),(1,.c (.rows false .i64)),(9,.c (.rows false .i64)),(10,.c (.int .i64)),(11,.c (.int .i64))],[]⟩ .u))) .u)) M4 Tryz.f258 [(217,⟨_,yA⟩)] (Yl A yA.pre yA.fn):=fun _=>by kernel_rfl
theorem anf (A:Alg) (IE:Ct A.ah M0) (yA:Ct A.ah EZ) (NT:Ct A.ah M4): @Ru aH.z X E A [] .u ow Tryz.f219 [(218,⟨_,IE⟩),(217,⟨_,yA⟩),(258,⟨_,NT⟩)] (Ym A IE.pre IE.fn yA.pre yA.fn NT.pre NT.fn):=fun _=>by kernel_rfl
theorem arB (A:Alg) (IC:Ct A.ah MZ): @Ru aH.z X E A [] .u E5 Tryz.f259 [(257,⟨_,IC⟩)] (afK A IC.pre IC.fn):=fun _=>by kernel_rfl
theorem ahn (A:Alg) (yB:Ct A.ah E5): @Ru aH.z X E A [(4,[(0,([0],[])),(1,([3],[])),(2,([11,12],[])),(3,([13],[])),(4,([0],[])),(5,([3],[])),(6,([16],[])),(7,([15,17],[])),(8,([18],[])),(9,([14,19],[]))])] (.seq .u (.seq (.seq .u (.block (.loop ⟨[(0,.c (.rows false .i64)),(3,.c (.int .i64))],[]⟩ .u))) .u)) E8 Tryz.f221 [(259,⟨_,yB⟩)] (Rv A yB.pre yB.fn):=fun _=>by kernel_rfl
theorem ang (A:Alg): @Ru aH.z X E A [] .u M5 Tryz.f223 [] (Yp A):=fun _=>by kernel_rfl
theorem aho (A:Alg) (NU:Ct A.ah M5): @Ru aH.z X E A [] (.seq .u (.seq (.seq .u (.block (.loop ⟨[(0,.c (.rows false .mono)),(1,.c (.fn 223 [])),(7,.c (.int .i64)),(8,.c (.int .i64))],[]⟩ .u))) .u)) E9 Tryz.f260 [(223,⟨_,NU⟩)] (Rw A NU.pre NU.fn):=fun _=>by kernel_rfl
theorem ahp (A:Alg) (GH:Ct A.ah E9): @Ru aH.z X E A [] .u Fa Tryz.f222 [(260,⟨_,GH⟩)] (Rx A GH.pre GH.fn):=fun _=>by kernel_rfl
theorem anh (A:Alg) (aZ:Ct A.ah cZ) (wR:Ct A.ah BH) (GI:Ct A.ah E8) (jF:Ct A.ah ow) (GJ:Ct A.ah Fa): @Ru aH.z X E A [(4,[(0,([4],[])),(1,([13],[])),(2,([14],[])),(3,([15],[])),(4,([16],[])),(5,([4,17],[])),(6,([17,18],[])),(7,([17,19],[])),(8,([17,20],[])),(9,([17,21],[])),(10,([22],[])),(11,([4,23],[])),(12,([23,24],[])),(13,([23,25],[])),(14,([23,26],[])),(15,([23,27],[])),(16,([28],[])),(17,([3,29],[])),(18,([29,30],[])),(19,([29,31],[])),(20,([1,32],[])),(21,([32,33],[])),(22,([3,32],[])),(23,([32,35],[])),(24,([32,34,36],[])),(25,([32,37],[])),(26,([32,38],[])),(27,([4,32],[])),(28,([32,40],[])),(29,([32,39,41],[])),(30,([32,42],[])),(31,([29,32,43],[])),(32,([29,44],[]))])] (.seq .u (.seq (.seq .u (.block (.loop ⟨[(1,.c (.pb 0 1 0)),(6,.c (.rows false .mono)),(7,.c (.int .i64)),(8,.c (.int .i64))],[.box (.sv false .poly)]⟩ .u))) .u)) iL Tryz.f164 [(73,⟨_,aZ⟩),(210,⟨_,wR⟩),(221,⟨_,GI⟩),(219,⟨_,jF⟩),(222,⟨_,GJ⟩)] (Yq A aZ.pre aZ.fn wR.pre wR.fn GI.pre GI.fn jF.pre jF.fn GJ.pre GJ.fn):=fun _=>by kernel_rfl
theorem ani (A:Alg) (aZ:Ct A.ah cZ) (wO:Ct A.ah BA) (wR:Ct A.ah BH) (eH:Ct A.ah iL) (wP:Ct A.ah Bz): @Ru aH.z X E A [] .u BI Tryz.f158 [(73,⟨_,aZ⟩),(137,⟨_,wO⟩),(210,⟨_,wR⟩),(164,⟨_,eH⟩),(136,⟨_,wP⟩)] (Yr A aZ.pre aZ.fn wO.pre wO.fn wR.pre wR.fn eH.pre eH.fn wP.pre wP.fn):=fun _=>by kernel_rfl
theorem anj (A:Alg) (IE:Ct A.ah M0) (yA:Ct A.ah EZ) (jF:Ct A.ah ow): @Ru aH.z X E A [(7,[(0,([7],[])),(1,([27],[])),(2,([3],[])),(3,([29],[])),(4,([6],[])),(5,([30,31],[])),(6,([32],[])),(7,([33],[])),(9,([7],[])),(10,([36],[])),(11,([3],[])),(12,([38],[])),(13,([6],[])),(14,([39,40],[])),(15,([41],[])),(16,([42],[])),(8,([28,34],[10,12,16])),(17,([37,43],[])),(18,([35,44],[])),(19,([45],[])),(20,([46],[]))])] (.seq .u (.seq .u (.seq (.seq .u (.block (.loop ⟨[(3,.c (.pb 0 1 0)),(20,.c (.rows false .mono)),(21,.c (.int .i64)),(22,.c (.int .i64))],[.box (.sv false .poly)]⟩ .u))) .u))) uL Tryz.f161 [(218,⟨_,IE⟩),(217,⟨_,yA⟩),(219,⟨_,jF⟩)] (Yt A IE.pre IE.fn yA.pre yA.fn jF.pre jF.fn):=fun _=>by kernel_rfl
theorem ank (A:Alg) (nC:Ct A.ah uL): @Ru aH.z X E A [] .u jE Tryz.f128 [(161,⟨_,nC⟩)] (Yu A nC.pre nC.fn):=fun _=>by kernel_rfl
theorem anl (A:Alg) (fV:Ct A.ah jE): @Ru aH.z X E A [] .u M6 Tryz.f213 [(128,⟨_,fV⟩)] (Yv A fV.pre fV.fn):=fun _=>by kernel_rfl
theorem anm (A:Alg) (NV:Ct A.ah M6): @Ru aH.z X E A [] .u M7 Tryz.f212 [(213,⟨_,NV⟩)] (Yw A NV.pre NV.fn):=fun _=>by kernel_rfl
theorem ahq (A:Alg) (NW:Ct A.ah M7): @Ru aH.z X E A [] (.seq .u (.seq (.seq .u (.block (.loop ⟨[(0,.c (.rows false .atom)),(1,.c (.fn 212 [(0,4)])),(7,.c (.int .i64)),(8,.c (.int .i64))],[.box (.sv false .atom)]⟩ .u))) .u)) Fb Tryz.f211 [(212,⟨_,NW⟩)] (Ry A NW.pre NW.fn):=fun _=>by kernel_rfl
theorem ano (A:Alg) (GK:Ct A.ah Fb): @Ru aH.z X E A [] .u BJ Tryz.f159 [(211,⟨_,GK⟩)] (Yx A GK.pre GK.fn):=fun _=>by kernel_rfl
theorem anp (A:Alg): @Ru aH.z X E A [] .u M8 Tryz.f220 [] (Yy A):=fun _=>by kernel_rfl
theorem anq (A:Alg) (wS:Ct A.ah BI) (wT:Ct A.ah BJ) (NY:Ct A.ah M8): @Ru aH.z X E A [(6,[(0,([2],[])),(1,([28],[])),(3,([3],[])),(4,([31],[])),(2,([29],[3])),(5,([30,32],[])),(6,([33],[])),(7,([],[])),(8,([7,34],[]))]),(7,[(0,([7],[])),(1,([2],[])),(2,([36],[])),(3,([37],[])),(4,([4,35],[2])),(5,([38],[]))])] .u BK Tryz.f162 [(158,⟨_,wS⟩),(159,⟨_,wT⟩),(220,⟨_,NY⟩)] (Yz A wS.pre wS.fn wT.pre wT.fn NY.pre NY.fn):=fun _=>by kernel_rfl
theorem anr (A:Alg) (aZ:Ct A.ah cZ): @Ru aH.z X E A [] .u BL Tryz.f163 [(73,⟨_,aZ⟩)] (YE A aZ.pre aZ.fn):=fun _=>by kernel_rfl
theorem ant (A:Alg) (wU:Ct A.ah BL) (wV:Ct A.ah BK): @Ru aH.z X E A [] .u BM Tryz.f124 [(163,⟨_,wU⟩),(162,⟨_,wV⟩)] (YF A wU.pre wU.fn wV.pre wV.fn):=fun _=>by kernel_rfl
theorem anu (A:Alg) (wW:Ct A.ah BM): @Ru aH.z X E A [] (.seq .u (.seq .u (.seq (.seq .u (.block (.loop ⟨[(0,.c (.pb 0 2 0)),(3,.c (.own 1)),(5,.c (.int .i64))],[.box (.agg [.rows true .atom,.bool]),.rows true .poly]⟩ .u))) .u))) BN Tryz.f118 [(124,⟨_,wW⟩)] (YK A wW.pre wW.fn):=fun _=>by kernel_rfl
theorem anv (A:Alg): @Ru aH.z X E A [] .u BO Tryz.f190 [] (YL A):=fun _=>by kernel_rfl
theorem anw (A:Alg) (wX:Ct A.ah BO): @Ru ⟨[20],[]⟩ X E A [(5,[(0,([3],[])),(1,([13],[])),(2,([5],[])),(3,([15],[])),(4,([5],[])),(5,([17],[])),(6,([18],[1,3])),(7,([16,19],[])),(8,([20],[1])),(9,([14,21],[])),(10,([3],[])),(11,([22,23],[]))])] (.seq .u (.seq .u (.seq (.seq .u (.block (.loop ⟨[(2,.c (.pb 0 1 0)),(3,.c (.pb 1 1 0)),(7,.c (.rows false .mono)),(8,.c (.int .i64)),(9,.c (.int .i64))],[.box (.agg [.nil]),.box (.agg [.own 2]),.rows true .mono]⟩ .u))) .u))) uM Tryz.f157 [(190,⟨_,wX⟩)] (YM A wX.pre wX.fn):=fun _=>by kernel_rfl
theorem anx (A:Alg) (nD:Ct A.ah uM): @Ru ⟨[25],[]⟩ X E A [(5,[(0,([3],[])),(1,([13],[])),(2,([5],[])),(3,([15],[])),(4,([5],[])),(5,([17],[])),(6,([5],[])),(7,([19],[])),(9,([5],[])),(10,([22],[])),(8,([20],[1,3,5,10])),(11,([23],[1,3,5])),(12,([16,18,21,24],[])),(13,([25],[1])),(14,([14,26],[])),(15,([3],[])),(16,([27,28],[]))])] (.seq .u (.seq .u (.seq (.seq .u (.block (.loop ⟨[(2,.c (.pb 0 1 0)),(3,.c (.pb 1 1 0)),(7,.c (.rows false .atom)),(8,.c (.int .i64)),(9,.c (.int .i64))],[.box (.agg [.nil]),.box (.agg [.own 2]),.rows true .atom]⟩ .u))) .u))) BP Tryz.f119 [(157,⟨_,nD⟩)] (YP A nD.pre nD.fn):=fun _=>by kernel_rfl
theorem anz (A:Alg) (wY:Ct A.ah BP) (wZ:Ct A.ah BN): @Ru aH.z X E A [] .u M9 Tryz.f67 [(119,⟨_,wY⟩),(118,⟨_,wZ⟩)] (YQ A wY.pre wY.fn wZ.pre wZ.fn):=fun _=>by kernel_rfl
theorem anA (A:Alg) (aZ:Ct A.ah cZ): @Ru aH.z X E A [] .u BQ Tryz.f76 [(73,⟨_,aZ⟩)] (YV A aZ.pre aZ.fn):=fun _=>by kernel_rfl
theorem anB (A:Alg) (wS:Ct A.ah BI) (wT:Ct A.ah BJ): @Ru aH.z X E A [] (.seq .u (.seq (.seq .u (.block (.loop ⟨[(1,.c (.pb 0 1 0)),(6,.c (.rows false .atom)),(7,.c (.int .i64)),(8,.c (.int .i64))],[.box (.sv false .tab)]⟩ .u))) .u)) Na Tryz.f120 [(158,⟨_,wS⟩),(159,⟨_,wT⟩)] (YW A wS.pre wS.fn wT.pre wT.fn):=fun _=>by kernel_rfl
theorem anC (A:Alg): @Ru aH.z X E A [] .u Nb Tryz.f121 [] (YX A):=fun _=>by kernel_rfl
theorem anD (A:Alg) (aZ:Ct A.ah cZ): @Ru aH.z X E A [] .u uN Tryz.f122 [(73,⟨_,aZ⟩)] (YZ A aZ.pre aZ.fn):=fun _=>by kernel_rfl
theorem anE (A:Alg): @Ru aH.z X E A [] .u uO Tryz.f141 [] (Y0 A):=fun _=>by kernel_rfl
theorem anF (A:Alg) (fU:Ct A.ah jD) (nG:Ct A.ah uO): @Ru aH.z X E A [] .u Nc Tryz.f86 [(64,⟨_,fU⟩),(141,⟨_,nG⟩)] (Y3 A fU.pre fU.fn nG.pre nG.fn):=fun _=>by kernel_rfl
theorem anG (A:Alg) (eH:Ct A.ah iL): @Ru aH.z X E A [] .u BR Tryz.f166 [(164,⟨_,eH⟩)] (Y4 A eH.pre eH.fn):=fun _=>by kernel_rfl
theorem anH (A:Alg) (jF:Ct A.ah ow): @Ru aH.z X E A [] .u BS Tryz.f277 [(219,⟨_,jF⟩)] (Y5 A jF.pre jF.fn):=fun _=>by kernel_rfl
theorem ahr (A:Alg) (oC:Ct A.ah BS): @Ru aH.z X E A [(4,[(0,([9],[])),(1,([1],[])),(2,([18,19],[])),(3,([20],[])),(4,([3,21],[])),(5,([0,21],[])),(6,([9,21],[])),(7,([21,23,24],[])),(8,([21,25],[])),(9,([0,21],[])),(10,([9,21],[])),(11,([21,28],[])),(12,([21,27,29],[])),(13,([21,30],[])),(14,([21,22,26,31],[])),(15,([21,32],[])),(16,([21,33],[]))]),(6,[(0,([0],[])),(1,([9],[])),(2,([0],[])),(3,([9],[])),(4,([40],[])),(5,([0],[])),(6,([9],[])),(7,([43],[])),(8,([42,44],[])),(9,([45],[])),(10,([0],[])),(11,([9],[])),(12,([47,48],[])),(13,([49],[])),(14,([37,38],[])),(15,([46,51],[])),(16,([39,41],[])),(17,([50,52],[]))])] (.seq .u (.block (.loop ⟨[(0,.c (.own 0)),(1,.c (.int .i64)),(2,.c (.int .i64)),(3,.c (.fn 277 [])),(8,.c (.int .i64))],[.rows false .mono]⟩ (.seq .u (.seq (.block (.seq .u (.block (.loop ⟨[(0,.c (.own 0)),(1,.c (.int .i64)),(2,.c (.int .i64)),(3,.c (.fn 277 [])),(8,.c (.int .i64)),(9,.c (.int .i64))],[.rows false .mono]⟩ .u)))) .u))))) Fe Tryz.f309 [(277,⟨_,oC⟩)] (Rz A oC.pre oC.fn):=fun _=>by kernel_rfl
theorem ahs (A:Alg): @Ru aH.z X E A [(3,[(0,([0],[])),(1,([1],[])),(2,([10],[])),(3,([17,18],[])),(4,([0],[])),(5,([2],[])),(6,([10],[])),(7,([21,22],[])),(8,([0],[])),(9,([2],[])),(10,([10],[])),(11,([25,26],[])),(12,([24,27],[])),(13,([28],[])),(14,([0],[])),(15,([1],[])),(16,([10],[])),(17,([31,32],[])),(18,([30,33],[])),(19,([34],[])),(20,([16,19],[])),(21,([29,36],[])),(22,([20,23],[])),(23,([35,37],[]))])] (.seq .u (.block (.loop ⟨[(0,.c (.own 0)),(1,.c (.int .i64)),(2,.c (.int .i64)),(3,.c (.int .i64)),(10,.c (.int .i64))],[.rows false .mono]⟩ .u))) Fg Tryz.f319 [] (RA A):=fun _=>by kernel_rfl
theorem aht (A:Alg) (GL:Ct A.ah Fg): @Ru aH.z X E A [] (.seq .u (.seq .u (.seq (.block (.loop ⟨[(0,.c (.own 0)),(2,.c (.int .i64)),(4,.c (.fn 277 [])),(10,.c (.int .i64)),(11,.c (.int .i64))],[.rows false .mono]⟩ (.seq .u (.block (.seq .u (.cut ⟨[(0,.c (.own 0)),(2,.c (.int .i64)),(4,.c (.fn 277 [])),(10,.c (.int .i64)),(11,.c (.int .i64))],[.rows false .mono]⟩ (.cond .u .u))))))) .u))) Fh Tryz.f317 [(319,⟨_,GL⟩)] (RD A GL.pre GL.fn):=fun _=>by kernel_rfl
theorem ahu (A:Alg) (oC:Ct A.ah BS) (rE:Ct A.ah Fh) (pU:Ct A.ah nA): @Ru aH.z X E A [(5,[(0,([4],[])),(1,([0],[])),(2,([12],[])),(3,([41,42],[])),(4,([43],[])),(5,([0],[])),(6,([1],[])),(7,([45,46],[])),(8,([47],[])),(9,([40,44,48],[])),(10,([49],[]))]),(11,[(0,([0],[])),(1,([13],[])),(2,([0],[])),(3,([13],[])),(4,([64],[])),(5,([0],[])),(6,([13],[])),(7,([67],[])),(8,([66,68],[])),(9,([69],[])),(10,([0],[])),(11,([13],[])),(12,([71,72],[])),(13,([73],[])),(14,([61,62],[])),(15,([70,75],[])),(16,([63,65],[])),(17,([74,76],[]))]),(17,[(0,([4],[])),(1,([0],[])),(2,([2],[])),(3,([93,94],[])),(4,([95],[])),(5,([0],[])),(6,([16],[])),(7,([97,98],[])),(8,([99],[])),(9,([92,96,100],[])),(10,([101],[])),(11,([102],[]))]),(23,[(0,([0],[])),(1,([17],[])),(2,([0],[])),(3,([17],[])),(4,([116],[])),(5,([0],[])),(6,([17],[])),(7,([119],[])),(8,([118,120],[])),(9,([121],[])),(10,([0],[])),(11,([17],[])),(12,([123,124],[])),(13,([125],[])),(14,([113,114],[])),(15,([122,127],[])),(16,([115,117],[])),(17,([126,128],[]))]),(35,[(0,([4],[])),(1,([0],[])),(2,([22],[])),(3,([23],[])),(4,([160,161],[])),(5,([159,162],[])),(6,([163],[])),(7,([0],[])),(8,([23],[])),(9,([165,166],[])),(10,([167],[])),(11,([158,164,168],[])),(12,([169],[])),(13,([170],[]))])] (.seq (.seq .u (.cond (.seq .u (.seq .u (.seq (.block (.loop ⟨[(0,.c (.own 0)),(1,.c (.int .i64)),(4,.c (.fn 277 [])),(10,.c (.int .i64)),(11,.c (.int .i64))],[.rows false .mono]⟩ (.seq .u (.block (.seq .u (.seq .u (.cut ⟨[(0,.c (.own 0)),(1,.c (.int .i64)),(4,.c (.fn 277 [])),(10,.c (.int .i64)),(11,.c (.int .i64))],[.rows false .mono]⟩ (.cond .u .u)))))))) (.seq (.seq .u (.block (.loop ⟨[(0,.c (.own 0)),(10,.c (.int .i64)),(13,.c (.int .i64))],[.rows false .mono]⟩ .u))) .u)))) .u)) (.seq (.seq .u (.cond (.seq .u (.seq .u (.seq (.block (.loop ⟨[(0,.c (.own 0)),(2,.c (.int .i64)),(4,.c (.fn 277 [])),(14,.c (.int .i64)),(15,.c (.int .i64))],[.rows false .mono]⟩ (.seq .u (.block (.seq .u (.seq .u (.cut ⟨[(0,.c (.own 0)),(2,.c (.int .i64)),(4,.c (.fn 277 [])),(14,.c (.int .i64)),(15,.c (.int .i64))],[.rows false .mono]⟩ (.cond .u .u)))))))) (.seq (.seq .u (.block (.loop ⟨[(0,.c (.own 0)),(14,.c (.int .i64)),(17,.c (.int .i64))],[.rows false .mono]⟩ .u))) .u)))) .u)) (.seq .u (.seq .u (.seq .u (.seq (.seq .u (.cut ⟨[(0,.c (.own 0)),(1,.c (.int .i64)),(2,.c (.int .i64)),(3,.c (.int .i64)),(4,.c (.fn 277 [])),(18,.c (.int .i64)),(19,.c (.int .i64)),(20,.c (.int .i64)),(21,.c (.int .i64))],[.rows false .mono]⟩ (.cond .u .u))) (.seq .u (.seq (.block (.loop ⟨[(0,.c (.own 0)),(1,.c (.int .i64)),(2,.c (.int .i64)),(3,.c (.int .i64)),(4,.c (.fn 277 [])),(18,.c (.int .i64)),(19,.c (.int .i64)),(20,.c (.int .i64)),(21,.c (.int .i64)),(22,.c (.int .i64))],[.rows false .mono]⟩ (.seq .u (.block (.seq .u (.seq .u (.cut ⟨[(0,.c (.own 0)),(1,.c (.int .i64)),(2,.c (.int .i64)),(3,.c (.int .i64)),(4,.c (.fn 277 [])),(18,.c (.int .i64)),(19,.c (.int .i64)),(20,.c (.int .i64)),(21,.c (.int .i64)),(22,.c (.int .i64))],[.rows false .mono]⟩ (.cond .u .u)))))))) (.seq .u (.seq (.seq .u (.cut ⟨[(0,.c (.own 0)),(1,.c (.int .i64)),(3,.c (.int .i64)),(4,.c (.fn 277 [])),(18,.c (.int .i64)),(20,.c (.int .i64)),(24,.c (.int .i64))],[.rows false .mono]⟩ (.cond .u .u))) (.seq (.seq .u (.cut ⟨[(0,.c (.own 0)),(3,.c (.int .i64)),(4,.c (.fn 277 [])),(18,.c (.int .i64)),(24,.c (.int .i64))],[.rows false .mono]⟩ (.cond .u .u))) (.seq .u (.cut ⟨[],[.rows false .mono]⟩ (.cond .u .u)))))))))))))) nA Tryz.f310 [(277,⟨_,oC⟩),(317,⟨_,rE⟩),(310,⟨_,pU⟩)] (F3 A oC.pre oC.fn rE.pre rE.fn pU.pre pU.fn):=fun _=>by kernel_rfl
theorem ahv (A:Alg) (GN:Ct A.ah Fe) (pU:Ct A.ah nA): @Ru aH.z X E A [] (.seq .u (.seq .u (.seq (.block (.loop ⟨[(0,.c (.own 0)),(1,.c (.int .i64)),(2,.c (.fn 277 [])),(6,.c (.int .i64)),(7,.c (.int .i64)),(8,.c (.int .i64))],[.rows false .mono]⟩ .u)) (.seq .u (.block (.loop ⟨[(0,.c (.own 0)),(1,.c (.int .i64)),(2,.c (.fn 277 [])),(6,.c (.int .i64))],[.rows false .mono]⟩ (.seq .u (.block (.seq .u (.seq (.block (.loop ⟨[(0,.c (.own 0)),(1,.c (.int .i64)),(2,.c (.fn 277 [])),(6,.c (.int .i64)),(7,.c (.int .i64)),(8,.c (.int .i64))],[.rows false .mono]⟩ .u)) (.seq (.seq .u (.seq .u (.cut ⟨[(0,.c (.own 0)),(1,.c (.int .i64)),(2,.c (.fn 277 [])),(6,.c (.int .i64))],[.rows false .mono]⟩ (.cond .u .u)))) .u))))))))))) Fj Tryz.f291 [(309,⟨_,GN⟩),(310,⟨_,pU⟩)] (RH A GN.pre GN.fn pU.pre pU.fn):=fun _=>by kernel_rfl
theorem ahw (A:Alg) (GQ:Ct A.ah Fj): @Ru aH.z X E A [] .u Fp Tryz.f276 [(291,⟨_,GQ⟩)] (RJ A GQ.pre GQ.fn):=fun _=>by kernel_rfl
theorem anI (A:Alg) (jF:Ct A.ah ow) (eH:Ct A.ah iL) (nG:Ct A.ah uO) (wX:Ct A.ah BO) (GU:Ct A.ah Fp): @Ru ⟨[51],[]⟩ X E A [(5,[(0,([0],[])),(1,([5],[])),(2,([14,15],[])),(3,([16],[])),(5,([],[])),(4,([],[])),(6,([7,17],[]))]),(6,[(0,([5],[])),(1,([0],[])),(2,([19],[])),(3,([18,20],[])),(4,([21],[])),(5,([7,22],[])),(6,([22,23],[])),(7,([0,22],[])),(8,([5,22],[])),(9,([22,25,26],[])),(10,([22,27],[])),(11,([22,28],[])),(12,([22,24,29],[])),(13,([22,30],[])),(14,([22,31],[]))]),(10,[(0,([4],[])),(1,([45],[])),(2,([6],[])),(3,([7],[])),(4,([48],[])),(5,([49],[1])),(6,([47,50],[])),(7,([51],[1])),(8,([46,52],[])),(9,([4],[])),(10,([53,54],[]))])] (.seq .u (.seq .u (.seq .u (.seq (.seq .u (.block (.loop ⟨[(0,.c (.own 0)),(2,.c (.pb 1 1 0)),(4,.c (.pb 2 1 0)),(5,.c (.int .i64))],[.rows false .mono,.box (.agg [.nil]),.box (.agg [.own 3]),.rows true .mono]⟩ (.seq .u (.block (.seq .u (.seq (.block (.loop ⟨[(0,.c (.own 0)),(2,.c (.pb 1 1 0)),(4,.c (.pb 2 1 0)),(5,.c (.int .i64)),(6,.c (.int .i64)),(7,.c (.pb 3 2 0))],[.rows false .mono,.box (.agg [.nil]),.box (.agg [.own 4]),.box (.sv false .mono),.rows true .mono]⟩ .u)) (.seq .u (.cut ⟨[(0,.c (.own 0)),(2,.c (.pb 1 1 0)),(4,.c (.pb 2 1 0)),(5,.c (.int .i64))],[.rows false .mono,.box (.agg [.nil]),.box (.agg [.own 3]),.rows true .mono]⟩ (.cond .u .u)))))))))) .u)))) BU Tryz.f253 [(219,⟨_,jF⟩),(164,⟨_,eH⟩),(141,⟨_,nG⟩),(190,⟨_,wX⟩),(276,⟨_,GU⟩)] (Y8 A jF.pre jF.fn eH.pre eH.fn nG.pre nG.fn wX.pre wX.fn GU.pre GU.fn):=fun _=>by kernel_rfl
theorem ahx (A:Alg): @Ru aH.z X E A [] (.seq .u (.seq .u (.seq (.seq .u (.seq .u (.cut ⟨[(0,.c (.own 0))],[.rows true .mono]⟩ (.cond .u .u)))) .u))) Fq Tryz.f278 [] (RL A):=fun _=>by kernel_rfl
theorem anJ (A:Alg) (GV:Ct A.ah Fq): @Ru aH.z X E A [] (.seq .u (.seq .u (.seq (.seq .u (.block (.loop ⟨[(0,.c (.rows false .poly)),(3,.c (.int .i64)),(9,.c (.rows false .poly)),(10,.c (.int .i64)),(11,.c (.int .i64))],[]⟩ .u))) (.seq .u (.seq (.seq .u (.block (.loop ⟨[(6,.c (.own 0)),(25,.c (.rows false .poly)),(26,.c (.int .i64)),(27,.c (.int .i64))],[.rows false .mono]⟩ .u))) .u))))) Ng Tryz.f254 [(278,⟨_,GV⟩)] (Y9 A GV.pre GV.fn):=fun _=>by kernel_rfl
theorem anK (A:Alg) (eH:Ct A.ah iL) (w9:Ct A.ah BU) (NZ:Ct A.ah Ng): @Ru aH.z X E A [] .u Nh Tryz.f214 [(164,⟨_,eH⟩),(253,⟨_,w9⟩),(254,⟨_,NZ⟩)] (Za A eH.pre eH.fn w9.pre w9.fn NZ.pre NZ.fn):=fun _=>by kernel_rfl
theorem ahy (A:Alg): @Ru aH.z X E A [] (.seq .u (.seq .u (.seq (.seq .u (.seq .u (.cut ⟨[(0,.c (.own 0))],[.rows true .i64]⟩ (.cond .u .u)))) .u))) Fu Tryz.f279 [] (RN A):=fun _=>by kernel_rfl
theorem ahz (A:Alg) (GX:Ct A.ah Fu): @Ru aH.z X E A [] (.seq .u (.seq .u (.seq (.seq .u (.block (.loop ⟨[(0,.c (.rows false .ints)),(3,.c (.int .i64)),(9,.c (.rows false .ints)),(10,.c (.int .i64)),(11,.c (.int .i64))],[]⟩ .u))) (.seq .u (.seq (.seq .u (.block (.loop ⟨[(6,.c (.own 0)),(25,.c (.rows false .ints)),(26,.c (.int .i64)),(27,.c (.int .i64))],[.rows true .i64]⟩ .u))) .u))))) Fv Tryz.f255 [(279,⟨_,GX⟩)] (RO A GX.pre GX.fn):=fun _=>by kernel_rfl
theorem ahA (A:Alg) (yB:Ct A.ah E5): @Ru aH.z X E A [(4,[(0,([7],[])),(1,([1],[])),(2,([16,17],[])),(3,([18],[])),(4,([0,19],[])),(5,([7,19],[])),(6,([19,20,21],[])),(7,([19,22],[])),(8,([0,19],[])),(9,([7,19],[])),(10,([19,25],[])),(11,([19,24,26],[])),(12,([19,27],[])),(13,([19,23,28],[])),(14,([19,29],[]))]),(6,[(0,([0],[])),(1,([7],[])),(2,([0],[])),(3,([7],[])),(4,([36],[])),(5,([0],[])),(6,([7],[])),(7,([39],[])),(8,([38,40],[])),(9,([41],[])),(10,([0],[])),(11,([7],[])),(12,([43,44],[])),(13,([45],[])),(14,([33,34],[])),(15,([42,47],[])),(16,([35,37],[])),(17,([46,48],[]))])] (.seq .u (.block (.loop ⟨[(0,.c (.own 0)),(1,.c (.int .i64)),(2,.c (.int .i64)),(6,.c (.int .i64))],[.rows true .i64]⟩ (.seq .u (.seq (.block (.seq .u (.block (.loop ⟨[(0,.c (.own 0)),(1,.c (.int .i64)),(2,.c (.int .i64)),(6,.c (.int .i64)),(7,.c (.int .i64))],[.rows true .i64]⟩ .u)))) .u))))) Fw Tryz.f292 [(259,⟨_,yB⟩)] (RQ A yB.pre yB.fn):=fun _=>by kernel_rfl
theorem ahB (A:Alg) (yB:Ct A.ah E5) (GY:Ct A.ah Fw) (Az:Ct A.ah Fx) (AA:Ct A.ah Fy) (AB:Ct A.ah Fz) (AJ:Ct A.ah FB) (AL:Ct A.ah FC) (AO:Ct A.ah FD) (AP:Ct A.ah FH) (rF:Ct A.ah oW): @Ru aH.z X E A [(17,[(0,([1],[])),(1,([73],[])),(2,([74],[])),(3,([0,75],[])),(4,([1,75],[])),(5,([75,77],[])),(6,([75,76,78],[])),(7,([75,79],[])),(8,([0,75],[])),(9,([11,75],[])),(10,([75,81,82],[])),(11,([75,83],[])),(12,([75,80,84],[])),(13,([75,85],[])),(14,([75,86],[]))])] (.seq .u (.seq .u (.block (.loop ⟨[(0,.c (.own 0)),(1,.c (.int .i64)),(2,.c (.int .i64)),(3,.c (.int .i64)),(8,.c (.bool)),(9,.c (.bool))],[.rows true .i64]⟩ (.cut ⟨[(0,.c (.own 0)),(1,.c (.int .i64)),(2,.c (.int .i64)),(3,.c (.int .i64)),(8,.c (.bool)),(9,.c (.bool))],[.rows true .i64]⟩ (.block (.seq .u (.seq .u (.seq .u (.seq (.seq .u (.cut ⟨[(0,.c (.own 0)),(1,.c (.int .i64)),(2,.c (.int .i64)),(3,.c (.int .i64)),(8,.c (.bool)),(9,.c (.bool)),(10,.c (.int .i64))],[.rows true .i64]⟩ (.cond .u .u))) (.seq .u (.seq (.seq .u (.cut ⟨[(0,.c (.own 0)),(1,.c (.int .i64)),(2,.c (.int .i64)),(3,.c (.int .i64)),(8,.c (.bool)),(9,.c (.bool)),(10,.c (.int .i64)),(11,.c (.int .i64)),(12,.c (.int .i64))],[.rows true .i64]⟩ (.cond .u .u))) (.seq (.seq .u (.cut ⟨[(0,.c (.own 0)),(1,.c (.int .i64)),(2,.c (.int .i64)),(3,.c (.int .i64)),(8,.c (.bool)),(9,.c (.bool)),(10,.c (.int .i64)),(11,.c (.int .i64))],[.rows true .i64]⟩ (.cond .u .u))) (.seq .u (.seq .u (.seq .u (.seq .u (.seq .u (.seq .u (.cut ⟨[(0,.c (.own 0)),(1,.c (.int .i64)),(2,.c (.int .i64)),(3,.c (.int .i64)),(8,.c (.bool)),(9,.c (.bool))],[.rows true .i64]⟩ (.cond .u .u))))))))))))))))))))) oW Tryz.f280 [(259,⟨_,yB⟩),(292,⟨_,GY⟩),(293,⟨_,Az⟩),(294,⟨_,AA⟩),(295,⟨_,AB⟩),(296,⟨_,AJ⟩),(297,⟨_,AL⟩),(298,⟨_,AO⟩),(299,⟨_,AP⟩),(280,⟨_,rF⟩)] (RS A yB.pre yB.fn GY.pre GY.fn Az.pre Az.fn AA.pre AA.fn AB.pre AB.fn AJ.pre AJ.fn AL.pre AL.fn AO.pre AO.fn AP.pre AP.fn rF.pre rF.fn):=fun _=>by kernel_rfl
theorem ahC (A:Alg) (rF:Ct A.ah oW) (GZ:Ct A.ah UH): @Ru aH.z X E A [] .u FJ Tryz.f256 [(280,⟨_,rF⟩),(281,⟨_,GZ⟩)] (RU A rF.pre rF.fn GZ.pre GZ.fn):=fun _=>by kernel_rfl
theorem anL (A:Alg) (eH:Ct A.ah iL) (nG:Ct A.ah uO) (w9:Ct A.ah BU) (G5:Ct A.ah Fv) (G6:Ct A.ah FJ): @Ru aH.z X E A [] (.seq .u (.seq .u (.seq .u (.seq (.seq .u (.block (.loop ⟨[(3,.c (.pb 0 1 0)),(4,.c (.pb 1 1 0)),(6,.c (.own 2)),(22,.c (.rows false .mono)),(23,.c (.int .i64)),(24,.c (.int .i64))],[.box (.sv false .poly),.box (.agg [.nil]),.rows true .mono]⟩ (.seq .u (.seq .u (.seq (.block (.seq .u (.seq .u (.block (.loop ⟨[(3,.c (.pb 0 1 0)),(4,.c (.pb 1 1 0)),(6,.c (.own 2)),(8,.c (.pb 3 2 0)),(22,.c (.rows false .mono)),(23,.c (.int .i64)),(24,.c (.int .i64)),(29,.c (.rows false .mono)),(30,.c (.int .i64)),(31,.c (.int .i64))],[.box (.sv false .poly),.box (.agg [.nil]),.rows true .mono,.box (.sv false .mono)]⟩ .u))))) .u)))))) .u)))) BX Tryz.f216 [(164,⟨_,eH⟩),(141,⟨_,nG⟩),(253,⟨_,w9⟩),(255,⟨_,G5⟩),(256,⟨_,G6⟩)] (Zd A eH.pre eH.fn nG.pre nG.fn w9.pre w9.fn G5.pre G5.fn G6.pre G6.fn):=fun _=>by kernel_rfl
theorem anM (A:Alg) (eH:Ct A.ah iL) (nH:Ct A.ah uN) (fU:Ct A.ah jD) (xg:Ct A.ah BX): @Ru aH.z X E A [(3,[(0,([2],[])),(1,([1],[])),(2,([18],[0])),(3,([17,19],[])),(4,([20],[])),(5,([16],[])),(6,([16],[])),(7,([],[])),(8,([5,21],[])),(9,([22],[]))])] .u Ni Tryz.f215 [(164,⟨_,eH⟩),(122,⟨_,nH⟩),(64,⟨_,fU⟩),(216,⟨_,xg⟩)] (Ze A eH.pre eH.fn nH.pre nH.fn fU.pre fU.fn xg.pre xg.fn):=fun _=>by kernel_rfl
theorem anN (A:Alg) (fV:Ct A.ah jE) (nH:Ct A.ah uN) (N7:Ct A.ah Nc) (N8:Ct A.ah Nh) (xg:Ct A.ah BX) (N9:Ct A.ah Ni) (xk:Ct A.ah BR): @Ru aH.z X E A [(5,[(0,([4],[])),(1,([5],[])),(2,([23],[0])),(3,([22,24],[])),(4,([25],[])),(5,([25],[])),(6,([6,26],[])),(7,([27],[]))])] (.seq .u (.seq .u (.seq .u (.seq .u (.seq .u (.seq (.seq .u (.cut ⟨[(0,.c (.int .i64)),(4,.c (.pb 0 1 0)),(6,.c (.pb 1 1 0)),(10,.c (.int .i64)),(11,.c (.bool))],[.box (.sv true .poly),.box (.agg [.nil])]⟩ (.cond .u .u))) .u)))))) Nj Tryz.f160 [(128,⟨_,fV⟩),(122,⟨_,nH⟩),(86,⟨_,N7⟩),(214,⟨_,N8⟩),(216,⟨_,xg⟩),(215,⟨_,N9⟩),(166,⟨_,xk⟩)] (Zh A fV.pre fV.fn nH.pre nH.fn N7.pre N7.fn N8.pre N8.fn xg.pre xg.fn N9.pre N9.fn xk.pre xk.fn):=fun _=>by kernel_rfl
theorem anO (A:Alg) (nC:Ct A.ah uL) (Oa:Ct A.ah Nj) (wV:Ct A.ah BK) (wU:Ct A.ah BL): @Ru aH.z X E A [(3,[(0,([4],[])),(1,([11],[])),(2,([8,23],[1])),(3,([9,24],[])),(4,([],[]))]),(9,[(0,([13],[])),(1,([14],[])),(2,([49],[0])),(3,([8,48],[])),(4,([9,50],[])),(5,([],[]))])] (.seq .u (.seq .u (.seq (.seq .u (.cut ⟨[(1,.c (.int .i64)),(4,.c (.pb 0 1 0)),(6,.c (.pb 1 1 0)),(7,.c (.pb 2 1 0)),(8,.c (.pb 3 1 0)),(9,.c (.pb 4 1 0))],[.box (.sv true .tab),.box (.sv true .poly),.box (.sv true .poly),.box (.agg [.nil]),.box (.agg [.nil])]⟩ (.cond .u .u))) .u))) Nk Tryz.f123 [(161,⟨_,nC⟩),(160,⟨_,Oa⟩),(162,⟨_,wV⟩),(163,⟨_,wU⟩)] (Zi A nC.pre nC.fn Oa.pre Oa.fn wV.pre wV.fn wU.pre wU.fn):=fun _=>by kernel_rfl
theorem anP (A:Alg) (fU:Ct A.ah jD): @Ru aH.z X E A [] .u Nl Tryz.f87 [(64,⟨_,fU⟩)] (Zj A fU.pre fU.fn):=fun _=>by kernel_rfl
theorem anQ (A:Alg) (nD:Ct A.ah uM): @Ru aH.z X E A [] (.seq .u (.seq .u (.seq (.seq .u (.block (.loop ⟨[(3,.c (.own 0)),(6,.c (.rows false .poly)),(7,.c (.int .i64)),(8,.c (.int .i64))],[.rows true .poly]⟩ .u))) .u))) Nn Tryz.f224 [(157,⟨_,nD⟩)] (Zk A nD.pre nD.fn):=fun _=>by kernel_rfl
theorem anR (A:Alg) (nD:Ct A.ah uM) (Ob:Ct A.ah Nn): @Ru ⟨[42],[]⟩ X E A [(1,[(0,([1],[])),(1,([6],[])),(3,([1],[])),(4,([9],[])),(5,([1],[])),(6,([11],[])),(8,([1],[])),(9,([14],[])),(11,([1],[])),(12,([17],[])),(2,([7],[4,6,9,12])),(7,([12],[4,9,12])),(10,([15],[4,12])),(13,([8,10,13,16,18],[])),(14,([],[])),(15,([3,19],[]))]),(5,[(0,([3],[])),(1,([27],[])),(2,([5],[])),(3,([29],[])),(4,([5],[])),(5,([31],[])),(6,([5],[])),(7,([33],[])),(9,([5],[])),(10,([36],[])),(12,([5],[])),(13,([39],[])),(8,([34],[1,3,5,10,13])),(11,([37],[1,3,5,13])),(14,([40],[1,3,5])),(15,([30,32,35,38,41],[])),(16,([42],[1])),(17,([28,43],[])),(18,([3],[])),(19,([44,45],[]))])] (.seq .u (.seq .u (.seq (.seq .u (.block (.loop ⟨[(2,.c (.pb 0 6 0)),(3,.c (.pb 1 6 0)),(21,.c (.rows false .ev)),(22,.c (.int .i64)),(23,.c (.int .i64))],[.box (.agg [.nil,.nil,.int .i64,.nil,.nil,.int .i64]),.box (.agg [.own 2,.own 3,.int .i64,.own 4,.own 5,.int .i64]),.rows true .ev,.rows true .poly,.rows true .mono,.rows true .mono]⟩ .u))) .u))) Np Tryz.f165 [(157,⟨_,nD⟩),(224,⟨_,Ob⟩)] (Zl A nD.pre nD.fn Ob.pre Ob.fn):=fun _=>by kernel_rfl
theorem anS (A:Alg) (xk:Ct A.ah BR) (eH:Ct A.ah iL) (nC:Ct A.ah uL) (Oc:Ct A.ah Np) (fV:Ct A.ah jE) (Od:Ct A.ah Nl): @Ru aH.z X E A [] (.seq .u (.seq .u (.seq .u (.seq .u (.seq .u (.seq .u (.seq (.block (.seq .u (.cut ⟨[(4,.c (.pb 0 6 0)),(5,.c (.pb 1 6 0))],[.box (.agg [.nil,.nil,.int .i64,.nil,.nil,.int .i64]),.box (.agg [.own 2,.own 3,.int .i64,.own 4,.own 5,.int .i64]),.rows true .ev,.rows true .poly,.rows true .mono,.rows true .mono]⟩ (.cond .u (.seq .u (.cut ⟨[(4,.c (.pb 0 6 0)),(5,.c (.pb 1 6 0))],[.box (.agg [.nil,.nil,.int .i64,.nil,.nil,.int .i64]),.box (.agg [.own 2,.own 3,.int .i64,.own 4,.own 5,.int .i64]),.rows true .ev,.rows true .poly,.rows true .mono,.rows true .mono]⟩ (.cond .u (.seq .u (.cut ⟨[(4,.c (.pb 0 6 0)),(5,.c (.pb 1 6 0))],[.box (.agg [.nil,.nil,.int .i64,.nil,.nil,.int .i64]),.box (.agg [.own 2,.own 3,.int .i64,.own 4,.own 5,.int .i64]),.rows true .ev,.rows true .poly,.rows true .mono,.rows true .mono]⟩ (.cond (.seq .u (.seq .u (.seq .u (.cut ⟨[(4,.c (.pb 0 6 0)),(5,.c (.pb 1 6 0))],[.box (.agg [.nil,.nil,.int .i64,.nil,.nil,.int .i64]),.box (.agg [.own 2,.own 3,.int .i64,.nil,.nil,.int .i64]),.rows true .ev,.rows true .poly]⟩ (.cond .u .u))))) (.seq .u (.cut ⟨[(4,.c (.pb 0 6 0)),(5,.c (.pb 1 6 0))],[.box (.agg [.nil,.nil,.int .i64,.nil,.nil,.int .i64]),.box (.agg [.own 2,.own 3,.int .i64,.own 4,.own 5,.int .i64]),.rows true .ev,.rows true .poly,.rows true .mono,.rows true .mono]⟩ (.cond .u .u))))))))))))) .u))))))) Nq Tryz.f125 [(166,⟨_,xk⟩),(164,⟨_,eH⟩),(161,⟨_,nC⟩),(165,⟨_,Oc⟩),(128,⟨_,fV⟩),(87,⟨_,Od⟩)] (Zm A xk.pre xk.fn eH.pre eH.fn nC.pre nC.fn Oc.pre Oc.fn fV.pre fV.fn Od.pre Od.fn):=fun _=>by kernel_rfl
theorem anT (A:Alg) (wQ:Ct A.ah BF) (xq:Ct A.ah BG) (xu:Ct A.ah BQ) (wN:Ct A.ah Bw) (nH:Ct A.ah uN) (Oe:Ct A.ah Nq) (Og:Ct A.ah Na) (wY:Ct A.ah BP) (Oh:Ct A.ah Nk) (wW:Ct A.ah BM) (wZ:Ct A.ah BN) (Oi:Ct A.ah Nb): @Ru aH.z X E A [(4,[(0,([6],[])),(2,([3],[])),(3,([47],[])),(4,([3],[])),(5,([49],[])),(1,([45],[3,5])),(6,([46,48,50],[])),(7,([],[])),(8,([7,51],[]))]),(27,[(0,([6],[])),(1,([134],[])),(2,([135],[])),(3,([136],[])),(4,([12],[])),(5,([138],[])),(6,([17],[])),(7,([18],[])),(8,([137,139,140,141],[])),(9,([142],[])),(10,([133],[])),(11,([133],[])),(12,([133],[])),(13,([],[])),(14,([],[])),(15,([20,143],[])),(16,([21,144],[])),(17,([145],[]))]),(30,[(0,([6],[])),(1,([8],[])),(2,([11],[])),(3,([20],[])),(4,([21],[])),(5,([150],[])),(6,([155],[])),(7,([153,156],[4])),(8,([151,152],[])),(9,([154,157],[]))]),(47,[(0,([6],[])),(1,([213],[])),(2,([214],[])),(3,([215],[])),(5,([7],[])),(6,([3],[])),(7,([219],[])),(8,([3],[])),(9,([221],[])),(10,([220,222],[])),(4,([216],[5,7,9])),(11,([218,223],[])),(12,([4,217],[])),(13,([5,224],[]))])] (.seq .u (.seq .u (.seq .u (.seq .u (.seq .u (.seq .u (.seq (.seq .u (.block (.loop ⟨[(3,.c (.pb 0 7 0)),(4,.c (.pb 1 1 0)),(5,.c (.pb 2 6 0)),(6,.c (.pb 3 2 0)),(7,.c (.pb 4 6 0)),(8,.c (.own 5)),(9,.c (.int .i64)),(10,.c (.int .i64)),(57,.c (.rows false .iop)),(58,.c (.int .i64)),(59,.c (.int .i64))],[.box (.sv false .blk),.box (.agg [.nil]),.box (.agg [.nil,.nil,.int .i64,.nil,.nil,.int .i64]),.box (.agg [.rows true .atom,.bool]),.box (.agg [.own 6,.own 7,.int .i64,.nil,.nil,.int .i64]),.rows true .poly,.rows true .ev,.rows true .poly]⟩ (.seq .u (.seq .u (.seq (.block (.seq .u (.seq .u (.seq .u (.seq (.seq .u (.cut ⟨[(3,.c (.pb 0 7 0)),(4,.c (.pb 1 1 0)),(5,.c (.pb 2 6 0)),(6,.c (.pb 3 2 0)),(7,.c (.pb 4 6 0)),(8,.c (.own 5)),(9,.c (.int .i64)),(10,.c (.int .i64)),(11,.c (.int .i64)),(12,.c (.pb 6 5 0)),(14,.c (.bool)),(17,.c (.pb 7 1 0)),(18,.c (.pb 8 1 0)),(57,.c (.rows false .iop)),(58,.c (.int .i64)),(59,.c (.int .i64))],[.box (.sv false .blk),.box (.agg [.nil]),.box (.agg [.nil,.nil,.int .i64,.nil,.nil,.int .i64]),.box (.agg [.rows true .atom,.bool]),.box (.agg [.own 9,.own 10,.int .i64,.nil,.nil,.int .i64]),.rows true .poly,.box (.sv false .iop),.box (.sv true .poly),.box (.agg [.nil]),.rows true .ev,.rows true .poly]⟩ (.cond .u .u))) (.seq (.seq .u (.cut ⟨[(3,.c (.pb 0 7 0)),(4,.c (.pb 1 1 0)),(5,.c (.pb 2 6 0)),(6,.c (.pb 3 2 0)),(7,.c (.pb 4 6 0)),(8,.c (.own 5)),(9,.c (.int .i64)),(10,.c (.int .i64)),(11,.c (.int .i64)),(12,.c (.pb 6 5 0)),(17,.c (.pb 7 1 0)),(18,.c (.pb 8 1 0)),(57,.c (.rows false .iop)),(58,.c (.int .i64)),(59,.c (.int .i64))],[.box (.sv false .blk),.box (.agg [.nil]),.box (.agg [.nil,.nil,.int .i64,.nil,.nil,.int .i64]),.box (.agg [.rows true .atom,.bool]),.box (.agg [.own 9,.own 10,.int .i64,.nil,.nil,.int .i64]),.rows true .poly,.box (.sv false .iop),.box (.sv true .poly),.box (.sv true .poly),.rows true .ev,.rows true .poly]⟩ (.cond .u .u))) (.seq (.seq .u (.cut ⟨[(3,.c (.pb 0 7 0)),(4,.c (.pb 1 1 0)),(5,.c (.pb 2 6 0)),(6,.c (.pb 3 2 0)),(7,.c (.pb 4 6 0)),(8,.c (.own 5)),(9,.c (.int .i64)),(10,.c (.int .i64)),(11,.c (.int .i64)),(12,.c (.pb 6 5 0)),(17,.c (.pb 7 1 0)),(18,.c (.pb 8 1 0)),(57,.c (.rows false .iop)),(58,.c (.int .i64)),(59,.c (.int .i64))],[.box (.sv false .blk),.box (.agg [.nil]),.box (.agg [.nil,.nil,.int .i64,.nil,.nil,.int .i64]),.box (.agg [.rows true .atom,.bool]),.box (.agg [.own 9,.own 10,.int .i64,.nil,.nil,.int .i64]),.rows true .poly,.box (.sv false .iop),.box (.sv true .poly),.box (.sv true .poly),.rows true .ev,.rows true .poly]⟩ (.cond (.seq .u (.seq (.seq .u (.cut ⟨[(3,.c (.pb 0 7 0)),(4,.c (.pb 1 1 0)),(5,.c (.pb 2 6 0)),(6,.c (.pb 3 2 0)),(7,.c (.pb 4 6 0)),(8,.c (.own 5)),(9,.c (.int .i64)),(10,.c (.int .i64)),(11,.c (.int .i64)),(12,.c (.pb 6 5 0)),(17,.c (.pb 7 1 0)),(18,.c (.pb 8 1 0)),(19,.c (.pb 9 5 0)),(57,.c (.rows false .iop)),(58,.c (.int .i64)),(59,.c (.int .i64))],[.box (.sv false .blk),.box (.agg [.nil]),.box (.agg [.nil,.nil,.int .i64,.nil,.nil,.int .i64]),.box (.agg [.rows true .atom,.bool]),.box (.agg [.own 10,.own 11,.int .i64,.nil,.nil,.int .i64]),.rows true .poly,.box (.sv false .iop),.box (.sv true .poly),.box (.sv true .poly),.box (.agg [.int .i64,.int .i64,.rows true .mono,.rows true .mono,.own 12]),.rows true .ev,.rows true .poly,.rows true .poly]⟩ (.cond .u .u))) .u)) .u))) (.seq .u (.block (.seq .u (.cut ⟨[(3,.c (.pb 0 7 0)),(4,.c (.pb 1 1 0)),(5,.c (.pb 2 6 0)),(6,.c (.pb 3 2 0)),(7,.c (.pb 4 6 0)),(8,.c (.own 5)),(9,.c (.int .i64)),(10,.c (.int .i64)),(57,.c (.rows false .iop)),(58,.c (.int .i64)),(59,.c (.int .i64))],[.box (.sv false .blk),.box (.agg [.nil]),.box (.agg [.nil,.nil,.int .i64,.nil,.nil,.int .i64]),.box (.agg [.rows true .atom,.bool]),.box (.agg [.own 6,.own 7,.int .i64,.nil,.nil,.int .i64]),.rows true .poly,.rows true .ev,.rows true .poly]⟩ (.cond .u (.seq .u (.cut ⟨[(3,.c (.pb 0 7 0)),(4,.c (.pb 1 1 0)),(5,.c (.pb 2 6 0)),(6,.c (.pb 3 2 0)),(7,.c (.pb 4 6 0)),(8,.c (.own 5)),(9,.c (.int .i64)),(10,.c (.int .i64)),(57,.c (.rows false .iop)),(58,.c (.int .i64)),(59,.c (.int .i64))],[.box (.sv false .blk),.box (.agg [.nil]),.box (.agg [.nil,.nil,.int .i64,.nil,.nil,.int .i64]),.box (.agg [.rows true .atom,.bool]),.box (.agg [.own 6,.own 7,.int .i64,.nil,.nil,.int .i64]),.rows true .poly,.rows true .ev,.rows true .poly]⟩ (.cond .u (.seq .u (.cut ⟨[(3,.c (.pb 0 7 0)),(4,.c (.pb 1 1 0)),(5,.c (.pb 2 6 0)),(6,.c (.pb 3 2 0)),(7,.c (.pb 4 6 0)),(8,.c (.own 5)),(9,.c (.int .i64)),(10,.c (.int .i64)),(57,.c (.rows false .iop)),(58,.c (.int .i64)),(59,.c (.int .i64))],[.box (.sv false .blk),.box (.agg [.nil]),.box (.agg [.nil,.nil,.int .i64,.nil,.nil,.int .i64]),.box (.agg [.rows true .atom,.bool]),.box (.agg [.own 6,.own 7,.int .i64,.nil,.nil,.int .i64]),.rows true .poly,.rows true .ev,.rows true .poly]⟩ (.cond .u (.seq .u (.cut ⟨[(3,.c (.pb 0 7 0)),(4,.c (.pb 1 1 0)),(5,.c (.pb 2 6 0)),(6,.c (.pb 3 2 0)),(7,.c (.pb 4 6 0)),(8,.c (.own 5)),(9,.c (.int .i64)),(10,.c (.int .i64)),(57,.c (.rows false .iop)),(58,.c (.int .i64)),(59,.c (.int .i64))],[.box (.sv false .blk),.box (.agg [.nil]),.box (.agg [.nil,.nil,.int .i64,.nil,.nil,.int .i64]),.box (.agg [.rows true .atom,.bool]),.box (.agg [.own 6,.own 7,.int .i64,.nil,.nil,.int .i64]),.rows true .poly,.rows true .ev,.rows true .poly]⟩ (.cond .u (.seq .u (.cut ⟨[(3,.c (.pb 0 7 0)),(4,.c (.pb 1 1 0)),(5,.c (.pb 2 6 0)),(6,.c (.pb 3 2 0)),(7,.c (.pb 4 6 0)),(8,.c (.own 5)),(9,.c (.int .i64)),(10,.c (.int .i64)),(57,.c (.rows false .iop)),(58,.c (.int .i64)),(59,.c (.int .i64))],[.box (.sv false .blk),.box (.agg [.nil]),.box (.agg [.nil,.nil,.int .i64,.nil,.nil,.int .i64]),.box (.agg [.rows true .atom,.bool]),.box (.agg [.own 6,.own 7,.int .i64,.nil,.nil,.int .i64]),.rows true .poly,.rows true .ev,.rows true .poly]⟩ (.cond .u (.seq .u (.cut ⟨[(3,.c (.pb 0 7 0)),(4,.c (.pb 1 1 0)),(5,.c (.pb 2 6 0)),(6,.c (.pb 3 2 0)),(7,.c (.pb 4 6 0)),(8,.c (.own 5)),(9,.c (.int .i64)),(10,.c (.int .i64)),(57,.c (.rows false .iop)),(58,.c (.int .i64)),(59,.c (.int .i64))],[.box (.sv false .blk),.box (.agg [.nil]),.box (.agg [.nil,.nil,.int .i64,.nil,.nil,.int .i64]),.box (.agg [.rows true .atom,.bool]),.box (.agg [.own 6,.own 7,.int .i64,.nil,.nil,.int .i64]),.rows true .poly,.rows true .ev,.rows true .poly]⟩ (.cond .u .u))))))))))))))))))))))))))) .u)))))) (.seq .u (.seq (.seq .u (.cut ⟨[(3,.c (.pb 0 7 0)),(4,.c (.pb 1 1 0)),(5,.c (.pb 2 6 0)),(6,.c (.pb 3 2 0)),(7,.c (.pb 4 6 0)),(8,.c (.own 5)),(24,.c (.bool))],[.box (.sv false .blk),.box (.agg [.nil]),.box (.agg [.nil,.nil,.int .i64,.nil,.nil,.int .i64]),.box (.agg [.rows true .atom,.bool]),.box (.agg [.own 6,.own 7,.int .i64,.rows true .mono,.nil,.int .i64]),.rows true .poly,.rows true .ev,.rows true .poly]⟩ (.cond .u .u))) (.seq (.seq .u (.cut ⟨[(3,.c (.pb 0 7 0)),(4,.c (.pb 1 1 0)),(5,.c (.pb 2 6 0)),(6,.c (.pb 3 2 0)),(7,.c (.pb 4 6 0))],[.box (.sv false .blk),.box (.agg [.nil]),.box (.agg [.nil,.nil,.int .i64,.nil,.nil,.int .i64]),.box (.agg [.rows true .atom,.bool]),.box (.agg [.own 5,.own 6,.int .i64,.rows true .mono,.rows true .mono,.int .i64]),.rows true .ev,.rows true .poly]⟩ (.cond .u .u))) .u)))))))))) Nr Tryz.f68 [(114,⟨_,wQ⟩),(26,⟨_,xq⟩),(76,⟨_,xu⟩),(113,⟨_,wN⟩),(122,⟨_,nH⟩),(125,⟨_,Oe⟩),(120,⟨_,Og⟩),(119,⟨_,wY⟩),(123,⟨_,Oh⟩),(124,⟨_,wW⟩),(118,⟨_,wZ⟩),(121,⟨_,Oi⟩)] (Zn A wQ.pre wQ.fn xq.pre xq.fn xu.pre xu.fn wN.pre wN.fn nH.pre nH.fn Oe.pre Oe.fn Og.pre Og.fn wY.pre wY.fn Oh.pre Oh.fn wW.pre wW.fn wZ.pre wZ.fn Oi.pre Oi.fn):=fun _=>by kernel_rfl
theorem anU (A:Alg) (fV:Ct A.ah jE): @Ru aH.z X E A [] .u Ns Tryz.f168 [(128,⟨_,fV⟩)] (Zq A fV.pre fV.fn):=fun _=>by kernel_rfl
theorem ahD (A:Alg) (Oj:Ct A.ah Ns): @Ru aH.z X E A [] (.seq .u (.seq .u (.seq (.seq .u (.block (.loop ⟨[(1,.c (.rows false .poly)),(2,.c (.fn 168 [])),(15,.c (.rows false .poly)),(16,.c (.int .i64)),(17,.c (.int .i64))],[]⟩ .u))) .u))) FK Tryz.f167 [(168,⟨_,Oj⟩)] (RV A Oj.pre Oj.fn):=fun _=>by kernel_rfl
theorem anV (A:Alg) (G7:Ct A.ah FK): @Ru aH.z X E A [] .u BZ Tryz.f129 [(167,⟨_,G7⟩)] (Zr A G7.pre G7.fn):=fun _=>by kernel_rfl
theorem anW (A:Alg) (fV:Ct A.ah jE) (xw:Ct A.ah BZ): @Ru aH.z X E A [] .u Nt Tryz.f127 [(128,⟨_,fV⟩),(129,⟨_,xw⟩)] (Zt A fV.pre fV.fn xw.pre xw.fn):=fun _=>by kernel_rfl
theorem ahE (A:Alg) (Ol:Ct A.ah Nt): @Ru aH.z X E A [] (.seq .u (.seq .u (.seq (.seq .u (.block (.loop ⟨[(1,.c (.rows false .ev)),(2,.c (.fn 127 [])),(15,.c (.rows false .ev)),(16,.c (.int .i64)),(17,.c (.int .i64))],[]⟩ .u))) .u))) FL Tryz.f126 [(127,⟨_,Ol⟩)] (RX A Ol.pre Ol.fn):=fun _=>by kernel_rfl
theorem anX (A:Alg) (fV:Ct A.ah jE) (xw:Ct A.ah BZ) (G8:Ct A.ah FL): @Ru aH.z X E A [] .u Nu Tryz.f69 [(128,⟨_,fV⟩),(129,⟨_,xw⟩),(126,⟨_,G8⟩)] (Zw A fV.pre fV.fn xw.pre xw.fn G8.pre G8.fn):=fun _=>by kernel_rfl
theorem anY (A:Alg) (xq:Ct A.ah BG) (Om:Ct A.ah MW) (Oo:Ct A.ah M9) (Oq:Ct A.ah Nr) (Ou:Ct A.ah Nu): @Ru aH.z X E A [] .u Nv Tryz.f22 [(26,⟨_,xq⟩),(66,⟨_,Om⟩),(67,⟨_,Oo⟩),(68,⟨_,Oq⟩),(69,⟨_,Ou⟩)] (Zx A xq.pre xq.fn Om.pre Om.fn Oo.pre Oo.fn Oq.pre Oq.fn Ou.pre Ou.fn):=fun _=>by kernel_rfl
end Go.TX.Seat
