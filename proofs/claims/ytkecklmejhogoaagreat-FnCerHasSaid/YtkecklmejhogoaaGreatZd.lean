/- Part 4 of a proof: what the last part needs. No condition. -/
import Derived.Test.YtkecklmejhogoaaGreatZc
import Derived.Test.YtkecklmejhogoaaGreatProg
import Derived.KernelRfl
set_option linter.all false
set_option linter.unusedSectionVars false
set_option linter.unusedVariables false
set_option linter.unusedSimpArgs false
namespace Go.TX.F
open Go Go.AE Go.TX
set_option maxRecDepth 100000
@[reducible] def bO : Sig := ⟨[.c (.pb 0 2 0), .c (.int .i64)], [.box (.agg [.rows true .u8, .int .i64])], [.c (.int .i64)], [.box (.agg [.rows true .u8, .int .i64])]⟩
@[reducible] def tO : Sig := ⟨[.c (.pb 0 2 0), .c (.int .i64)], [.box (.agg [.rows true .u8, .int .i64])], [.c .bool], [.box (.agg [.rows true .u8, .int .i64])]⟩
@[reducible] def fG : Sig := ⟨[.c (.int .i64), .c (.int .i64), .c (.int .i64)], [], [.c .bool], []⟩
@[reducible] def mI : Sig := ⟨[.c (.int .i64)], [], [.c .bool], []⟩
@[reducible] def Ea : Sig := ⟨[.c (.int .i64)], [], [.c .bool], []⟩
@[reducible] def tQ : Sig := ⟨[.c (.rows false .iop), .c (.int .i64), .c (.int .i64)], [], [.c .bool], []⟩
@[reducible] def Eb : Sig := ⟨[.c (.rows false .iop), .c (.int .i64), .c (.int .i64)], [], [.c .bool], []⟩
@[reducible] def Ec : Sig := ⟨[.sv false .blk], [], [.c .bool], []⟩
@[reducible] def gJ : Sig := ⟨[.sv false .blk], [], [.c .bool], []⟩
@[reducible] def jJ : Sig := ⟨[.sv false .blk], [], [.agg [.int .i64, .int .i64, .own 0, .int .i64, .int .i64, .int .i64, .int .i64]], [.rows true .iop]⟩
@[reducible] def tT : Sig := ⟨[.sv false .iop, .c (.rows false .i64)], [], [.sv true .iop], []⟩
@[reducible] def mJ : Sig := ⟨[.sv false .blk], [], [.agg [.int .i64, .int .i64, .own 0, .int .i64, .int .i64, .int .i64, .int .i64]], [.rows true .iop]⟩
@[reducible] def tV : Sig := ⟨[.sv false .blk, .c (.rows false .bool)], [], [.agg [.int .i64, .int .i64, .own 0, .int .i64, .int .i64, .int .i64, .int .i64]], [.rows true .iop]⟩
@[reducible] def Ed : Sig := ⟨[.sv false .blk], [], [.c (.own 0)], [.rows true .bool]⟩
@[reducible] def Ee : Sig := ⟨[.sv false .blk], [], [.agg [.int .i64, .int .i64, .own 0, .int .i64, .int .i64, .int .i64, .int .i64]], [.rows true .iop]⟩
@[reducible] def Ef : Sig := ⟨[.c (.rows false .iop), .c (.int .i64)], [], [.c .bool], []⟩
@[reducible] def Eh : Sig := ⟨[.sv false .blk], [], [.agg [.int .i64, .int .i64, .own 0, .int .i64, .int .i64, .int .i64, .int .i64]], [.rows true .iop]⟩
@[reducible] def tX : Sig := ⟨[.c (.rows false .iop), .c (.int .i64)], [], [.c (.int .i64), .c .bool], []⟩
@[reducible] def Ei : Sig := ⟨[.c (.int .i64)], [], [.c (.int .i64)], []⟩
@[reducible] def Ej : Sig := ⟨[.c (.int .i64), .c (.int .i64), .c (.int .i64)], [], [.c (.int .i64)], []⟩
@[reducible] def El : Sig := ⟨[.sv false .blk, .c (.int .i64)], [], [.agg [.int .i64, .int .i64, .rows false .iop, .int .i64, .int .i64, .int .i64, .int .i64]], []⟩
@[reducible] def Em : Sig := ⟨[.sv false .blk], [], [.sv false .blk], []⟩
@[reducible] def En : Sig := ⟨[.sv false .blk], [], [.sv false .blk], []⟩
@[reducible] def mK : Sig := ⟨[.sv false .blk], [], [.agg [.int .i64, .int .i64, .own 0, .int .i64, .int .i64, .int .i64, .int .i64]], [.rows true .iop]⟩
@[reducible] def Eo : Sig := ⟨[.c (.pb 0 2 0)], [.box (.agg [.rows true .u8, .int .i64])], [.agg [.int .i64, .int .i64, .int .i64, .int .i64]], [.box (.agg [.rows true .u8, .int .i64])]⟩
@[reducible] def Ep : Sig := ⟨[.sv false .ins], [], [.c .bool], []⟩
@[reducible] def tY : Sig := ⟨[.sv false .ins], [], [.c .bool], []⟩
@[reducible] def tZ : Sig := ⟨[.c (.int .i64)], [], [.c .bool], []⟩
@[reducible] def uf : Sig := ⟨[.sv false .ins], [], [.c .bool], []⟩
@[reducible] def Er : Sig := ⟨[.c (.pb 0 2 0)], [.box (.agg [.rows true .u8, .int .i64])], [.agg [.int .i64, .int .i64, .int .i64, .int .i64]], [.box (.agg [.rows true .u8, .int .i64])]⟩
@[reducible] def Es : Sig := ⟨[.c (.pb 0 2 0)], [.box (.agg [.rows true .u8, .int .i64])], [.c (.own 1)], [.box (.agg [.rows true .u8, .int .i64]), .rows true .ins]⟩
@[reducible] def Eu : Sig := ⟨[.c (.int .i64), .c (.rows false .ins)], [], [.c .bool], []⟩
@[reducible] def iF : Sig := ⟨[.agg [.int .i64, .int .i64, .own 0, .int .i64, .int .i64, .int .i64, .int .i64], .sv false .iop], [.rows true .iop], [.agg [.int .i64, .int .i64, .own 1, .int .i64, .int .i64, .int .i64, .int .i64], .c (.int .i64)], [.gone, .rows true .iop]⟩
@[reducible] def ug : Sig := ⟨[.agg [.int .i64, .int .i64, .own 0, .int .i64, .int .i64, .int .i64, .int .i64], .c (.int .i64), .c (.int .i64)], [.rows true .iop], [.agg [.int .i64, .int .i64, .own 1, .int .i64, .int .i64, .int .i64, .int .i64]], [.gone, .rows true .iop]⟩
@[reducible] def jK : Sig := ⟨[.agg [.int .i64, .int .i64, .own 0, .int .i64, .int .i64, .int .i64, .int .i64], .c (.int .i64)], [.rows true .iop], [.agg [.int .i64, .int .i64, .own 1, .int .i64, .int .i64, .int .i64, .int .i64], .c (.int .i64)], [.gone, .rows true .iop]⟩
@[reducible] def uh : Sig := ⟨[.agg [.int .i64, .int .i64, .own 0, .int .i64, .int .i64, .int .i64, .int .i64], .c (.int .i64), .c (.int .i64), .sv false .iop], [.rows true .iop], [.agg [.int .i64, .int .i64, .own 1, .int .i64, .int .i64, .int .i64, .int .i64], .c (.int .i64)], [.gone, .rows true .iop]⟩
@[reducible] def Ew : Sig := ⟨[.c (.int .i64)], [], [.c (.int .i64)], []⟩
@[reducible] def Ey : Sig := ⟨[.agg [.int .i64, .int .i64, .own 0, .int .i64, .int .i64, .int .i64, .int .i64], .sv false .ins, .c (.int .i64)], [.rows true .iop], [.agg [.int .i64, .int .i64, .own 1, .int .i64, .int .i64, .int .i64, .int .i64]], [.gone, .rows true .iop]⟩
@[reducible] def Ez : Sig := ⟨[.agg [.int .i64, .int .i64, .own 0, .int .i64, .int .i64, .int .i64, .int .i64], .sv false .ins], [.rows true .iop], [.agg [.int .i64, .int .i64, .own 1, .int .i64, .int .i64, .int .i64, .int .i64]], [.gone, .rows true .iop]⟩
@[reducible] def EA : Sig := ⟨[.agg [.int .i64, .int .i64, .own 0, .int .i64, .int .i64, .int .i64, .int .i64], .sv false .ins, .c (.int .i64)], [.rows true .iop], [.agg [.int .i64, .int .i64, .own 1, .int .i64, .int .i64, .int .i64, .int .i64]], [.gone, .rows true .iop]⟩
@[reducible] def EB : Sig := ⟨[.c (.int .i64), .c (.rows false .ins)], [], [.agg [.int .i64, .int .i64, .own 0, .int .i64, .int .i64, .int .i64, .int .i64]], [.rows true .iop]⟩
@[reducible] def uj : Sig := ⟨[.c (.pb 0 2 0)], [.box (.agg [.rows true .u8, .int .i64])], [.agg [.int .i64, .int .i64, .own 1, .int .i64, .int .i64, .int .i64, .int .i64]], [.box (.agg [.rows true .u8, .int .i64]), .rows true .iop]⟩
@[reducible] def mM : Sig := ⟨[.c (.pb 0 2 0), .sv false .blk], [.box (.agg [.rows true .u8, .int .i64])], [.agg [.int .i64, .int .i64, .own 1, .int .i64, .int .i64, .int .i64, .int .i64]], [.box (.agg [.rows true .u8, .int .i64]), .rows true .iop]⟩
@[reducible] def EC : Sig := ⟨[.c (.pb 0 2 0), .c (.int .i64)], [.box (.agg [.rows true .u8, .int .i64])], [.sv true .blk], [.box (.agg [.rows true .u8, .int .i64])]⟩
@[reducible] def ED : Sig := ⟨[.c (.rows true .u8)], [], [.c (.pb 0 2 0)], [.box (.agg [.rows true .u8, .int .i64])]⟩
@[reducible] def bY : Sig := ⟨[.c (.int .i64), .c (.int .i64), .c (.int .i64)], [], [.c .bool], []⟩
@[reducible] def jr : Sig := ⟨[.c (.int .i64)], [], [.c .bool], []⟩
@[reducible] def Bd : Sig := ⟨[.sv false .iop], [], [.c .bool, .c .bool, .c .bool, .c .bool], []⟩
@[reducible] def Bf : Sig := ⟨[.c (.int .i64)], [], [.c .bool], []⟩
@[reducible] def Bg : Sig := ⟨[.c (.int .i64)], [], [.c .bool], []⟩
@[reducible] def MI : Sig := ⟨[.sv false .iop], [], [.c .bool], []⟩
@[reducible] def Bh : Sig := ⟨[.sv false .blk, .c (.int .i64), .c (.int .i64)], [], [.c .bool], []⟩
@[reducible] def MJ : Sig := ⟨[.sv false .blk, .c (.int .i64)], [], [.c .bool], []⟩
@[reducible] def Bj : Sig := ⟨[.sv false .blk], [], [.c .bool, .c .bool, .c .bool], []⟩
@[reducible] def MK : Sig := ⟨[.sv false .blk], [], [.c .bool], []⟩
@[reducible] def Bn : Sig := ⟨[.sv false .blk], [], [.c .bool], []⟩
@[reducible] def ML : Sig := ⟨[.sv false .blk, .sv false .blk], [], [.c .bool], []⟩
@[reducible] def MN : Sig := ⟨[], [], [.c .bool], []⟩
@[reducible] def EF : Sig := ⟨[.c (.rows false .iop), .c (.rows false .iop)], [], [.c .bool], []⟩
@[reducible] def Bo : Sig := ⟨[.sv false .blk, .sv false .blk], [], [.c .bool], []⟩
@[reducible] def MO : Sig := ⟨[.c (.int .i64), .c (.pb 0 1 0)], [.box (.c (.int .i64))], [.c .bool], [.box (.c (.int .i64))]⟩
@[reducible] def EG : Sig := ⟨[.c (.rows false .i64), .c (.fn 252 [(0, 1)])], [.box (.c (.int .i64))], [.c (.int .i64)], [.box (.c (.int .i64))]⟩
@[reducible] def EH : Sig := ⟨[.c (.rows false .i64), .c (.fn 252 [(0, 1)])], [.box (.c (.int .i64))], [.c .bool], [.box (.c (.int .i64))]⟩
@[reducible] def Bq : Sig := ⟨[.sv false .poly, .c (.int .i64)], [], [.c .bool], []⟩
@[reducible] def MQ : Sig := ⟨[.c (.int .i64)], [], [.c .bool], []⟩
@[reducible] def EI : Sig := ⟨[.c (.int .i64), .c (.int .i64)], [], [.c (.int .i64)], []⟩
@[reducible] def MR : Sig := ⟨[.c (.rows false .i64)], [], [.c (.int .i64)], []⟩
@[reducible] def MS : Sig := ⟨[.c (.rows false .i64), .c (.rows false .i64)], [], [.c (.int .i64)], []⟩
@[reducible] def nX : Sig := ⟨[.c (.rows false .i64), .c (.rows false .i64)], [], [.c (.int .i64)], []⟩
@[reducible] def EJ : Sig := ⟨[.c (.int .i64), .c (.int .i64)], [], [.c .bool], []⟩
@[reducible] def EK : Sig := ⟨[.c (.rows false .i64)], [], [.c .bool], []⟩
@[reducible] def MU : Sig := ⟨[.sv false .mono], [], [.c .bool], []⟩
@[reducible] def EL : Sig := ⟨[.c (.rows false .mono), .c (.fn 223 [])], [], [.c (.int .i64)], []⟩
@[reducible] def EM : Sig := ⟨[.c (.rows false .mono), .c (.fn 223 [])], [], [.c .bool], []⟩
@[reducible] def iG : Sig := ⟨[.sv false .poly], [], [.c .bool], []⟩
@[reducible] def Br : Sig := ⟨[.sv false .atom, .c (.int .i64)], [], [.c .bool], []⟩
@[reducible] def um : Sig := ⟨[.sv false .poly, .sv false .poly], [], [.c (.int .i64)], []⟩
@[reducible] def jv : Sig := ⟨[.sv false .poly, .sv false .poly], [], [.c .bool], []⟩
@[reducible] def MV : Sig := ⟨[.sv false .atom, .sv false .atom], [], [.c .bool], []⟩
@[reducible] def MW : Sig := ⟨[.sv false .atom, .c (.pb 0 4 0)], [.box (.sv false .atom)], [.c .bool], [.box (.sv false .atom)]⟩
@[reducible] def EN : Sig := ⟨[.c (.rows false .atom), .c (.fn 212 [(0, 4)])], [.box (.sv false .atom)], [.c (.int .i64)], [.box (.sv false .atom)]⟩
@[reducible] def Bu : Sig := ⟨[.sv false .tab, .sv false .atom], [], [.c (.int .i64)], []⟩
@[reducible] def MX : Sig := ⟨[.c (.rows true .atom)], [], [.c (.clip true .atom)], []⟩
@[reducible] def Bv : Sig := ⟨[.sv true .tab, .sv true .atom], [], [.sv true .tab, .c (.int .i64)], []⟩
@[reducible] def Bw : Sig := ⟨[.c (.int .i64)], [], [.agg [.own 0]], [.rows true .mono]⟩
@[reducible] def Bz : Sig := ⟨[.c (.pb 0 2 0), .c (.int .i64), .c (.int .i64)], [.box (.agg [.rows true .atom, .bool])], [.sv true .poly], [.box (.agg [.rows true .atom, .bool])]⟩
@[reducible] def BA : Sig := ⟨[.c (.pb 0 2 0)], [.box (.agg [.rows true .atom, .bool])], [.c (.own 1)], [.box (.agg [.rows true .atom, .bool]), .rows true .poly]⟩
@[reducible] def BD : Sig := ⟨[.c (.rows false .i64)], [], [.c (.own 0)], [.rows true .i64]⟩
@[reducible] def uo : Sig := ⟨[.sv false .poly], [], [.agg [.own 0]], [.rows true .mono]⟩
@[reducible] def BF : Sig := ⟨[.sv false .tab], [], [.agg [.own 0]], [.rows true .atom]⟩
@[reducible] def MZ : Sig := ⟨[], [], [.sv true .tab, .c (.rows true .poly)], []⟩
@[reducible] def M0 : Sig := ⟨[.sv false .iop], [], [.c .bool], []⟩
@[reducible] def M4 : Sig := ⟨[.sv false .tab], [], [.c .bool], []⟩
@[reducible] def M5 : Sig := ⟨[.c (.own 0)], [.rows true .poly], [.c (.own 1)], [.rows true .poly, .rows true .poly]⟩
@[reducible] def uw : Sig := ⟨[.c (.int .i64)], [], [.agg [.own 0]], [.rows true .mono]⟩
@[reducible] def uz : Sig := ⟨[.c (.int .i64)], [], [.c (.int .i64)], []⟩
@[reducible] def M6 : Sig := ⟨[.c (.int .i64), .c (.int .i64), .c (.int .i64)], [], [.c (.int .i64)], []⟩
@[reducible] def BG : Sig := ⟨[.sv false .poly], [], [.c (.int .i64), .c .bool], []⟩
@[reducible] def BH : Sig := ⟨[.sv false .mono, .sv false .mono], [], [.c (.int .i64)], []⟩
@[reducible] def EO : Sig := ⟨[.c (.own 0), .c (.int .i64), .c (.int .i64), .c (.fn 277 [])], [.rows false .mono], [], [.rows false .mono]⟩
@[reducible] def EP : Sig := ⟨[.c (.own 0), .c (.int .i64), .c (.int .i64), .c (.int .i64), .c (.fn 277 [])], [.rows false .mono], [], [.rows false .mono]⟩
@[reducible] def ER : Sig := ⟨[.c (.own 0), .c (.int .i64), .c (.int .i64), .c (.int .i64), .c (.fn 277 [])], [.rows false .mono], [], [.rows false .mono]⟩
@[reducible] def mO : Sig := ⟨[.c (.own 0), .c (.int .i64), .c (.int .i64), .c (.int .i64), .c (.fn 277 [])], [.rows false .mono], [], [.rows false .mono]⟩
@[reducible] def ET : Sig := ⟨[.c (.own 0), .c (.int .i64), .c (.fn 277 [])], [.rows false .mono], [], [.rows false .mono]⟩
@[reducible] def EU : Sig := ⟨[.c (.own 0), .c (.fn 277 [])], [.rows false .mono], [], [.rows false .mono]⟩
@[reducible] def BI : Sig := ⟨[.c (.own 0)], [.rows false .mono], [.agg [.own 1], .c .bool], [.rows false .mono, .rows true .mono]⟩
@[reducible] def EW : Sig := ⟨[.c (.nil), .c (.int .i64)], [], [.c (.own 0)], [.rows true .mono]⟩
@[reducible] def M7 : Sig := ⟨[.c (.rows false .poly)], [], [.c (.own 0)], [.rows false .mono]⟩
@[reducible] def M8 : Sig := ⟨[.sv false .poly, .sv false .poly], [], [.agg [.own 0], .c .bool], [.rows true .mono]⟩
@[reducible] def EX : Sig := ⟨[.c (.nil), .c (.int .i64)], [], [.c (.own 0)], [.rows true .i64]⟩
@[reducible] def EY : Sig := ⟨[.c (.rows false .ints)], [], [.c (.own 0)], [.rows true .i64]⟩
@[reducible] def EZ : Sig := ⟨[.c (.own 0), .c (.int .i64), .c (.int .i64)], [.rows true .i64], [], [.rows true .i64]⟩
@[reducible] def E5 : Sig := ⟨[.c (.own 0), .c (.int .i64), .c (.int .i64)], [.rows true .i64], [], [.rows true .i64]⟩
@[reducible] def E8 : Sig := ⟨[.c (.own 0), .c (.int .i64), .c (.int .i64)], [.rows true .i64], [], [.rows true .i64]⟩
@[reducible] def E9 : Sig := ⟨[.c (.own 0), .c (.int .i64), .c (.int .i64)], [.rows true .i64], [.c (.int .i64), .c (.int .i64)], [.rows true .i64]⟩
@[reducible] def Fa : Sig := ⟨[.c (.own 0), .c (.int .i64), .c (.int .i64)], [.rows true .i64], [], [.rows true .i64]⟩
@[reducible] def Fb : Sig := ⟨[.c (.own 0), .c (.int .i64), .c (.int .i64)], [.rows true .i64], [.c .bool], [.rows true .i64]⟩
@[reducible] def Fe : Sig := ⟨[.c (.own 0), .c (.int .i64), .c (.int .i64), .c (.int .i64)], [.rows true .i64], [.c (.int .i64)], [.rows true .i64]⟩
@[reducible] def Fg : Sig := ⟨[.c (.own 0), .c (.int .i64), .c (.int .i64), .c (.int .i64)], [.rows true .i64], [.c (.int .i64), .c .bool], [.rows true .i64]⟩
@[reducible] def oL : Sig := ⟨[.c (.own 0), .c (.int .i64), .c (.int .i64), .c (.int .i64)], [.rows true .i64], [], [.rows true .i64]⟩
@[reducible] def Uw : Sig := ⟨[.c (.int .u64)], [], [.c (.int .i64)], []⟩
@[reducible] def Fh : Sig := ⟨[.c (.own 0)], [.rows true .i64], [], [.rows true .i64]⟩
@[reducible] def BJ : Sig := ⟨[.sv false .poly, .sv false .poly], [], [.agg [.own 0], .c .bool], [.rows true .mono]⟩
@[reducible] def M9 : Sig := ⟨[.sv false .poly, .c (.int .i64)], [], [.agg [.own 0]], [.rows true .mono]⟩
@[reducible] def Na : Sig := ⟨[.c (.int .i64), .sv true .poly, .sv true .poly], [], [.sv true .poly, .c .bool], []⟩
@[reducible] def Nb : Sig := ⟨[.sv true .tab, .c (.int .i64), .sv true .poly, .sv true .poly], [], [.sv true .tab, .sv true .poly, .c .bool], []⟩
@[reducible] def Nc : Sig := ⟨[.c (.int .i64), .c (.int .i64), .c (.int .i64)], [], [.c .bool], []⟩
@[reducible] def Ng : Sig := ⟨[.c (.rows false .poly)], [], [.c (.own 0)], [.rows true .poly]⟩
@[reducible] def Nh : Sig := ⟨[.sv false .sym], [], [.agg [.own 0, .own 1, .int .i64, .own 2, .own 3, .int .i64]], [.rows true .ev, .rows true .poly, .rows true .mono, .rows true .mono]⟩
@[reducible] def Ni : Sig := ⟨[.sv false .sym, .c (.int .i64)], [], [.sv true .sym], []⟩
@[reducible] def Nj : Sig := ⟨[.sv true .tab, .sv false .blk], [], [.sv true .tab, .sv true .sym], []⟩
@[reducible] def Nk : Sig := ⟨[.sv false .poly, .sv false .poly], [], [.c .bool], []⟩
@[reducible] def Fj : Sig := ⟨[.c (.rows false .poly), .c (.rows false .poly), .c (.fn 168 [])], [], [.c .bool], []⟩
@[reducible] def BK : Sig := ⟨[.c (.rows false .poly), .c (.rows false .poly)], [], [.c .bool], []⟩
@[reducible] def Nl : Sig := ⟨[.sv false .ev, .sv false .ev], [], [.c .bool], []⟩
@[reducible] def Fp : Sig := ⟨[.c (.rows false .ev), .c (.rows false .ev), .c (.fn 127 [])], [], [.c .bool], []⟩
@[reducible] def Nn : Sig := ⟨[.sv false .sym, .sv false .sym], [], [.c .bool], []⟩
@[reducible] def BL : Sig := ⟨[.sv false .blk, .sv false .blk], [], [.c .bool], []⟩
@[reducible] def Fq : Sig := ⟨[.c (.pb 0 2 0), .c (.int .i64)], [.box (.agg [.rows true .u8, .int .i64])], [.c (.rows false .cer)], [.box (.agg [.rows true .u8, .int .i64])]⟩
@[reducible] def Fu : Sig := ⟨[.c (.pb 0 2 0), .sv false .blk], [.box (.agg [.rows true .u8, .int .i64])], [.agg [.int .i64, .int .i64, .own 1, .int .i64, .int .i64, .int .i64, .int .i64]], [.box (.agg [.rows true .u8, .int .i64]), .rows true .iop]⟩
@[reducible] def Fv : Sig := ⟨[.c (.pb 0 2 0), .c (.int .i64)], [.box (.agg [.rows true .u8, .int .i64])], [.sv true .blk, .sv true .blk], [.box (.agg [.rows true .u8, .int .i64])]⟩
@[reducible] def Fw : Sig := ⟨[.c (.rows true .u8)], [], [.c (.rows false .cer), .sv false .blk, .sv false .blk], []⟩
@[reducible] def XB : Sig := ⟨[.sv false .cer, .c (.pb 0 7 0), .c (.pb 1 7 0)], [.box (.sv false .blk), .box (.sv false .blk)], [.c .bool], [.box (.sv false .blk), .box (.sv false .blk)]⟩
@[reducible] def XC : Sig := ⟨[.sv false .cer], [], [.c .bool], []⟩
@[reducible] def Fx : Sig := ⟨[.c (.rows false .cer), .c (.fn 81 [(0, 7), (1, 7)])], [.box (.sv false .blk), .box (.sv false .blk)], [.c (.int .i64)], [.box (.sv false .blk), .box (.sv false .blk)]⟩
@[reducible] def Fy : Sig := ⟨[.c (.rows false .cer), .c (.fn 83 [])], [], [.c (.int .i64)], []⟩
@[reducible] def Fz : Sig := ⟨[.c (.rows false .cer), .c (.fn 81 [(0, 7), (1, 7)])], [.box (.sv false .blk), .box (.sv false .blk)], [.c .bool], [.box (.sv false .blk), .box (.sv false .blk)]⟩
@[reducible] def FB : Sig := ⟨[.c (.rows false .cer), .c (.fn 83 [])], [], [.c .bool], []⟩
@[reducible] def XD : Sig := ⟨[.c (.rows false .cer), .sv false .blk, .sv false .blk], [], [.c .bool], []⟩
@[reducible] def FC : Sig := ⟨[.sv false .blk, .sv false .blk], [], [.c .bool], []⟩
@[reducible] def FD : Sig := ⟨[.c (.rows false .cer), .sv false .blk, .sv false .blk], [], [.c .bool], []⟩
@[reducible] def XE : Sig := ⟨[.c (.rows false .cer)], [], [.c .bool], []⟩
@[reducible] def acK : Sig := ⟨[.c (.rows true .u8)], [], [.c .bool], []⟩
def PX (A:Alg) (x:Tup A.ah [.i,.l .u8,.i]):Ot A bO:=
 A.l1 .i (A.lit 0) fun x0=>
 A.l1 .i (A.arith .add .i64 x.2.2.1 (A.lit 1)) fun x1=>
 A.cond (A.ak (A.cmp .lss x.1 (A.lit 1)) (A.bl true) (A.cmp .eql (A.len .u8 x.2.1) (A.lit 0))) (A.l1 .i (A.lit 0) fun x2=>
 A.ret _ (x2.1,x.2.1,x1.1,()))<|
 A.l1 .i (A.arith .sub .i64 x1.1 (A.lit 1)) fun x2=>
 A.cond (A.cmp .lss x2.1 (A.len .u8 x.2.1)) (A.bd .u8 x.2.1 x2.1<|
 A.chk (A.cmp .neq x.1 (A.lit 0))<|
 A.l1 .i (A.arith .rem .i64 (A.conv .i64 (A.fI .u8 0 (A.get .u8 x.2.1 x2.1))) x.1) fun x3=>
 A.ret _ (x3.1,x.2.1,x1.1,()))<|
 A.chk (A.cmp .neq (A.len .u8 x.2.1) (A.lit 0))<|
 A.bd .u8 x.2.1 (A.arith .rem .i64 x2.1 (A.len .u8 x.2.1))<|
 A.chk (A.cmp .neq (A.len .u8 x.2.1) (A.lit 0))<|
 A.bd .u8 x.2.1 (A.arith .rem .i64 (A.arith .add .i64 (A.arith .mul .i64 x2.1 (A.lit 7)) (A.lit 3)) (A.len .u8 x.2.1))<|
 A.chk (A.cmp .neq (A.len .u8 x.2.1) (A.lit 0))<|
 A.l1 .i (A.arith .add .i64 (A.arith .add .i64 (A.arith .add .i64 (A.arith .mul .i64 (A.conv .i64 (A.fI .u8 0 (A.get .u8 x.2.1 (A.arith .rem .i64 x2.1 (A.len .u8 x.2.1))))) (A.lit 131)) (A.arith .mul .i64 (A.conv .i64 (A.fI .u8 0 (A.get .u8 x.2.1 (A.arith .rem .i64 (A.arith .add .i64 (A.arith .mul .i64 x2.1 (A.lit 7)) (A.lit 3)) (A.len .u8 x.2.1))))) (A.lit 1117))) (A.arith .mul .i64 x2.1 (A.lit 29))) (A.arith .mul .i64 (A.arith .quo .i64 x2.1 (A.len .u8 x.2.1)) (A.lit 53))) fun x3=>
 A.chk (A.cmp .neq (A.lit 64) (A.lit 0))<|
 A.l1 .i (A.arith .xor .i64 x3.1 (A.arith .quo .i64 x3.1 (A.lit 64))) fun x4=>
 A.chk (A.cmp .neq x.1 (A.lit 0))<|
 A.l1 .i (A.arith .rem .i64 x4.1 x.1) fun x5=>
 A.ret _ (x5.1,x.2.1,x1.1,())
def PY (A:Alg) (aO:Pt A bO) (aP:Ft A bO) (x:Tup A.ah [.i,.l .u8,.i]):Ot A tO:=
 A.l1 .b (A.bl false) fun x0=>
 A.cl aO aP (x.1,x.2.1,x.2.2.1,()) fun x1=>
 A.l1 .b (A.cmp .eql x1.1 (A.arith .sub .i64 x.1 (A.lit 1))) fun x2=>
 A.ret _ (x2.1,x1.2.1,x1.2.2.1,())
def PZ (A:Alg) (x:Tup A.ah [.i,.i,.i]):Ot A fG:=
 A.l1 .b (A.bl false) fun x0=>
 A.rb (A.ak (A.cmp .geq x.1 x.2.1) (A.cmp .leq x.1 x.2.2.1) (A.bl false))
def P5 (A:Alg) (x:Tup A.ah [.i]):Ot A mI:=
 A.l1 .b (A.bl false) fun x0=>
 A.rb (A.ak (A.cmp .geq x.1 (A.lit 0)) (A.cmp .lss x.1 (A.lit 65536)) (A.bl false))
def P6 (A:Alg) (fH:Pt A fG) (fJ:Ft A fG) (x:Tup A.ah [.i]):Ot A Ea:=
 A.l1 .b (A.bl false) fun x0=>
 A.cl fH fJ (x.1,A.lit 1,A.lit 4,()) fun x1=>
 A.rb (A.ak x1.1 (A.bl true) (A.cmp .eql x.1 (A.lit 6)))
def P7 (A:Alg) (aew:Pt A Ea) (aex:Ft A Ea) (x:Tup A.ah [.l .iop,.i,.i]):Ot A tQ:=
 A.l1 .b (A.bl false) fun x0=>
 A.chk (A.orB (A.aA (A.ak (A.cmp .geq x.2.1 (A.lit 0)) (A.cmp .lss x.2.1 x.2.2.1) (A.bl false))) (A.cmp .leq (A.lit 0) x.2.1))<|
 A.chk (A.orB (A.aA (A.ak (A.cmp .geq x.2.1 (A.lit 0)) (A.cmp .lss x.2.1 x.2.2.1) (A.bl false))) (A.cmp .lss x.2.1 (A.len .iop x.1)))<|
 A.cg (A.ak (A.cmp .geq x.2.1 (A.lit 0)) (A.cmp .lss x.2.1 x.2.2.1) (A.bl false)) aew aex (A.fI .iop 0 (A.get .iop x.1 x.2.1),()) fun x1=>
 A.rb (A.ak (A.ak (A.cmp .geq x.2.1 (A.lit 0)) (A.cmp .lss x.2.1 x.2.2.1) (A.bl false)) x1.1 (A.bl false))
def P8 (A:Alg) (xX:Pt A mI) (xY:Ft A mI) (fH:Pt A fG) (fJ:Ft A fG) (oM:Pt A tQ) (oN:Ft A tQ) (x:Tup A.ah [.l .iop,.i,.i]):Ot A Eb:=
 A.l1 .b (A.bl false) fun x0=>
 A.bd .iop x.1 x.2.1<|
 A.l1 (.x .iop) (A.get .iop x.1 x.2.1) fun x1=>
 A.l1 .b (A.cmp .eql (A.fI .iop 0 x1.1) (A.lit 1)) fun x2=>
 A.cond x2.1 (A.cg (A.ak (A.cmp .eql (A.fI .iop 1 x1.1) (A.lit 0)) (A.cmp .eql (A.fI .iop 2 x1.1) (A.lit 0)) (A.bl false)) xX xY (A.fI .iop 3 x1.1,()) fun x3=>
 A.rb (A.ak (A.ak (A.ak (A.cmp .eql (A.fI .iop 1 x1.1) (A.lit 0)) (A.cmp .eql (A.fI .iop 2 x1.1) (A.lit 0)) (A.bl false)) x3.1 (A.bl false)) (A.cmp .eql (A.fI .iop 4 x1.1) (A.lit 0)) (A.bl false)))<|
 A.l1 .b (A.cmp .eql (A.fI .iop 0 x1.1) (A.lit 2)) fun x3=>
 A.cond x3.1 (A.cg (A.ak (A.cmp .eql (A.fI .iop 1 x1.1) (A.lit 0)) (A.cmp .eql (A.fI .iop 2 x1.1) (A.lit 0)) (A.bl false)) fH fJ (A.fI .iop 3 x1.1,A.lit 0,A.lit 3,()) fun x4=>
 A.rb (A.ak (A.ak (A.ak (A.cmp .eql (A.fI .iop 1 x1.1) (A.lit 0)) (A.cmp .eql (A.fI .iop 2 x1.1) (A.lit 0)) (A.bl false)) x4.1 (A.bl false)) (A.cmp .eql (A.fI .iop 4 x1.1) (A.lit 0)) (A.bl false)))<|
 A.l1 .b (A.cmp .eql (A.fI .iop 0 x1.1) (A.lit 3)) fun x4=>
 A.cond x4.1 (A.cl oM oN (x.1,A.fI .iop 1 x1.1,x.2.1,()) fun x5=>
 A.cg x5.1 oM oN (x.1,A.fI .iop 2 x1.1,x.2.1,()) fun x6=>
 A.cg (A.ak x5.1 x6.1 (A.bl false)) fH fJ (A.fI .iop 3 x1.1,A.lit 1,A.lit 5,()) fun x7=>
 A.rb (A.ak (A.ak (A.ak x5.1 x6.1 (A.bl false)) x7.1 (A.bl false)) (A.cmp .eql (A.fI .iop 4 x1.1) (A.lit 0)) (A.bl false)))<|
 A.l1 .b (A.cmp .eql (A.fI .iop 0 x1.1) (A.lit 4)) fun x5=>
 A.bind [.l .iop,.i,.i,.i,.b,.x .iop] (A.cond x5.1 (A.ret _ (x.1,x.2.1,x.2.2.1,A.fI .iop 0 x1.1,x5.1,x1.1,()))<|
 A.l1 .b (A.cmp .eql (A.fI .iop 0 x1.1) (A.lit 7)) fun x6=>
 A.ret _ (x.1,x.2.1,x.2.2.1,A.fI .iop 0 x1.1,x6.1,x1.1,())) fun x6=>
 A.cond x6.q.1 (A.cl oM oN (x6.1,A.fI .iop 1 x6.q.2.1,x6.2.1,()) fun x7=>
 A.cg (A.ak (A.ak x7.1 (A.cmp .eql (A.fI .iop 2 x6.q.2.1) (A.lit 0)) (A.bl false)) (A.cmp .eql (A.fI .iop 3 x6.q.2.1) (A.lit 0)) (A.bl false)) fH fJ (A.fI .iop 4 x6.q.2.1,A.lit 0,A.arith .sub .i64 x6.2.2.1 (A.lit 1),()) fun x8=>
 A.rb (A.ak (A.ak (A.ak x7.1 (A.cmp .eql (A.fI .iop 2 x6.q.2.1) (A.lit 0)) (A.bl false)) (A.cmp .eql (A.fI .iop 3 x6.q.2.1) (A.lit 0)) (A.bl false)) x8.1 (A.bl false)))<|
 A.l1 .b (A.cmp .eql x6.2.2.2.1 (A.lit 5)) fun x7=>
 A.cond x7.1 (A.cl oM oN (x6.1,A.fI .iop 1 x6.q.2.1,x6.2.1,()) fun x8=>
 A.cg x8.1 oM oN (x6.1,A.fI .iop 2 x6.q.2.1,x6.2.1,()) fun x9=>
 A.cg (A.ak (A.ak x8.1 x9.1 (A.bl false)) (A.cmp .eql (A.fI .iop 3 x6.q.2.1) (A.lit 0)) (A.bl false)) fH fJ (A.fI .iop 4 x6.q.2.1,A.lit 0,A.arith .sub .i64 x6.2.2.1 (A.lit 1),()) fun x10=>
 A.rb (A.ak (A.ak (A.ak x8.1 x9.1 (A.bl false)) (A.cmp .eql (A.fI .iop 3 x6.q.2.1) (A.lit 0)) (A.bl false)) x10.1 (A.bl false)))<|
 A.l1 .b (A.cmp .eql x6.2.2.2.1 (A.lit 6)) fun x8=>
 A.cond x8.1 (A.cg (A.ak (A.ak (A.cmp .eql (A.fI .iop 1 x6.q.2.1) (A.lit 0)) (A.cmp .eql (A.fI .iop 2 x6.q.2.1) (A.lit 0)) (A.bl false)) (A.cmp .eql (A.fI .iop 3 x6.q.2.1) (A.lit 0)) (A.bl false)) fH fJ (A.fI .iop 4 x6.q.2.1,A.lit 0,A.arith .sub .i64 x6.2.2.1 (A.lit 1),()) fun x9=>
 A.rb (A.ak (A.ak (A.ak (A.cmp .eql (A.fI .iop 1 x6.q.2.1) (A.lit 0)) (A.cmp .eql (A.fI .iop 2 x6.q.2.1) (A.lit 0)) (A.bl false)) (A.cmp .eql (A.fI .iop 3 x6.q.2.1) (A.lit 0)) (A.bl false)) x9.1 (A.bl false)))<|
 A.l1 .b (A.cmp .eql x6.2.2.2.1 (A.lit 8)) fun x9=>
 A.cond x9.1 (A.cl oM oN (x6.1,A.fI .iop 1 x6.q.2.1,x6.2.1,()) fun x10=>
 A.cg (A.ak x10.1 (A.cmp .eql (A.fI .iop 2 x6.q.2.1) (A.lit 0)) (A.bl false)) fH fJ (A.fI .iop 3 x6.q.2.1,A.lit 0,A.lit 3,()) fun x11=>
 A.rb (A.ak (A.ak (A.ak x10.1 (A.cmp .eql (A.fI .iop 2 x6.q.2.1) (A.lit 0)) (A.bl false)) x11.1 (A.bl false)) (A.cmp .eql (A.fI .iop 4 x6.q.2.1) (A.lit 0)) (A.bl false)))<|
 A.rb (A.bl false)
def P9 (A:Alg) (xX:Pt A mI) (xY:Ft A mI) (oM:Pt A tQ) (oN:Ft A tQ) (x:Tup A.ah [.x .blk]):Ot A Ec:=
 A.l1 .b (A.bl false) fun x0=>
 A.l1 .i (A.len .iop (A.fL .blk 2 .iop x.1)) fun x1=>
 A.l1 .b (A.cmp .eql (A.fI .blk 3 x.1) (A.lit 1)) fun x2=>
 A.cond x2.1 (A.cg (A.ak (A.cmp .eql (A.fI .blk 4 x.1) (A.lit 0)) (A.cmp .eql (A.fI .blk 5 x.1) (A.lit 0)) (A.bl false)) xX xY (A.fI .blk 6 x.1,()) fun x3=>
 A.rb (A.ak (A.ak (A.cmp .eql (A.fI .blk 4 x.1) (A.lit 0)) (A.cmp .eql (A.fI .blk 5 x.1) (A.lit 0)) (A.bl false)) x3.1 (A.bl false)))<|
 A.l1 .b (A.cmp .eql (A.fI .blk 3 x.1) (A.lit 2)) fun x3=>
 A.cond x3.1 (A.cl oM oN (A.fL .blk 2 .iop x.1,A.fI .blk 4 x.1,x1.1,()) fun x4=>
 A.rb (A.ak (A.ak x4.1 (A.cmp .eql (A.fI .blk 5 x.1) (A.lit 0)) (A.bl false)) (A.cmp .eql (A.fI .blk 6 x.1) (A.lit 0)) (A.bl false)))<|
 A.l1 .b (A.cmp .eql (A.fI .blk 3 x.1) (A.lit 3)) fun x4=>
 A.bind [.i,.b,.x .blk] (A.cond x4.1 (A.ret _ (x1.1,x4.1,x.1,()))<|
 A.l1 .b (A.cmp .eql (A.fI .blk 3 x.1) (A.lit 4)) fun x5=>
 A.ret _ (x1.1,x5.1,x.1,())) fun x5=>
 A.cond x5.2.1 (A.cl oM oN (A.fL .blk 2 .iop x5.2.2.1,A.fI .blk 4 x5.2.2.1,x5.1,()) fun x6=>
 A.cg x6.1 oM oN (A.fL .blk 2 .iop x5.2.2.1,A.fI .blk 5 x5.2.2.1,x5.1,()) fun x7=>
 A.cg (A.ak x6.1 x7.1 (A.bl false)) xX xY (A.fI .blk 6 x5.2.2.1,()) fun x8=>
 A.rb (A.ak (A.ak x6.1 x7.1 (A.bl false)) x8.1 (A.bl false)))<|
 A.rb (A.bl false)
def Qa (A:Alg) (fH:Pt A fG) (fJ:Ft A fG) (aey:Pt A Ec) (aez:Ft A Ec) (aeA:Pt A Eb) (aeB:Ft A Eb) (x:Tup A.ah [.x .blk]):Ot A gJ:=
 A.l1 .b (A.bl false) fun x0=>
 A.cl fH fJ (A.fI .blk 1 x.1,A.lit 1,A.lit 8,()) fun x1=>
 A.cg (A.aA (A.aA x1.1)) fH fJ (A.fI .blk 0 x.1,A.lit 0,A.arith .sub .i64 (A.lit 64) (A.fI .blk 1 x.1),()) fun x2=>
 A.cond (A.ak (A.ak (A.aA x1.1) (A.bl true) (A.aA x2.1)) (A.bl true) (A.cmp .gtr (A.len .iop (A.fL .blk 2 .iop x.1)) (A.lit 48))) (A.rb (A.bl false))<|
 A.l1 .i (A.lit 0) fun x3=>
 A.iter [.i,.x .blk] (fun x4=>
 A.cond (A.cmp .lss x4.1 (A.len .iop (A.fL .blk 2 .iop x4.2.1))) (A.cl aeA aeB (A.fL .blk 2 .iop x4.2.1,x4.1,A.fI .blk 1 x4.2.1,()) fun x5=>
 A.cond (A.aA x5.1) (A.l1 .b (A.bl false) fun x6=>
 A.inr _<|A.ret _ (x6.1,()))<|
 A.l1 .i (A.arith .add .i64 x4.1 (A.lit 1)) fun x6=>
 A.inl _ (x6.1,x4.2.1,()))<|
 A.inr _<|A.cl aey aez (x4.2.1,()) fun x5=>
 A.rb x5.1) (x3.1,x.1,())
def Qb (A:Alg) (x:Tup A.ah [.x .blk]):Ot A jJ:=
 A.l1 (.x .blk) x.1 fun x0=>
 A.l1 (.l .iop) (A.lst .iop []) fun x1=>
 A.chk (A.cmp .leq (A.addN (A.len .iop x1.1) (A.len .iop (A.fL .blk 2 .iop x.1))) (A.lit 1073741824))<|
 A.l1 (.l .iop) (A.app .iop x1.1 (A.fL .blk 2 .iop x.1)) fun x2=>
 A.ret _ (A.fI .blk 0 x0.1,A.fI .blk 1 x0.1,A.fI .blk 3 x0.1,A.fI .blk 4 x0.1,A.fI .blk 5 x0.1,A.fI .blk 6 x0.1,x2.1,())
def Qc (A:Alg) (fH:Pt A fG) (fJ:Ft A fG) (x:Tup A.ah [.x .iop,.l .i64]):Ot A tT:=
 A.l1 (.x .iop) x.1 fun x0=>
 A.cl fH fJ (A.fI .iop 0 x.1,A.lit 3,A.lit 5,()) fun x1=>
 A.bind [.l .i64,.x .iop,.i,.i,.i,.i,.i,.x .iop] (A.cond (A.ak (A.ak x1.1 (A.bl true) (A.cmp .eql (A.fI .iop 0 x.1) (A.lit 7))) (A.bl true) (A.cmp .eql (A.fI .iop 0 x.1) (A.lit 8))) (A.bd .i64 x.2.1 (A.fI .iop 1 x.1)<|
 A.l1 .i (A.fI .i64 0 (A.get .i64 x.2.1 (A.fI .iop 1 x.1))) fun x2=>
 A.ret _ (x.2.1,x.1,A.lit 0,A.lit 0,A.lit 0,A.lit 0,A.lit 0,A.mkX .iop (A.fI .iop 0 x0.1,x2.1,A.fI .iop 2 x0.1,A.fI .iop 3 x0.1,A.fI .iop 4 x0.1,()),()))<|
 A.ret _ (x.2.1,x.1,A.lit 0,A.lit 0,A.lit 0,A.lit 0,A.lit 0,x0.1,())) fun x2=>
 A.bind [.i,.i,.i,.i,.i,.x .iop] (A.cond (A.ak (A.cmp .eql (A.fI .iop 0 x2.2.1) (A.lit 3)) (A.bl true) (A.cmp .eql (A.fI .iop 0 x2.2.1) (A.lit 5))) (A.bd .i64 x2.1 (A.fI .iop 2 x2.2.1)<|
 A.l1 .i (A.fI .i64 0 (A.get .i64 x2.1 (A.fI .iop 2 x2.2.1))) fun x3=>
 A.ret _ (x2.2.2.1,x2.2.2.2.1,x2.q.1,x2.q.2.1,x2.q.2.2.1,A.mkX .iop (A.fI .iop 0 x2.q.2.2.2.1,A.fI .iop 1 x2.q.2.2.2.1,x3.1,A.fI .iop 3 x2.q.2.2.2.1,A.fI .iop 4 x2.q.2.2.2.1,()),()))<|
 A.ret _ (x2.2.2.1,x2.2.2.2.1,x2.q.1,x2.q.2.1,x2.q.2.2.1,x2.q.2.2.2.1,())) fun x3=>
 A.l1 (.x .iop) x3.q.2.1 fun x4=>
 A.ret _ (x4.1,())
def Qd (A:Alg) (mP:Pt A gJ) (mQ:Ft A gJ) (Qe:Pt A tT) (Qf:Ft A tT) (xZ:Pt A jJ) (yc:Ft A jJ) (x:Tup A.ah [.x .blk]):Ot A mJ:=
 A.cl mP mQ (x.1,()) fun x0=>
 A.cond (A.aA x0.1) (A.ret _ (A.lit 0,A.lit 0,A.lit 0,A.lit 0,A.lit 0,A.lit 0,A.bV .iop,()))<|
 A.cl xZ yc (x.1,()) fun x1=>
 A.l1 (.l .i64) (A.lst .i64 []) fun x2=>
 A.l1 (.l .i64) (A.lst .i64 [A.mkX .i64 (A.lit (-1),()),A.mkX .i64 (A.lit (-1),()),A.mkX .i64 (A.lit (-1),()),A.mkX .i64 (A.lit (-1),())]) fun x3=>
 A.l1 .i (A.lit 0) fun x4=>
 A.iter [.i,.i,.i,.i,.i,.i,.i,.i,.i,.i,.i,.i,.i,.l .i64,.l .i64,.l .iop] (fun x5=>
 A.cond (A.cmp .lss x5.1 (A.len .iop x5.o.q.2.2.2.1)) (A.bd .iop x5.o.q.2.2.2.1 x5.1<|
 A.bd .iop x5.o.q.2.2.2.1 x5.1<|
 A.cl Qe Qf (A.get .iop x5.o.q.2.2.2.1 x5.1,x5.o.q.2.1,()) fun x6=>
 A.l1 (.x .iop) x6.1 fun x7=>
 A.bd .iop x5.o.q.2.2.2.1 x5.1<|
 A.bd .iop x5.o.q.2.2.2.1 x5.1<|
 A.l1 (.x .iop) x7.1 fun x8=>
 A.l1 .i x5.1 fun x9=>
 A.chk (A.orB (A.aA (A.cmp .eql (A.fI .iop 0 x7.1) (A.lit 2))) (A.cmp .leq (A.lit 0) (A.fI .iop 3 x7.1)))<|
 A.chk (A.orB (A.aA (A.cmp .eql (A.fI .iop 0 x7.1) (A.lit 2))) (A.cmp .lss (A.fI .iop 3 x7.1) (A.len .i64 x5.o.q.2.2.1)))<|
 A.chk (A.orB (A.aA (A.cmp .eql (A.fI .iop 0 x7.1) (A.lit 2))) (A.cmp .leq (A.lit 0) (A.fI .iop 3 x7.1)))<|
 A.chk (A.orB (A.aA (A.cmp .eql (A.fI .iop 0 x7.1) (A.lit 2))) (A.cmp .lss (A.fI .iop 3 x7.1) (A.len .i64 x5.o.q.2.2.1)))<|
 A.bind [.i,.i,.i,.i,.i,.i,.i,.i,.i,.i,.i,.i,.i,.i,.l .i64,.l .i64,.x .iop,.l .iop] (A.cond (A.ak (A.cmp .eql (A.fI .iop 0 x7.1) (A.lit 2)) (A.cmp .geq (A.fI .i64 0 (A.get .i64 x5.o.q.2.2.1 (A.fI .iop 3 x7.1))) (A.lit 0)) (A.bl false)) (A.bd .i64 x5.o.q.2.2.1 (A.fI .iop 3 x7.1)<|
 A.bd .i64 x5.o.q.2.2.1 (A.fI .iop 3 x7.1)<|
 A.l1 .i (A.fI .i64 0 (A.get .i64 x5.o.q.2.2.1 (A.fI .iop 3 x7.1))) fun x10=>
 A.ret _ (x5.1,x10.1,x5.2.1,x5.2.2.1,x5.2.2.2.1,x5.q.1,x5.q.2.1,x5.q.2.2.1,x5.q.2.2.2.1,x5.o.1,x5.o.2.1,x5.o.2.2.1,x5.o.2.2.2.1,x5.o.q.1,x5.o.q.2.1,x5.o.q.2.2.1,x7.1,A.set .iop x5.o.q.2.2.2.1 x5.1 x8.1,()))<|
 A.ret _ (x5.1,x9.1,x5.2.1,x5.2.2.1,x5.2.2.2.1,x5.q.1,x5.q.2.1,x5.q.2.2.1,x5.q.2.2.2.1,x5.o.1,x5.o.2.1,x5.o.2.2.1,x5.o.2.2.2.1,x5.o.q.1,x5.o.q.2.1,x5.o.q.2.2.1,x7.1,A.set .iop x5.o.q.2.2.2.1 x5.1 x8.1,())) fun x10=>
 A.bind [.i,.i,.i,.i,.i,.i,.i,.i,.i,.i,.i,.i,.i,.i,.l .i64,.l .i64,.x .iop,.l .iop] (A.cond (A.cmp .eql (A.fI .iop 0 x10.o.o.1) (A.lit 2)) (A.bd .i64 x10.o.q.2.2.2.1 (A.fI .iop 3 x10.o.o.1)<|
 A.bd .i64 x10.o.q.2.2.2.1 (A.fI .iop 3 x10.o.o.1)<|
 A.l1 .i x10.2.1 fun x11=>
 A.ret _ (x10.1,x10.2.1,x10.2.2.1,x10.2.2.2.1,x10.q.1,x10.q.2.1,x10.q.2.2.1,x10.q.2.2.2.1,x10.o.1,x10.o.2.1,x10.o.2.2.1,x10.o.2.2.2.1,x10.o.q.1,x10.o.q.2.1,x10.o.q.2.2.1,A.set .i64 x10.o.q.2.2.2.1 (A.fI .iop 3 x10.o.o.1) (A.mkX .i64 (x11.1,())),x10.o.o.1,x10.o.o.2.1,()))<|
 A.ret _ (x10.1,x10.2.1,x10.2.2.1,x10.2.2.2.1,x10.q.1,x10.q.2.1,x10.q.2.2.1,x10.q.2.2.2.1,x10.o.1,x10.o.2.1,x10.o.2.2.1,x10.o.2.2.2.1,x10.o.q.1,x10.o.q.2.1,x10.o.q.2.2.1,x10.o.q.2.2.2.1,x10.o.o.1,x10.o.o.2.1,())) fun x11=>
 A.bind [.i,.i,.i,.i,.i,.i,.i,.i,.i,.i,.i,.i,.i,.i,.l .i64,.l .i64,.l .iop] (A.cond (A.cmp .eql (A.fI .iop 0 x11.o.o.1) (A.lit 8)) (A.bd .i64 x11.o.q.2.2.2.1 (A.fI .iop 3 x11.o.o.1)<|
 A.bd .i64 x11.o.q.2.2.2.1 (A.fI .iop 3 x11.o.o.1)<|
 A.l1 .i (A.fI .iop 1 x11.o.o.1) fun x12=>
 A.ret _ (x11.1,x11.2.1,x11.2.2.1,x11.2.2.2.1,x11.q.1,x11.q.2.1,x11.q.2.2.1,x11.q.2.2.2.1,x11.o.1,x11.o.2.1,x11.o.2.2.1,x11.o.2.2.2.1,x11.o.q.1,x11.o.q.2.1,x11.o.q.2.2.1,A.set .i64 x11.o.q.2.2.2.1 (A.fI .iop 3 x11.o.o.1) (A.mkX .i64 (x12.1,())),x11.o.o.2.1,()))<|
 A.ret _ (x11.1,x11.2.1,x11.2.2.1,x11.2.2.2.1,x11.q.1,x11.q.2.1,x11.q.2.2.1,x11.q.2.2.2.1,x11.o.1,x11.o.2.1,x11.o.2.2.1,x11.o.2.2.2.1,x11.o.q.1,x11.o.q.2.1,x11.o.q.2.2.1,x11.o.q.2.2.2.1,x11.o.o.2.1,())) fun x12=>
 A.l1 (.l .i64) (A.lst .i64 [A.mkX .i64 (x12.2.1,())]) fun x13=>
 A.chk (A.cmp .leq (A.addN (A.len .i64 x12.o.q.2.2.1) (A.len .i64 x13.1)) (A.lit 1073741824))<|
 A.l1 (.l .i64) (A.app .i64 x12.o.q.2.2.1 x13.1) fun x14=>
 A.l1 .i (A.arith .add .i64 x12.1 (A.lit 1)) fun x15=>
 A.inl _ (x15.1,x12.2.2.1,x12.2.2.2.1,x12.q.1,x12.q.2.1,x12.q.2.2.1,x12.q.2.2.2.1,x12.o.1,x12.o.2.1,x12.o.2.2.1,x12.o.2.2.2.1,x12.o.q.1,x12.o.q.2.1,x14.1,x12.o.q.2.2.2.1,x12.o.o.1,()))<|
 A.inr _<|A.bind [.i,.i,.i,.i,.i,.i,.i,.i,.i,.i,.i,.i,.l .i64,.l .iop] (A.cond (A.cmp .neq x5.o.2.1 (A.lit 1)) (A.bd .i64 x5.o.q.2.1 x5.o.2.2.1<|
 A.bd .i64 x5.o.q.2.1 x5.o.2.2.1<|
 A.l1 .i (A.fI .i64 0 (A.get .i64 x5.o.q.2.1 x5.o.2.2.1)) fun x6=>
 A.ret _ (x5.2.1,x5.2.2.1,x5.2.2.2.1,x5.q.1,x5.q.2.1,x5.q.2.2.1,x5.q.2.2.2.1,x5.o.1,x5.o.2.1,x6.1,x5.o.2.2.2.1,x5.o.q.1,x5.o.q.2.1,x5.o.q.2.2.2.1,()))<|
 A.ret _ (x5.2.1,x5.2.2.1,x5.2.2.2.1,x5.q.1,x5.q.2.1,x5.q.2.2.1,x5.q.2.2.2.1,x5.o.1,x5.o.2.1,x5.o.2.2.1,x5.o.2.2.2.1,x5.o.q.1,x5.o.q.2.1,x5.o.q.2.2.2.1,())) fun x6=>
 A.bind [.i,.i,.i,.i,.i,.i,.i,.i,.i,.i,.i,.i,.l .iop] (A.cond (A.ak (A.cmp .eql x6.o.1 (A.lit 3)) (A.bl true) (A.cmp .eql x6.o.1 (A.lit 4))) (A.bd .i64 x6.o.q.1 x6.o.2.2.1<|
 A.bd .i64 x6.o.q.1 x6.o.2.2.1<|
 A.l1 .i (A.fI .i64 0 (A.get .i64 x6.o.q.1 x6.o.2.2.1)) fun x7=>
 A.ret _ (x6.1,x6.2.1,x6.2.2.1,x6.2.2.2.1,x6.q.1,x6.q.2.1,x6.q.2.2.1,x6.q.2.2.2.1,x6.o.1,x6.o.2.1,x7.1,x6.o.2.2.2.1,x6.o.q.2.1,()))<|
 A.ret _ (x6.1,x6.2.1,x6.2.2.1,x6.2.2.2.1,x6.q.1,x6.q.2.1,x6.q.2.2.1,x6.q.2.2.2.1,x6.o.1,x6.o.2.1,x6.o.2.2.1,x6.o.2.2.2.1,x6.o.q.2.1,())) fun x7=>
 A.ret _ (x7.q.2.2.1,x7.q.2.2.2.1,x7.o.1,x7.o.2.1,x7.o.2.2.1,x7.o.2.2.2.1,x7.o.q.1,())) (x4.1,A.lit 0,A.lit 0,A.lit 0,A.lit 0,A.lit 0,A.lit 0,x1.1,x1.2.1,x1.2.2.1,x1.2.2.2.1,x1.q.1,x1.q.2.1,x2.1,x3.1,x1.q.2.2.1,())
def Qg (A:Alg) (Qe:Pt A tT) (Qf:Ft A tT) (x:Tup A.ah [.x .blk,.l .bool]):Ot A tV:=
 A.l1 (.l .iop) (A.lst .iop []) fun x0=>
 A.l1 (.l .i64) (A.lst .i64 []) fun x1=>
 A.l1 .i (A.lit 0) fun x2=>
 A.iter [.l .bool,.i,.x .blk,.i,.i,.i,.i,.i,.i,.l .iop,.l .i64] (fun x3=>
 A.cond (A.cmp .lss x3.2.1 (A.len .iop (A.fL .blk 2 .iop x3.2.2.1))) (A.l1 (.l .i64) (A.lst .i64 [A.mkX .i64 (A.len .iop x3.o.2.1,())]) fun x4=>
 A.chk (A.cmp .leq (A.addN (A.len .i64 x3.o.2.2.1) (A.len .i64 x4.1)) (A.lit 1073741824))<|
 A.l1 (.l .i64) (A.app .i64 x3.o.2.2.1 x4.1) fun x5=>
 A.bd .bool x3.1 x3.2.1<|
 A.bind [.l .bool,.i,.x .blk,.i,.i,.i,.i,.i,.i,.l .iop,.l .i64] (A.cond (A.fB .bool 0 (A.get .bool x3.1 x3.2.1)) (A.bd .iop (A.fL .blk 2 .iop x3.2.2.1) x3.2.1<|
 A.cl Qe Qf (A.get .iop (A.fL .blk 2 .iop x3.2.2.1) x3.2.1,x5.1,()) fun x6=>
 A.l1 (.l .iop) (A.lst .iop [x6.1]) fun x7=>
 A.chk (A.cmp .leq (A.addN (A.len .iop x3.o.2.1) (A.len .iop x7.1)) (A.lit 1073741824))<|
 A.l1 (.l .iop) (A.app .iop x3.o.2.1 x7.1) fun x8=>
 A.ret _ (x3.1,x3.2.1,x3.2.2.1,x3.2.2.2.1,x3.q.1,x3.q.2.1,x3.q.2.2.1,x3.q.2.2.2.1,x3.o.1,x8.1,x5.1,()))<|
 A.ret _ (x3.1,x3.2.1,x3.2.2.1,x3.2.2.2.1,x3.q.1,x3.q.2.1,x3.q.2.2.1,x3.q.2.2.2.1,x3.o.1,x3.o.2.1,x5.1,())) fun x6=>
 A.l1 .i (A.arith .add .i64 x6.2.1 (A.lit 1)) fun x7=>
 A.inl _ (x6.1,x7.1,x6.2.2.1,x6.2.2.2.1,x6.q.1,x6.q.2.1,x6.q.2.2.1,x6.q.2.2.2.1,x6.o.1,x6.o.2.1,x6.o.2.2.1,()))<|
 A.inr _<|A.l1 (.x .blk) x3.2.2.1 fun x4=>
 A.bind [.x .blk,.i,.i,.i,.i,.i,.i,.l .i64,.i,.i,.i,.i,.i,.i,.l .iop] (A.cond (A.cmp .neq (A.fI .blk 3 x3.2.2.1) (A.lit 1)) (A.bd .i64 x3.o.2.2.1 (A.fI .blk 4 x3.2.2.1)<|
 A.bd .i64 x3.o.2.2.1 (A.fI .blk 4 x3.2.2.1)<|
 A.l1 .i (A.fI .i64 0 (A.get .i64 x3.o.2.2.1 (A.fI .blk 4 x3.2.2.1))) fun x5=>
 A.ret _ (x3.2.2.1,x3.2.2.2.1,x3.q.1,x3.q.2.1,x3.q.2.2.1,x3.q.2.2.2.1,x3.o.1,x3.o.2.2.1,A.fI .blk 0 x4.1,A.fI .blk 1 x4.1,A.fI .blk 3 x4.1,x5.1,A.fI .blk 5 x4.1,A.fI .blk 6 x4.1,x3.o.2.1,()))<|
 A.ret _ (x3.2.2.1,x3.2.2.2.1,x3.q.1,x3.q.2.1,x3.q.2.2.1,x3.q.2.2.2.1,x3.o.1,x3.o.2.2.1,A.fI .blk 0 x4.1,A.fI .blk 1 x4.1,A.fI .blk 3 x4.1,A.fI .blk 4 x4.1,A.fI .blk 5 x4.1,A.fI .blk 6 x4.1,x3.o.2.1,())) fun x5=>
 A.bind [.i,.i,.i,.i,.i,.i,.i,.i,.i,.i,.i,.i,.l .iop] (A.cond (A.ak (A.cmp .eql (A.fI .blk 3 x5.1) (A.lit 3)) (A.bl true) (A.cmp .eql (A.fI .blk 3 x5.1) (A.lit 4))) (A.bd .i64 x5.q.2.2.2.1 (A.fI .blk 5 x5.1)<|
 A.bd .i64 x5.q.2.2.2.1 (A.fI .blk 5 x5.1)<|
 A.l1 .i (A.fI .i64 0 (A.get .i64 x5.q.2.2.2.1 (A.fI .blk 5 x5.1))) fun x6=>
 A.ret _ (x5.2.1,x5.2.2.1,x5.2.2.2.1,x5.q.1,x5.q.2.1,x5.q.2.2.1,x5.o.1,x5.o.2.1,x5.o.2.2.1,x5.o.2.2.2.1,x6.1,x5.o.q.2.1,x5.o.q.2.2.1,()))<|
 A.ret _ (x5.2.1,x5.2.2.1,x5.2.2.2.1,x5.q.1,x5.q.2.1,x5.q.2.2.1,x5.o.1,x5.o.2.1,x5.o.2.2.1,x5.o.2.2.2.1,x5.o.q.1,x5.o.q.2.1,x5.o.q.2.2.1,())) fun x6=>
 A.ret _ (x6.q.2.2.1,x6.q.2.2.2.1,x6.o.1,x6.o.2.1,x6.o.2.2.1,x6.o.2.2.2.1,x6.o.q.1,())) (x.2.1,x2.1,x.1,A.lit 0,A.lit 0,A.lit 0,A.lit 0,A.lit 0,A.lit 0,x0.1,x1.1,())
def Qh (A:Alg) (mP:Pt A gJ) (mQ:Ft A gJ) (fH:Pt A fG) (fJ:Ft A fG) (x:Tup A.ah [.x .blk]):Ot A Ed:=
 A.l1 (.l .bool) (A.lst .bool []) fun x0=>
 A.cl mP mQ (x.1,()) fun x1=>
 A.cond (A.aA x1.1) (A.ret _ (x0.1,()))<|
 A.l1 .i (A.lit 0) fun x2=>
 A.iter [.i,.x .blk,.l .bool] (fun x3=>
 A.cond (A.cmp .lss x3.1 (A.len .iop (A.fL .blk 2 .iop x3.2.1))) (A.bd .iop (A.fL .blk 2 .iop x3.2.1) x3.1<|
 A.l1 (.l .bool) (A.lst .bool [A.mkX .bool (A.cmp .geq (A.fI .iop 0 (A.get .iop (A.fL .blk 2 .iop x3.2.1) x3.1)) (A.lit 4),())]) fun x4=>
 A.chk (A.cmp .leq (A.addN (A.len .bool x3.2.2.1) (A.len .bool x4.1)) (A.lit 1073741824))<|
 A.l1 (.l .bool) (A.app .bool x3.2.2.1 x4.1) fun x5=>
 A.l1 .i (A.arith .add .i64 x3.1 (A.lit 1)) fun x6=>
 A.inl _ (x6.1,x3.2.1,x5.1,()))<|
 A.inr _<|A.bind [.x .blk,.l .bool] (A.cond (A.cmp .neq (A.fI .blk 3 x3.2.1) (A.lit 1)) (A.bd .bool x3.2.2.1 (A.fI .blk 4 x3.2.1)<|
 A.bd .bool x3.2.2.1 (A.fI .blk 4 x3.2.1)<|
 A.l1 .b (A.bl true) fun x4=>
 A.ret _ (x3.2.1,A.set .bool x3.2.2.1 (A.fI .blk 4 x3.2.1) (A.mkX .bool (x4.1,())),()))<|
 A.ret _ (x3.2.1,x3.2.2.1,())) fun x4=>
 A.bind [.x .blk,.l .bool] (A.cond (A.ak (A.cmp .eql (A.fI .blk 3 x4.1) (A.lit 3)) (A.bl true) (A.cmp .eql (A.fI .blk 3 x4.1) (A.lit 4))) (A.bd .bool x4.2.1 (A.fI .blk 5 x4.1)<|
 A.bd .bool x4.2.1 (A.fI .blk 5 x4.1)<|
 A.l1 .b (A.bl true) fun x5=>
 A.ret _ (x4.1,A.set .bool x4.2.1 (A.fI .blk 5 x4.1) (A.mkX .bool (x5.1,())),()))<|
 A.ret _ (x4.1,x4.2.1,())) fun x5=>
 A.l1 .i (A.arith .sub .i64 (A.len .iop (A.fL .blk 2 .iop x5.1)) (A.lit 1)) fun x6=>
 A.iter [.i,.x .blk,.l .bool] (fun x7=>
 A.cond (A.cmp .geq x7.1 (A.lit 0)) (A.kI [.i,.x .blk,.l .bool] (A.bd .iop (A.fL .blk 2 .iop x7.2.1) x7.1<|
 A.l1 (.x .iop) (A.get .iop (A.fL .blk 2 .iop x7.2.1) x7.1) fun x8=>
 A.bd .bool x7.2.2.1 x7.1<|
 A.bd .bool x7.2.2.1 x7.1<|
 A.cond (A.aA (A.fB .bool 0 (A.get .bool x7.2.2.1 x7.1))) (A.inl _ (x7.1,x7.2.1,x7.2.2.1,()))<|
 A.cl fH fJ (A.fI .iop 0 x8.1,A.lit 3,A.lit 5,()) fun x9=>
 A.bind [.i,.x .blk,.l .bool,.x .iop] (A.cond (A.ak (A.ak x9.1 (A.bl true) (A.cmp .eql (A.fI .iop 0 x8.1) (A.lit 7))) (A.bl true) (A.cmp .eql (A.fI .iop 0 x8.1) (A.lit 8))) (A.bd .bool x7.2.2.1 (A.fI .iop 1 x8.1)<|
 A.bd .bool x7.2.2.1 (A.fI .iop 1 x8.1)<|
 A.l1 .b (A.bl true) fun x10=>
 A.ret _ (x7.1,x7.2.1,A.set .bool x7.2.2.1 (A.fI .iop 1 x8.1) (A.mkX .bool (x10.1,())),x8.1,()))<|
 A.ret _ (x7.1,x7.2.1,x7.2.2.1,x8.1,())) fun x10=>
 A.bind [.i,.x .blk,.l .bool] (A.cond (A.ak (A.cmp .eql (A.fI .iop 0 x10.2.2.2.1) (A.lit 3)) (A.bl true) (A.cmp .eql (A.fI .iop 0 x10.2.2.2.1) (A.lit 5))) (A.bd .bool x10.2.2.1 (A.fI .iop 2 x10.2.2.2.1)<|
 A.bd .bool x10.2.2.1 (A.fI .iop 2 x10.2.2.2.1)<|
 A.l1 .b (A.bl true) fun x11=>
 A.ret _ (x10.1,x10.2.1,A.set .bool x10.2.2.1 (A.fI .iop 2 x10.2.2.2.1) (A.mkX .bool (x11.1,())),()))<|
 A.ret _ (x10.1,x10.2.1,x10.2.2.1,())) fun x11=>
 A.inl _ (x11.1,x11.2.1,x11.2.2.1,())) fun x8=>
 A.l1 .i (A.arith .sub .i64 x8.1 (A.lit 1)) fun x9=>
 A.inl _ (x9.1,x8.2.1,x8.2.2.1,()))<|
 A.inr _<|A.ret _ (x7.2.2.1,())) (x6.1,x5.1,x5.2.1,())) (x2.1,x.1,x0.1,())
def Qi (A:Alg) (mP:Pt A gJ) (mQ:Ft A gJ) (aeC:Pt A Ed) (aeD:Ft A Ed) (Qj:Pt A tV) (Qk:Ft A tV) (x:Tup A.ah [.x .blk]):Ot A Ee:=
 A.cl mP mQ (x.1,()) fun x0=>
 A.cond (A.aA x0.1) (A.ret _ (A.lit 0,A.lit 0,A.lit 0,A.lit 0,A.lit 0,A.lit 0,A.bV .iop,()))<|
 A.cl aeC aeD (x.1,()) fun x1=>
 A.cl Qj Qk (x.1,x1.1,()) fun x2=>
 A.ret _ (x2.1,x2.2.1,x2.2.2.1,x2.2.2.2.1,x2.q.1,x2.q.2.1,x2.q.2.2.1,())
def Ql (A:Alg) (x:Tup A.ah [.l .iop,.i]):Ot A Ef:=
 A.l1 .b (A.bl false) fun x0=>
 A.l1 .i (A.arith .add .i64 x.2.1 (A.lit 1)) fun x1=>
 A.iter [.l .iop,.i,.i] (fun x2=>
 A.cond (A.cmp .lss x2.2.2.1 (A.len .iop x2.1)) (A.bd .iop x2.1 x2.2.2.1<|
 A.chk (A.orB (A.aA (A.aA (A.cmp .eql (A.fI .iop 0 (A.get .iop x2.1 x2.2.2.1)) (A.lit 4)))) (A.cmp .leq (A.lit 0) x2.2.2.1))<|
 A.chk (A.orB (A.aA (A.aA (A.cmp .eql (A.fI .iop 0 (A.get .iop x2.1 x2.2.2.1)) (A.lit 4)))) (A.cmp .lss x2.2.2.1 (A.len .iop x2.1)))<|
 A.chk (A.orB (A.aA (A.aA (A.ak (A.cmp .eql (A.fI .iop 0 (A.get .iop x2.1 x2.2.2.1)) (A.lit 4)) (A.bl true) (A.cmp .eql (A.fI .iop 0 (A.get .iop x2.1 x2.2.2.1)) (A.lit 5))))) (A.cmp .leq (A.lit 0) x2.2.2.1))<|
 A.chk (A.orB (A.aA (A.aA (A.ak (A.cmp .eql (A.fI .iop 0 (A.get .iop x2.1 x2.2.2.1)) (A.lit 4)) (A.bl true) (A.cmp .eql (A.fI .iop 0 (A.get .iop x2.1 x2.2.2.1)) (A.lit 5))))) (A.cmp .lss x2.2.2.1 (A.len .iop x2.1)))<|
 A.chk (A.orB (A.aA (A.jQ (A.aA (A.ak (A.cmp .eql (A.fI .iop 0 (A.get .iop x2.1 x2.2.2.1)) (A.lit 4)) (A.bl true) (A.cmp .eql (A.fI .iop 0 (A.get .iop x2.1 x2.2.2.1)) (A.lit 5)))) (A.cmp .eql (A.fI .iop 0 (A.get .iop x2.1 x2.2.2.1)) (A.lit 2)))) (A.cmp .leq (A.lit 0) x2.2.2.1))<|
 A.chk (A.orB (A.aA (A.jQ (A.aA (A.ak (A.cmp .eql (A.fI .iop 0 (A.get .iop x2.1 x2.2.2.1)) (A.lit 4)) (A.bl true) (A.cmp .eql (A.fI .iop 0 (A.get .iop x2.1 x2.2.2.1)) (A.lit 5)))) (A.cmp .eql (A.fI .iop 0 (A.get .iop x2.1 x2.2.2.1)) (A.lit 2)))) (A.cmp .lss x2.2.2.1 (A.len .iop x2.1)))<|
 A.chk (A.orB (A.aA (A.jQ (A.aA (A.ak (A.cmp .eql (A.fI .iop 0 (A.get .iop x2.1 x2.2.2.1)) (A.lit 4)) (A.bl true) (A.cmp .eql (A.fI .iop 0 (A.get .iop x2.1 x2.2.2.1)) (A.lit 5)))) (A.cmp .eql (A.fI .iop 0 (A.get .iop x2.1 x2.2.2.1)) (A.lit 2)))) (A.cmp .leq (A.lit 0) x2.2.1))<|
 A.chk (A.orB (A.aA (A.jQ (A.aA (A.ak (A.cmp .eql (A.fI .iop 0 (A.get .iop x2.1 x2.2.2.1)) (A.lit 4)) (A.bl true) (A.cmp .eql (A.fI .iop 0 (A.get .iop x2.1 x2.2.2.1)) (A.lit 5)))) (A.cmp .eql (A.fI .iop 0 (A.get .iop x2.1 x2.2.2.1)) (A.lit 2)))) (A.cmp .lss x2.2.1 (A.len .iop x2.1)))<|
 A.cond (A.ak (A.ak (A.cmp .eql (A.fI .iop 0 (A.get .iop x2.1 x2.2.2.1)) (A.lit 4)) (A.bl true) (A.cmp .eql (A.fI .iop 0 (A.get .iop x2.1 x2.2.2.1)) (A.lit 5))) (A.bl true) (A.ak (A.cmp .eql (A.fI .iop 0 (A.get .iop x2.1 x2.2.2.1)) (A.lit 2)) (A.cmp .eql (A.fI .iop 3 (A.get .iop x2.1 x2.2.2.1)) (A.fI .iop 3 (A.get .iop x2.1 x2.2.1))) (A.bl false))) (A.l1 .b (A.bl false) fun x3=>
 A.inr _<|A.ret _ (x3.1,()))<|
 A.bd .iop x2.1 x2.2.2.1<|
 A.chk (A.orB (A.aA (A.cmp .eql (A.fI .iop 0 (A.get .iop x2.1 x2.2.2.1)) (A.lit 8))) (A.cmp .leq (A.lit 0) x2.2.2.1))<|
 A.chk (A.orB (A.aA (A.cmp .eql (A.fI .iop 0 (A.get .iop x2.1 x2.2.2.1)) (A.lit 8))) (A.cmp .lss x2.2.2.1 (A.len .iop x2.1)))<|
 A.chk (A.orB (A.aA (A.cmp .eql (A.fI .iop 0 (A.get .iop x2.1 x2.2.2.1)) (A.lit 8))) (A.cmp .leq (A.lit 0) x2.2.1))<|
 A.chk (A.orB (A.aA (A.cmp .eql (A.fI .iop 0 (A.get .iop x2.1 x2.2.2.1)) (A.lit 8))) (A.cmp .lss x2.2.1 (A.len .iop x2.1)))<|
 A.cond (A.ak (A.cmp .eql (A.fI .iop 0 (A.get .iop x2.1 x2.2.2.1)) (A.lit 8)) (A.cmp .eql (A.fI .iop 3 (A.get .iop x2.1 x2.2.2.1)) (A.fI .iop 3 (A.get .iop x2.1 x2.2.1))) (A.bl false)) (A.l1 .b (A.bl true) fun x3=>
 A.inr _<|A.ret _ (x3.1,()))<|
 A.l1 .i (A.arith .add .i64 x2.2.2.1 (A.lit 1)) fun x3=>
 A.inl _ (x2.1,x2.2.1,x3.1,()))<|
 A.inr _<|A.rb (A.bl false)) (x.1,x.2.1,x1.1,())
def Qm (A:Alg) (mP:Pt A gJ) (mQ:Ft A gJ) (Qj:Pt A tV) (Qk:Ft A tV) (aeE:Pt A Ef) (aeF:Ft A Ef) (x:Tup A.ah [.x .blk]):Ot A Eh:=
 A.cl mP mQ (x.1,()) fun x0=>
 A.cond (A.aA x0.1) (A.ret _ (A.lit 0,A.lit 0,A.lit 0,A.lit 0,A.lit 0,A.lit 0,A.bV .iop,()))<|
 A.l1 (.l .bool) (A.lst .bool []) fun x1=>
 A.l1 .i (A.lit 0) fun x2=>
 A.iter [.i,.x .blk,.i,.i,.i,.i,.i,.i,.l .bool] (fun x3=>
 A.cond (A.cmp .lss x3.1 (A.len .iop (A.fL .blk 2 .iop x3.2.1))) (A.bd .iop (A.fL .blk 2 .iop x3.2.1) x3.1<|
 A.cg (A.aA (A.cmp .neq (A.fI .iop 0 (A.get .iop (A.fL .blk 2 .iop x3.2.1) x3.1)) (A.lit 8))) aeE aeF (A.fL .blk 2 .iop x3.2.1,x3.1,()) fun x4=>
 A.l1 (.l .bool) (A.lst .bool [A.mkX .bool (A.ak (A.cmp .neq (A.fI .iop 0 (A.get .iop (A.fL .blk 2 .iop x3.2.1) x3.1)) (A.lit 8)) (A.bl true) (A.aA x4.1),())]) fun x5=>
 A.chk (A.cmp .leq (A.addN (A.len .bool x3.o.1) (A.len .bool x5.1)) (A.lit 1073741824))<|
 A.l1 (.l .bool) (A.app .bool x3.o.1 x5.1) fun x6=>
 A.l1 .i (A.arith .add .i64 x3.1 (A.lit 1)) fun x7=>
 A.inl _ (x7.1,x3.2.1,x3.2.2.1,x3.2.2.2.1,x3.q.1,x3.q.2.1,x3.q.2.2.1,x3.q.2.2.2.1,x6.1,()))<|
 A.inr _<|A.cl Qj Qk (x3.2.1,x3.o.1,()) fun x4=>
 A.ret _ (x4.1,x4.2.1,x4.2.2.1,x4.2.2.2.1,x4.q.1,x4.q.2.1,x4.q.2.2.1,())) (x2.1,x.1,A.lit 0,A.lit 0,A.lit 0,A.lit 0,A.lit 0,A.lit 0,x1.1,())
def Qn (A:Alg) (x:Tup A.ah [.l .iop,.i]):Ot A tX:=
 A.l1 .i (A.lit 0) fun x0=>
 A.l1 .b (A.bl false) fun x1=>
 A.chk (A.orB (A.aA (A.aA (A.ak (A.cmp .lss x.2.1 (A.lit 0)) (A.bl true) (A.cmp .geq x.2.1 (A.len .iop x.1))))) (A.cmp .leq (A.lit 0) x.2.1))<|
 A.chk (A.orB (A.aA (A.aA (A.ak (A.cmp .lss x.2.1 (A.lit 0)) (A.bl true) (A.cmp .geq x.2.1 (A.len .iop x.1))))) (A.cmp .lss x.2.1 (A.len .iop x.1)))<|
 A.cond (A.ak (A.ak (A.cmp .lss x.2.1 (A.lit 0)) (A.bl true) (A.cmp .geq x.2.1 (A.len .iop x.1))) (A.bl true) (A.cmp .neq (A.fI .iop 0 (A.get .iop x.1 x.2.1)) (A.lit 1))) (A.l1 .i (A.lit 0) fun x2=>
 A.l1 .b (A.bl false) fun x3=>
 A.ret _ (x2.1,x3.1,()))<|
 A.bd .iop x.1 x.2.1<|
 A.l1 .i (A.fI .iop 3 (A.get .iop x.1 x.2.1)) fun x2=>
 A.l1 .b (A.bl true) fun x3=>
 A.ret _ (x2.1,x3.1,())
def Qo (A:Alg) (x:Tup A.ah [.i]):Ot A Ei:=
 A.l1 .i (A.lit 0) fun x0=>
 A.chk (A.cmp .neq (A.lit 65536) (A.lit 0))<|
 A.l1 .i (A.arith .rem .i64 x.1 (A.lit 65536)) fun x1=>
 A.bind [.i] (A.cond (A.cmp .lss x1.1 (A.lit 0)) (A.l1 .i (A.arith .add .i64 x1.1 (A.lit 65536)) fun x2=>
 A.ret _ (x2.1,()))<|
 A.ret _ (x1.1,())) fun x2=>
 A.l1 .i x2.1 fun x3=>
 A.ret _ (x3.1,())
def Qp (A:Alg) (Qq:Pt A Ei) (Qr:Ft A Ei) (xX:Pt A mI) (xY:Ft A mI) (x:Tup A.ah [.i,.i,.i]):Ot A Ej:=
 A.l1 .i (A.lit 0) fun x0=>
 A.cl xX xY (x.2.1,()) fun x1=>
 A.cg (A.aA (A.aA x1.1)) xX xY (x.2.2.1,()) fun x2=>
 A.cond (A.ak (A.aA x1.1) (A.bl true) (A.aA x2.1)) (A.l1 .i (A.lit 0) fun x3=>
 A.ret _ (x3.1,()))<|
 A.l1 .b (A.cmp .eql x.1 (A.lit 1)) fun x3=>
 A.cond x3.1 (A.cl Qq Qr (A.arith .add .i64 x.2.1 x.2.2.1,()) fun x4=>
 A.l1 .i x4.1 fun x5=>
 A.ret _ (x5.1,()))<|
 A.l1 .b (A.cmp .eql x.1 (A.lit 2)) fun x4=>
 A.cond x4.1 (A.cl Qq Qr (A.arith .sub .i64 x.2.1 x.2.2.1,()) fun x5=>
 A.l1 .i x5.1 fun x6=>
 A.ret _ (x6.1,()))<|
 A.l1 .b (A.cmp .eql x.1 (A.lit 3)) fun x5=>
 A.cond x5.1 (A.cl Qq Qr (A.arith .mul .i64 x.2.1 x.2.2.1,()) fun x6=>
 A.l1 .i x6.1 fun x7=>
 A.ret _ (x7.1,()))<|
 A.l1 .b (A.cmp .eql x.1 (A.lit 4)) fun x6=>
 A.cond x6.1 (A.l1 .i (A.arith .and .i64 x.2.1 x.2.2.1) fun x7=>
 A.ret _ (x7.1,()))<|
 A.l1 .b (A.cmp .eql x.1 (A.lit 5)) fun x7=>
 A.cond x7.1 (A.l1 .i (A.arith .xor .i64 x.2.1 x.2.2.1) fun x8=>
 A.ret _ (x8.1,()))<|
 A.l1 .i (A.lit 0) fun x8=>
 A.ret _ (x8.1,())
def Qs (A:Alg) (x:Tup A.ah [.x .blk,.i]):Ot A El:=
 A.l1 .i (A.lit 1) fun x0=>
 A.l1 .i (A.lit 0) fun x1=>
 A.l1 .i (A.lit 0) fun x2=>
 A.l1 .i x.2.1 fun x3=>
 A.ret _ (A.fI .blk 0 x.1,A.fI .blk 1 x.1,A.fL .blk 2 .iop x.1,x0.1,x1.1,x2.1,x3.1,())
def Qt (A:Alg) (Qu:Pt A El) (Qv:Ft A El) (FH:Pt A tX) (FJ:Ft A tX) (x:Tup A.ah [.x .blk]):Ot A Em:=
 A.cl FH FJ (A.fL .blk 2 .iop x.1,A.fI .blk 4 x.1,()) fun x0=>
 A.l1 .i x0.1 fun x1=>
 A.l1 .b x0.2.1 fun x2=>
 A.cl FH FJ (A.fL .blk 2 .iop x.1,A.fI .blk 5 x.1,()) fun x3=>
 A.l1 .i x3.1 fun x4=>
 A.l1 .b x3.2.1 fun x5=>
 A.l1 .b (A.ak (A.cmp .eql (A.fI .blk 3 x.1) (A.lit 2)) x2.1 (A.bl false)) fun x6=>
 A.cond x6.1 (A.cl Qu Qv (x.1,x1.1,()) fun x7=>
 A.ret _ (A.mkX .blk (x7.1,x7.2.1,x7.2.2.1,x7.2.2.2.1,x7.q.1,x7.q.2.1,x7.q.2.2.1,()),()))<|
 A.l1 .b (A.ak (A.ak (A.ak (A.cmp .eql (A.fI .blk 3 x.1) (A.lit 3)) x2.1 (A.bl false)) x5.1 (A.bl false)) (A.cmp .eql x1.1 x4.1) (A.bl false)) fun x7=>
 A.bind [.b,.b,.b,.x .blk,.i,.i,.i,.i,.i,.i] (A.cond x7.1 (A.ret _ (x2.1,x5.1,x7.1,x.1,A.lit 0,A.lit 0,A.lit 0,A.lit 0,A.lit 0,A.lit 0,()))<|
 A.l1 .b (A.ak (A.ak (A.ak (A.cmp .eql (A.fI .blk 3 x.1) (A.lit 4)) x2.1 (A.bl false)) x5.1 (A.bl false)) (A.cmp .lss x1.1 x4.1) (A.bl false)) fun x8=>
 A.ret _ (x2.1,x5.1,x8.1,x.1,A.lit 0,A.lit 0,A.lit 0,A.lit 0,A.lit 0,A.lit 0,())) fun x8=>
 A.cond x8.2.2.1 (A.cl Qu Qv (x8.2.2.2.1,A.fI .blk 6 x8.2.2.2.1,()) fun x9=>
 A.ret _ (A.mkX .blk (x9.1,x9.2.1,x9.2.2.1,x9.2.2.2.1,x9.q.1,x9.q.2.1,x9.q.2.2.1,()),()))<|
 A.l1 .b (A.ak (A.ak (A.ak (A.cmp .eql (A.fI .blk 3 x8.2.2.2.1) (A.lit 3)) (A.bl true) (A.cmp .eql (A.fI .blk 3 x8.2.2.2.1) (A.lit 4))) x8.1 (A.bl false)) x8.2.1 (A.bl false)) fun x9=>
 A.cond x9.1 (A.cl Qu Qv (x8.2.2.2.1,A.arith .add .i64 (A.fI .blk 0 x8.2.2.2.1) (A.fI .blk 1 x8.2.2.2.1),()) fun x10=>
 A.ret _ (A.mkX .blk (x10.1,x10.2.1,x10.2.2.1,x10.2.2.2.1,x10.q.1,x10.q.2.1,x10.q.2.2.1,()),()))<|
 A.l1 (.x .blk) x8.2.2.2.1 fun x10=>
 A.ret _ (x10.1,())
def Qw (A:Alg) (mP:Pt A gJ) (mQ:Ft A gJ) (aeG:Pt A Ej) (aeH:Ft A Ej) (aeI:Pt A Em) (aeJ:Ft A Em) (FH:Pt A tX) (FJ:Ft A tX) (xZ:Pt A jJ) (yc:Ft A jJ) (x:Tup A.ah [.x .blk]):Ot A En:=
 A.cl mP mQ (x.1,()) fun x0=>
 A.cond (A.aA x0.1) (A.ret _ (A.mkX .blk (A.lit 0,A.lit 0,A.bV .iop,A.lit 0,A.lit 0,A.lit 0,A.lit 0,()),()))<|
 A.cl xZ yc (x.1,()) fun x1=>
 A.l1 .i (A.lit 0) fun x2=>
 A.iter [.i,.i,.i,.i,.i,.i,.i,.i,.i,.i,.i,.i,.i,.l .iop] (fun x3=>
 A.cond (A.cmp .lss x3.1 (A.len .iop x3.o.q.2.1)) (A.bd .iop x3.o.q.2.1 x3.1<|
 A.bd .iop x3.o.q.2.1 x3.1<|
 A.l1 (.x .iop) (A.get .iop x3.o.q.2.1 x3.1) fun x4=>
 A.cl FH FJ (x3.o.q.2.1,A.fI .iop 1 x4.1,()) fun x5=>
 A.l1 .i x5.1 fun x6=>
 A.l1 .b x5.2.1 fun x7=>
 A.cl FH FJ (x3.o.q.2.1,A.fI .iop 2 x4.1,()) fun x8=>
 A.l1 .i x8.1 fun x9=>
 A.l1 .b x8.2.1 fun x10=>
 A.bind [.i,.i,.i,.i,.i,.i,.i,.i,.i,.i,.i,.i,.i,.l .iop] (A.cond (A.ak (A.ak (A.cmp .eql (A.fI .iop 0 x4.1) (A.lit 3)) x7.1 (A.bl false)) x10.1 (A.bl false)) (A.cl aeG aeH (A.fI .iop 3 x4.1,x6.1,x9.1,()) fun x11=>
 A.bd .iop x3.o.q.2.1 x3.1<|
 A.bd .iop x3.o.q.2.1 x3.1<|
 A.ret _ (x3.1,x3.2.1,x3.2.2.1,x3.2.2.2.1,x3.q.1,x3.q.2.1,x3.q.2.2.1,x3.q.2.2.2.1,x3.o.1,x3.o.2.1,x3.o.2.2.1,x3.o.2.2.2.1,x3.o.q.1,A.set .iop x3.o.q.2.1 x3.1 (A.mkX .iop (A.lit 1,A.lit 0,A.lit 0,x11.1,A.lit 0,())),()))<|
 A.ret _ (x3.1,x3.2.1,x3.2.2.1,x3.2.2.2.1,x3.q.1,x3.q.2.1,x3.q.2.2.1,x3.q.2.2.2.1,x3.o.1,x3.o.2.1,x3.o.2.2.1,x3.o.2.2.2.1,x3.o.q.1,x3.o.q.2.1,())) fun x11=>
 A.l1 .i (A.arith .add .i64 x11.1 (A.lit 1)) fun x12=>
 A.inl _ (x12.1,x11.2.1,x11.2.2.1,x11.2.2.2.1,x11.q.1,x11.q.2.1,x11.q.2.2.1,x11.q.2.2.2.1,x11.o.1,x11.o.2.1,x11.o.2.2.1,x11.o.2.2.2.1,x11.o.q.1,x11.o.q.2.1,()))<|
 A.inr _<|A.cl aeI aeJ (A.mkX .blk (x3.q.2.2.2.1,x3.o.1,x3.o.q.2.1,x3.o.2.1,x3.o.2.2.1,x3.o.2.2.2.1,x3.o.q.1,()),()) fun x4=>
 A.l1 (.x .blk) x4.1 fun x5=>
 A.ret _ (x5.1,())) (x2.1,A.lit 0,A.lit 0,A.lit 0,A.lit 0,A.lit 0,A.lit 0,x1.1,x1.2.1,x1.2.2.1,x1.2.2.2.1,x1.q.1,x1.q.2.1,x1.q.2.2.1,())
def Qx (A:Alg) (aeK:Pt A En) (aeL:Ft A En) (FK:Pt A mJ) (FL:Ft A mJ) (XF:Pt A Ee) (XG:Ft A Ee) (aeM:Pt A Eh) (aeN:Ft A Eh) (x:Tup A.ah [.x .blk]):Ot A mK:=
 A.cl FK FL (x.1,()) fun x0=>
 A.cl aeK aeL (A.mkX .blk (x0.1,x0.2.1,x0.q.2.2.1,x0.2.2.1,x0.2.2.2.1,x0.q.1,x0.q.2.1,()),()) fun x1=>
 A.cl XF XG (x1.1,()) fun x2=>
 A.cl aeM aeN (A.mkX .blk (x2.1,x2.2.1,x2.q.2.2.1,x2.2.2.1,x2.2.2.2.1,x2.q.1,x2.q.2.1,()),()) fun x3=>
 A.cl XF XG (A.mkX .blk (x3.1,x3.2.1,x3.q.2.2.1,x3.2.2.1,x3.2.2.2.1,x3.q.1,x3.q.2.1,()),()) fun x4=>
 A.ret _ (x4.1,x4.2.1,x4.2.2.1,x4.2.2.2.1,x4.q.1,x4.q.2.1,x4.q.2.2.1,())
def Qy (A:Alg) (aO:Pt A bO) (aP:Ft A bO) (x:Tup A.ah [.l .u8,.i]):Ot A Eo:=
 A.cl aO aP (A.lit 4,x.1,x.2.1,()) fun x0=>
 A.l1 .i x0.1 fun x1=>
 A.cl aO aP (A.lit 4,x0.2.1,x0.2.2.1,()) fun x2=>
 A.l1 .i x2.1 fun x3=>
 A.cl aO aP (A.lit 14,x2.2.1,x2.2.2.1,()) fun x4=>
 A.l1 .b (A.cmp .eql x4.1 (A.lit 0)) fun x5=>
 A.bind [.i,.i,.i,.b,.l .u8,.i,.i,.i,.i,.i] (A.cond x5.1 (A.ret _ (x1.1,x3.1,x4.1,x5.1,x4.2.1,x4.2.2.1,A.lit 0,A.lit 0,A.lit 0,A.lit 0,()))<|
 A.l1 .b (A.cmp .eql x4.1 (A.lit 1)) fun x6=>
 A.ret _ (x1.1,x3.1,x4.1,x6.1,x4.2.1,x4.2.2.1,A.lit 0,A.lit 0,A.lit 0,A.lit 0,())) fun x6=>
 A.cond x6.2.2.2.1 (A.cl aO aP (A.lit 64,x6.q.1,x6.q.2.1,()) fun x7=>
 A.cl aO aP (A.lit 256,x7.2.1,x7.2.2.1,()) fun x8=>
 A.l1 (.l .i64) (A.lst .i64 [A.mkX .i64 (A.lit 0,()),A.mkX .i64 (A.lit 1,()),A.mkX .i64 (A.lit 2,()),A.mkX .i64 (x7.1,()),A.mkX .i64 (x8.1,()),A.mkX .i64 (A.lit 255,())]) fun x9=>
 A.cl aO aP (A.lit 6,x8.2.1,x8.2.2.1,()) fun x10=>
 A.bd .i64 x9.1 x10.1<|
 A.bd .i64 x9.1 x10.1<|
 A.ret _ (A.lit 1,x6.1,A.lit 0,A.fI .i64 0 (A.get .i64 x9.1 x10.1),x10.2.1,x10.2.2.1,()))<|
 A.l1 .b (A.cmp .eql x6.2.2.1 (A.lit 2)) fun x7=>
 A.cond x7.1 (A.ret _ (A.lit 2,x6.1,x6.2.1,A.lit 0,x6.q.1,x6.q.2.1,()))<|
 A.l1 .b (A.cmp .eql x6.2.2.1 (A.lit 3)) fun x8=>
 A.bind [.i,.i,.i,.b,.l .u8,.i,.i,.i,.i,.i] (A.cond x8.1 (A.ret _ (x6.1,x6.2.1,x6.2.2.1,x8.1,x6.q.1,x6.q.2.1,x6.q.2.2.1,x6.q.2.2.2.1,x6.o.1,x6.o.2.1,()))<|
 A.l1 .b (A.cmp .eql x6.2.2.1 (A.lit 4)) fun x9=>
 A.bind [.i,.i,.i,.b,.l .u8,.i,.i,.i,.i,.i] (A.cond x9.1 (A.ret _ (x6.1,x6.2.1,x6.2.2.1,x9.1,x6.q.1,x6.q.2.1,x6.q.2.2.1,x6.q.2.2.2.1,x6.o.1,x6.o.2.1,()))<|
 A.l1 .b (A.cmp .eql x6.2.2.1 (A.lit 5)) fun x10=>
 A.ret _ (x6.1,x6.2.1,x6.2.2.1,x10.1,x6.q.1,x6.q.2.1,x6.q.2.2.1,x6.q.2.2.2.1,x6.o.1,x6.o.2.1,())) fun x10=>
 A.ret _ (x10.1,x10.2.1,x10.2.2.1,x10.2.2.2.1,x10.q.1,x10.q.2.1,x10.q.2.2.1,x10.q.2.2.2.1,x10.o.1,x10.o.2.1,())) fun x9=>
 A.cond x9.2.2.2.1 (A.cl aO aP (A.lit 5,x9.q.1,x9.q.2.1,()) fun x10=>
 A.cl aO aP (A.lit 4,x10.2.1,x10.2.2.1,()) fun x11=>
 A.ret _ (A.arith .add .i64 (A.lit 3) x10.1,x9.1,x9.2.1,x11.1,x11.2.1,x11.2.2.1,()))<|
 A.l1 .b (A.cmp .eql x9.2.2.1 (A.lit 6)) fun x10=>
 A.cond x10.1 (A.cl aO aP (A.lit 16,x9.q.1,x9.q.2.1,()) fun x11=>
 A.l1 (.l .i64) (A.lst .i64 [A.mkX .i64 (A.lit 0,()),A.mkX .i64 (A.lit 1,()),A.mkX .i64 (A.lit 8,()),A.mkX .i64 (A.lit 15,()),A.mkX .i64 (x11.1,())]) fun x12=>
 A.cl aO aP (A.lit 5,x11.2.1,x11.2.2.1,()) fun x13=>
 A.bd .i64 x12.1 x13.1<|
 A.bd .i64 x12.1 x13.1<|
 A.ret _ (A.lit 8,x9.1,x9.2.1,A.fI .i64 0 (A.get .i64 x12.1 x13.1),x13.2.1,x13.2.2.1,()))<|
 A.l1 .b (A.cmp .eql x9.2.2.1 (A.lit 7)) fun x11=>
 A.bind [.i,.i,.i,.b,.l .u8,.i,.i,.i,.i,.i] (A.cond x11.1 (A.ret _ (x9.1,x9.2.1,x9.2.2.1,x11.1,x9.q.1,x9.q.2.1,x9.q.2.2.1,x9.q.2.2.2.1,x9.o.1,x9.o.2.1,()))<|
 A.l1 .b (A.cmp .eql x9.2.2.1 (A.lit 8)) fun x12=>
 A.ret _ (x9.1,x9.2.1,x9.2.2.1,x12.1,x9.q.1,x9.q.2.1,x9.q.2.2.1,x9.q.2.2.2.1,x9.o.1,x9.o.2.1,())) fun x12=>
 A.cond x12.2.2.2.1 (A.cl aO aP (A.lit 2,x12.q.1,x12.q.2.1,()) fun x13=>
 A.cl aO aP (A.lit 64,x13.2.1,x13.2.2.1,()) fun x14=>
 A.l1 (.l .i64) (A.lst .i64 [A.mkX .i64 (A.lit 0,()),A.mkX .i64 (A.lit 1,()),A.mkX .i64 (x14.1,()),A.mkX .i64 (A.lit 63,()),A.mkX .i64 (A.lit 64,()),A.mkX .i64 (A.lit 255,())]) fun x15=>
 A.cl aO aP (A.lit 6,x14.2.1,x14.2.2.1,()) fun x16=>
 A.bd .i64 x15.1 x16.1<|
 A.bd .i64 x15.1 x16.1<|
 A.ret _ (A.arith .add .i64 (A.lit 9) x13.1,x12.1,x12.2.1,A.fI .i64 0 (A.get .i64 x15.1 x16.1),x16.2.1,x16.2.2.1,()))<|
 A.l1 .b (A.cmp .eql x12.2.2.1 (A.lit 9)) fun x13=>
 A.cond x13.1 (A.cl aO aP (A.lit 2,x12.q.1,x12.q.2.1,()) fun x14=>
 A.cl aO aP (A.lit 20,x14.2.1,x14.2.2.1,()) fun x15=>
 A.cl aO aP (A.lit 64,x15.2.1,x15.2.2.1,()) fun x16=>
 A.l1 (.l .i64) (A.lst .i64 [A.mkX .i64 (x15.1,()),A.mkX .i64 (x16.1,()),A.mkX .i64 (A.lit 200,())]) fun x17=>
 A.cl aO aP (A.lit 3,x16.2.1,x16.2.2.1,()) fun x18=>
 A.bd .i64 x17.1 x18.1<|
 A.bd .i64 x17.1 x18.1<|
 A.ret _ (A.arith .add .i64 (A.lit 11) x14.1,x12.1,x12.2.1,A.fI .i64 0 (A.get .i64 x17.1 x18.1),x18.2.1,x18.2.2.1,()))<|
 A.l1 .b (A.cmp .eql x12.2.2.1 (A.lit 10)) fun x14=>
 A.cond x14.1 (A.cl aO aP (A.lit 2,x12.q.1,x12.q.2.1,()) fun x15=>
 A.ret _ (A.arith .add .i64 (A.lit 14) x15.1,x12.1,A.lit 0,A.lit 0,x15.2.1,x15.2.2.1,()))<|
 A.l1 .b (A.cmp .eql x12.2.2.1 (A.lit 11)) fun x15=>
 A.cond x15.1 (A.cl aO aP (A.lit 4,x12.q.1,x12.q.2.1,()) fun x16=>
 A.ret _ (A.lit 0,A.lit 0,A.lit 0,x16.1,x16.2.1,x16.2.2.1,()))<|
 A.l1 .b (A.cmp .eql x12.2.2.1 (A.lit 12)) fun x16=>
 A.cond x16.1 (A.ret _ (A.lit 13,A.lit 0,x12.2.1,A.lit 0,x12.q.1,x12.q.2.1,()))<|
 A.ret _ (A.lit 14,x12.1,A.lit 0,A.lit 0,x12.q.1,x12.q.2.1,())
def Qz (A:Alg) (x:Tup A.ah [.x .ins]):Ot A Ep:=
 A.l1 .b (A.bl false) fun x0=>
 A.l1 .b (A.cmp .eql (A.fI .ins 0 x.1) (A.lit 0)) fun x1=>
 A.cond x1.1 (A.rb (A.ak (A.ak (A.cmp .eql (A.fI .ins 1 x.1) (A.lit 0)) (A.cmp .eql (A.fI .ins 2 x.1) (A.lit 0)) (A.bl false)) (A.cmp .leq (A.fI .ins 3 x.1) (A.lit 3)) (A.bl false)))<|
 A.l1 .b (A.cmp .eql (A.fI .ins 0 x.1) (A.lit 1)) fun x2=>
 A.cond x2.1 (A.rb (A.cmp .eql (A.fI .ins 2 x.1) (A.lit 0)))<|
 A.l1 .b (A.cmp .eql (A.fI .ins 0 x.1) (A.lit 2)) fun x3=>
 A.cond x3.1 (A.rb (A.cmp .eql (A.fI .ins 3 x.1) (A.lit 0)))<|
 A.l1 .b (A.cmp .eql (A.fI .ins 0 x.1) (A.lit 3)) fun x4=>
 A.bind [.i,.b,.x .ins] (A.cond x4.1 (A.ret _ (A.fI .ins 0 x.1,x4.1,x.1,()))<|
 A.l1 .b (A.cmp .eql (A.fI .ins 0 x.1) (A.lit 4)) fun x5=>
 A.bind [.i,.b,.x .ins] (A.cond x5.1 (A.ret _ (A.fI .ins 0 x.1,x5.1,x.1,()))<|
 A.l1 .b (A.cmp .eql (A.fI .ins 0 x.1) (A.lit 5)) fun x6=>
 A.bind [.i,.b,.x .ins] (A.cond x6.1 (A.ret _ (A.fI .ins 0 x.1,x6.1,x.1,()))<|
 A.l1 .b (A.cmp .eql (A.fI .ins 0 x.1) (A.lit 6)) fun x7=>
 A.bind [.i,.b,.x .ins] (A.cond x7.1 (A.ret _ (A.fI .ins 0 x.1,x7.1,x.1,()))<|
 A.l1 .b (A.cmp .eql (A.fI .ins 0 x.1) (A.lit 7)) fun x8=>
 A.ret _ (A.fI .ins 0 x.1,x8.1,x.1,())) fun x8=>
 A.ret _ (x8.1,x8.2.1,x8.2.2.1,())) fun x7=>
 A.ret _ (x7.1,x7.2.1,x7.2.2.1,())) fun x6=>
 A.ret _ (x6.1,x6.2.1,x6.2.2.1,())) fun x5=>
 A.cond x5.2.1 (A.rb (A.cmp .lss (A.fI .ins 3 x5.2.2.1) (A.lit 4)))<|
 A.l1 .b (A.cmp .eql x5.1 (A.lit 8)) fun x6=>
 A.cond x6.1 (A.rb (A.cmp .lss (A.fI .ins 3 x5.2.2.1) (A.lit 16)))<|
 A.l1 .b (A.cmp .eql x5.1 (A.lit 13)) fun x7=>
 A.cond x7.1 (A.rb (A.ak (A.cmp .eql (A.fI .ins 1 x5.2.2.1) (A.lit 0)) (A.cmp .eql (A.fI .ins 3 x5.2.2.1) (A.lit 0)) (A.bl false)))<|
 A.l1 .b (A.cmp .eql x5.1 (A.lit 14)) fun x8=>
 A.bind [.b,.x .ins] (A.cond x8.1 (A.ret _ (x8.1,x5.2.2.1,()))<|
 A.l1 .b (A.cmp .eql x5.1 (A.lit 15)) fun x9=>
 A.ret _ (x9.1,x5.2.2.1,())) fun x9=>
 A.cond x9.1 (A.rb (A.ak (A.cmp .eql (A.fI .ins 2 x9.2.1) (A.lit 0)) (A.cmp .eql (A.fI .ins 3 x9.2.1) (A.lit 0)) (A.bl false)))<|
 A.rb (A.bl true)
def QA (A:Alg) (fH:Pt A fG) (fJ:Ft A fG) (aeO:Pt A Ep) (aeP:Ft A Ep) (x:Tup A.ah [.x .ins]):Ot A tY:=
 A.l1 .b (A.bl false) fun x0=>
 A.cl fH fJ (A.fI .ins 0 x.1,A.lit 0,A.lit 15,()) fun x1=>
 A.cg x1.1 fH fJ (A.fI .ins 1 x.1,A.lit 0,A.lit 3,()) fun x2=>
 A.cg (A.ak x1.1 x2.1 (A.bl false)) fH fJ (A.fI .ins 2 x.1,A.lit 0,A.lit 3,()) fun x3=>
 A.cg (A.ak (A.ak x1.1 x2.1 (A.bl false)) x3.1 (A.bl false)) fH fJ (A.fI .ins 3 x.1,A.lit 0,A.lit 255,()) fun x4=>
 A.cg (A.ak (A.ak (A.ak x1.1 x2.1 (A.bl false)) x3.1 (A.bl false)) x4.1 (A.bl false)) aeO aeP (x.1,()) fun x5=>
 A.rb (A.ak (A.ak (A.ak (A.ak x1.1 x2.1 (A.bl false)) x3.1 (A.bl false)) x4.1 (A.bl false)) x5.1 (A.bl false))
def QB (A:Alg) (x:Tup A.ah [.i]):Ot A tZ:=
 A.l1 .b (A.bl false) fun x0=>
 A.rb (A.ak (A.ak (A.cmp .eql x.1 (A.lit 11)) (A.bl true) (A.cmp .eql x.1 (A.lit 12))) (A.bl true) (A.cmp .eql x.1 (A.lit 13)))
def QC (A:Alg) (QD:Pt A tZ) (QE:Ft A tZ) (QF:Pt A tY) (QG:Ft A tY) (x:Tup A.ah [.x .ins]):Ot A uf:=
 A.l1 .b (A.bl false) fun x0=>
 A.cl QF QG (x.1,()) fun x1=>
 A.cg (A.ak x1.1 (A.cmp .neq (A.fI .ins 0 x.1) (A.lit 0)) (A.bl false)) QD QE (A.fI .ins 0 x.1,()) fun x2=>
 A.rb (A.ak (A.ak x1.1 (A.cmp .neq (A.fI .ins 0 x.1) (A.lit 0)) (A.bl false)) (A.aA x2.1) (A.bl false))
def QH (A:Alg) (aeQ:Pt A Eo) (aeR:Ft A Eo) (aO:Pt A bO) (aP:Ft A bO) (QI:Pt A uf) (QJ:Ft A uf) (x:Tup A.ah [.l .u8,.i]):Ot A Er:=
 A.cl aeQ aeR (x.1,x.2.1,()) fun x0=>
 A.cl QI QJ (A.mkX .ins (x0.1,x0.2.1,x0.2.2.1,x0.2.2.2.1,()),()) fun x1=>
 A.cond (A.aA x1.1) (A.cl aO aP (A.lit 4,x0.q.1,x0.q.2.1,()) fun x2=>
 A.ret _ (A.lit 3,x0.2.1,x0.2.2.1,x2.1,x2.2.1,x2.2.2.1,()))<|
 A.ret _ (x0.1,x0.2.1,x0.2.2.1,x0.2.2.2.1,x0.q.1,x0.q.2.1,())
def QK (A:Alg) (XH:Pt A Er) (XI:Ft A Er) (aO:Pt A bO) (aP:Ft A bO) (x:Tup A.ah [.l .u8,.i]):Ot A Es:=
 A.l1 (.l .ins) (A.lst .ins []) fun x0=>
 A.cl aO aP (A.lit 8,x.1,x.2.1,()) fun x1=>
 A.l1 .i x1.1 fun x2=>
 A.iter [.i,.l .u8,.i,.l .ins] (fun x3=>
 A.cond (A.cmp .gtr x3.1 (A.lit 0)) (A.cl XH XI (x3.2.1,x3.2.2.1,()) fun x4=>
 A.l1 (.l .ins) (A.lst .ins [A.mkX .ins (x4.1,x4.2.1,x4.2.2.1,x4.2.2.2.1,())]) fun x5=>
 A.chk (A.cmp .leq (A.addN (A.len .ins x3.2.2.2.1) (A.len .ins x5.1)) (A.lit 1073741824))<|
 A.l1 (.l .ins) (A.app .ins x3.2.2.2.1 x5.1) fun x6=>
 A.l1 .i (A.arith .sub .i64 x3.1 (A.lit 1)) fun x7=>
 A.inl _ (x7.1,x4.q.1,x4.q.2.1,x6.1,()))<|
 A.inr _<|A.cl aO aP (A.lit 3,x3.2.1,x3.2.2.1,()) fun x4=>
 A.l1 .b (A.cmp .eql x4.1 (A.lit 0)) fun x5=>
 A.cond x5.1 (A.cl aO aP (A.lit 2,x4.2.1,x4.2.2.1,()) fun x6=>
 A.cl aO aP (A.lit 4,x6.2.1,x6.2.2.1,()) fun x7=>
 A.cl aO aP (A.lit 4,x7.2.1,x7.2.2.1,()) fun x8=>
 A.cl aO aP (A.lit 64,x8.2.1,x8.2.2.1,()) fun x9=>
 A.l1 (.l .ins) (A.lst .ins [A.mkX .ins (A.arith .add .i64 (A.lit 11) x6.1,x7.1,x8.1,x9.1,())]) fun x10=>
 A.chk (A.cmp .leq (A.addN (A.len .ins x3.2.2.2.1) (A.len .ins x10.1)) (A.lit 1073741824))<|
 A.l1 (.l .ins) (A.app .ins x3.2.2.2.1 x10.1) fun x11=>
 A.ret _ (x9.2.1,x9.2.2.1,x11.1,()))<|
 A.l1 .b (A.cmp .eql x4.1 (A.lit 1)) fun x6=>
 A.cond x6.1 (A.cl aO aP (A.lit 4,x4.2.1,x4.2.2.1,()) fun x7=>
 A.l1 (.l .ins) (A.lst .ins [A.mkX .ins (A.lit 13,A.lit 0,x7.1,A.lit 0,())]) fun x8=>
 A.chk (A.cmp .leq (A.addN (A.len .ins x3.2.2.2.1) (A.len .ins x8.1)) (A.lit 1073741824))<|
 A.l1 (.l .ins) (A.app .ins x3.2.2.2.1 x8.1) fun x9=>
 A.ret _ (x7.2.1,x7.2.2.1,x9.1,()))<|
 A.cl XH XI (x4.2.1,x4.2.2.1,()) fun x7=>
 A.l1 (.l .ins) (A.lst .ins [A.mkX .ins (x7.1,x7.2.1,x7.2.2.1,x7.2.2.2.1,())]) fun x8=>
 A.chk (A.cmp .leq (A.addN (A.len .ins x3.2.2.2.1) (A.len .ins x8.1)) (A.lit 1073741824))<|
 A.l1 (.l .ins) (A.app .ins x3.2.2.2.1 x8.1) fun x9=>
 A.ret _ (x7.q.1,x7.q.2.1,x9.1,())) (x2.1,x1.2.1,x1.2.2.1,x0.1,())
def QL (A:Alg) (QD:Pt A tZ) (QE:Ft A tZ) (QF:Pt A tY) (QG:Ft A tY) (fH:Pt A fG) (fJ:Ft A fG) (QI:Pt A uf) (QJ:Ft A uf) (x:Tup A.ah [.i,.l .ins]):Ot A Eu:=
 A.l1 .b (A.bl false) fun x0=>
 A.cl fH fJ (A.len .ins x.2.1,A.lit 1,A.lit 8,()) fun x1=>
 A.cg (A.aA (A.aA x1.1)) fH fJ (x.1,A.lit 0,A.arith .sub .i64 (A.lit 64) (A.len .ins x.2.1),()) fun x2=>
 A.cond (A.ak (A.aA x1.1) (A.bl true) (A.aA x2.1)) (A.rb (A.bl false))<|
 A.l1 .i (A.lit 0) fun x3=>
 A.iter [.l .ins,.i] (fun x4=>
 A.cond (A.cmp .lss x4.2.1 (A.len .ins x4.1)) (A.bd .ins x4.1 x4.2.1<|
 A.cl QI QJ (A.get .ins x4.1 x4.2.1,()) fun x5=>
 A.chk (A.orB (A.aA (A.jQ (A.aA x5.1) (A.aA (A.cmp .lss x4.2.1 (A.arith .sub .i64 (A.len .ins x4.1) (A.lit 1)))))) (A.cmp .leq (A.lit 0) x4.2.1))<|
 A.chk (A.orB (A.aA (A.jQ (A.aA x5.1) (A.aA (A.cmp .lss x4.2.1 (A.arith .sub .i64 (A.len .ins x4.1) (A.lit 1)))))) (A.cmp .lss x4.2.1 (A.len .ins x4.1)))<|
 A.cg (A.jQ (A.aA x5.1) (A.aA (A.cmp .lss x4.2.1 (A.arith .sub .i64 (A.len .ins x4.1) (A.lit 1))))) QF QG (A.get .ins x4.1 x4.2.1,()) fun x6=>
 A.chk (A.orB (A.aA (A.jQ (A.aA x5.1) (A.aA (A.ak (A.cmp .lss x4.2.1 (A.arith .sub .i64 (A.len .ins x4.1) (A.lit 1))) (A.bl true) (A.aA x6.1))))) (A.cmp .leq (A.lit 0) x4.2.1))<|
 A.chk (A.orB (A.aA (A.jQ (A.aA x5.1) (A.aA (A.ak (A.cmp .lss x4.2.1 (A.arith .sub .i64 (A.len .ins x4.1) (A.lit 1))) (A.bl true) (A.aA x6.1))))) (A.cmp .lss x4.2.1 (A.len .ins x4.1)))<|
 A.cg (A.jQ (A.aA x5.1) (A.aA (A.ak (A.cmp .lss x4.2.1 (A.arith .sub .i64 (A.len .ins x4.1) (A.lit 1))) (A.bl true) (A.aA x6.1)))) QD QE (A.fI .ins 0 (A.get .ins x4.1 x4.2.1),()) fun x7=>
 A.cond (A.ak (A.aA x5.1) (A.ak (A.ak (A.cmp .lss x4.2.1 (A.arith .sub .i64 (A.len .ins x4.1) (A.lit 1))) (A.bl true) (A.aA x6.1)) (A.bl true) (A.aA x7.1)) (A.bl false)) (A.l1 .b (A.bl false) fun x8=>
 A.inr _<|A.ret _ (x8.1,()))<|
 A.l1 .i (A.arith .add .i64 x4.2.1 (A.lit 1)) fun x8=>
 A.inl _ (x4.1,x8.1,()))<|
 A.inr _<|A.rb (A.bl true)) (x.2.1,x3.1,())
def QM (A:Alg) (x:Tup A.ah [.i,.i,.i,.i,.i,.i,.x .iop,.l .iop]):Ot A iF:=
 A.l1 .i (A.lit 0) fun x0=>
 A.l1 (.l .iop) (A.lst .iop [x.q.2.2.1]) fun x1=>
 A.chk (A.cmp .leq (A.addN (A.len .iop x.q.2.2.2.1) (A.len .iop x1.1)) (A.lit 1073741824))<|
 A.l1 (.l .iop) (A.app .iop x.q.2.2.2.1 x1.1) fun x2=>
 A.l1 .i (A.arith .sub .i64 (A.len .iop x2.1) (A.lit 1)) fun x3=>
 A.ret _ (x.1,x.2.1,x.2.2.1,x.2.2.2.1,x.q.1,x.q.2.1,x3.1,x2.1,())
def QN (A:Alg) (jZ:Pt A iF) (j6:Ft A iF) (x:Tup A.ah [.i,.i,.i,.i,.i,.i,.i,.i,.l .iop]):Ot A ug:=
 A.cl jZ j6 (x.1,x.2.1,x.2.2.1,x.2.2.2.1,x.q.1,x.q.2.1,A.mkX .iop (A.lit 8,x.q.2.2.2.1,A.lit 0,x.q.2.2.1,A.lit 0,()),x.o.1,()) fun x0=>
 A.l1 .i x0.q.2.2.1 fun x1=>
 A.ret _ (x0.1,x0.2.1,x0.2.2.1,x0.2.2.2.1,x0.q.1,x0.q.2.1,x0.q.2.2.2.1,())
def QO (A:Alg) (jZ:Pt A iF) (j6:Ft A iF) (x:Tup A.ah [.i,.i,.i,.i,.i,.i,.i,.l .iop]):Ot A jK:=
 A.l1 .i (A.lit 0) fun x0=>
 A.cl jZ j6 (x.1,x.2.1,x.2.2.1,x.2.2.2.1,x.q.1,x.q.2.1,A.mkX .iop (A.lit 2,A.lit 0,A.lit 0,x.q.2.2.1,A.lit 0,()),x.q.2.2.2.1,()) fun x1=>
 A.l1 .i x1.q.2.2.1 fun x2=>
 A.ret _ (x1.1,x1.2.1,x1.2.2.1,x1.2.2.2.1,x1.q.1,x1.q.2.1,x2.1,x1.q.2.2.2.1,())
def QS (A:Alg) (oO:Pt A jK) (oP:Ft A jK) (jZ:Pt A iF) (j6:Ft A iF) (x:Tup A.ah [.i,.i,.i,.i,.i,.i,.i,.i,.x .iop,.l .iop]):Ot A uh:=
 A.l1 .i (A.lit 0) fun x0=>
 A.cl oO oP (x.1,x.2.1,x.2.2.1,x.2.2.2.1,x.q.1,x.q.2.1,x.q.2.2.2.1,x.o.2.1,()) fun x1=>
 A.l1 .i x1.q.2.2.1 fun x2=>
 A.cl jZ j6 (x1.1,x1.2.1,x1.2.2.1,x1.2.2.2.1,x1.q.1,x1.q.2.1,x.o.1,x1.q.2.2.2.1,()) fun x3=>
 A.l1 .i x3.q.2.2.1 fun x4=>
 A.cl jZ j6 (x3.1,x3.2.1,x3.2.2.1,x3.2.2.2.1,x3.q.1,x3.q.2.1,A.mkX .iop (A.lit 3,x2.1,x4.1,x.q.2.2.1,A.lit 0,()),x3.q.2.2.2.1,()) fun x5=>
 A.l1 .i x5.q.2.2.1 fun x6=>
 A.ret _ (x5.1,x5.2.1,x5.2.2.1,x5.2.2.2.1,x5.q.1,x5.q.2.1,x6.1,x5.q.2.2.2.1,())
def QT (A:Alg) (x:Tup A.ah [.i]):Ot A Ew:=
 A.l1 .i (A.lit 0) fun x0=>
 A.l1 .i (A.lit 1) fun x1=>
 A.l1 .i (A.lit 0) fun x2=>
 A.iter [.i,.i,.i] (fun x3=>
 A.cond (A.cmp .lss x3.2.2.1 x3.1) (A.l1 .i (A.arith .add .i64 x3.2.1 x3.2.1) fun x4=>
 A.l1 .i (A.arith .add .i64 x3.2.2.1 (A.lit 1)) fun x5=>
 A.inl _ (x3.1,x4.1,x5.1,()))<|
 A.inr _<|A.l1 .i x3.2.1 fun x4=>
 A.ret _ (x4.1,())) (x.1,x1.1,x2.1,())
def QU (A:Alg) (oO:Pt A jK) (oP:Ft A jK) (jZ:Pt A iF) (j6:Ft A iF) (Kk:Pt A uh) (Kl:Ft A uh) (yg:Pt A ug) (yh:Ft A ug) (x:Tup A.ah [.i,.i,.i,.i,.i,.i,.x .ins,.i,.l .iop]):Ot A Ey:=
 A.cl Kk Kl (x.1,x.2.1,x.2.2.1,x.2.2.2.1,x.q.1,x.q.2.1,A.lit 1,A.fI .ins 2 x.q.2.2.1,A.mkX .iop (A.lit 1,A.lit 0,A.lit 0,A.fI .ins 3 x.q.2.2.1,A.lit 0,()),x.o.1,()) fun x0=>
 A.l1 .i x0.q.2.2.1 fun x1=>
 A.cond (A.cmp .eql (A.fI .ins 0 x.q.2.2.1) (A.lit 9)) (A.cl jZ j6 (x0.1,x0.2.1,x0.2.2.1,x0.2.2.2.1,x0.q.1,x0.q.2.1,A.mkX .iop (A.lit 4,x1.1,A.lit 0,A.lit 0,x.q.2.2.2.1,()),x0.q.2.2.2.1,()) fun x2=>
 A.l1 .i x2.q.2.2.1 fun x3=>
 A.cl yg yh (x2.1,x2.2.1,x2.2.2.1,x2.2.2.2.1,x2.q.1,x2.q.2.1,A.fI .ins 1 x.q.2.2.1,x3.1,x2.q.2.2.2.1,()) fun x4=>
 A.ret _ (x4.1,x4.2.1,x4.2.2.1,x4.2.2.2.1,x4.q.1,x4.q.2.1,x4.q.2.2.1,()))<|
 A.cl oO oP (x0.1,x0.2.1,x0.2.2.1,x0.2.2.2.1,x0.q.1,x0.q.2.1,A.fI .ins 1 x.q.2.2.1,x0.q.2.2.2.1,()) fun x2=>
 A.l1 .i x2.q.2.2.1 fun x3=>
 A.cl jZ j6 (x2.1,x2.2.1,x2.2.2.1,x2.2.2.2.1,x2.q.1,x2.q.2.1,A.mkX .iop (A.lit 5,x1.1,x3.1,A.lit 0,x.q.2.2.2.1,()),x2.q.2.2.2.1,()) fun x4=>
 A.l1 .i x4.q.2.2.1 fun x5=>
 A.ret _ (x4.1,x4.2.1,x4.2.2.1,x4.2.2.2.1,x4.q.1,x4.q.2.1,x4.q.2.2.2.1,())
def QV (A:Alg) (oO:Pt A jK) (oP:Ft A jK) (x:Tup A.ah [.i,.i,.i,.i,.i,.i,.x .ins,.l .iop]):Ot A Ez:=
 A.cond (A.cmp .eql (A.fI .ins 0 x.q.2.2.1) (A.lit 13)) (A.cl oO oP (x.1,x.2.1,x.2.2.1,x.2.2.2.1,x.q.1,x.q.2.1,A.fI .ins 2 x.q.2.2.1,x.q.2.2.2.1,()) fun x0=>
 A.l1 .i x0.q.2.2.1 fun x1=>
 A.l1 .i (A.lit 2) fun x2=>
 A.l1 .i x1.1 fun x3=>
 A.l1 .i (A.lit 0) fun x4=>
 A.ret _ (x0.1,x0.2.1,x2.1,x3.1,x0.q.1,x4.1,x0.q.2.2.2.1,()))<|
 A.cl oO oP (x.1,x.2.1,x.2.2.1,x.2.2.2.1,x.q.1,x.q.2.1,A.fI .ins 1 x.q.2.2.1,x.q.2.2.2.1,()) fun x0=>
 A.l1 .i x0.q.2.2.1 fun x1=>
 A.cl oO oP (x0.1,x0.2.1,x0.2.2.1,x0.2.2.2.1,x0.q.1,x0.q.2.1,A.fI .ins 2 x.q.2.2.1,x0.q.2.2.2.1,()) fun x2=>
 A.l1 .i x2.q.2.2.1 fun x3=>
 A.l1 .i (A.lit 3) fun x4=>
 A.bind [.i,.i,.x .ins,.i,.i,.i,.i,.i,.i,.i,.i,.i,.i,.i,.i,.l .iop] (A.cond (A.cmp .eql (A.fI .ins 0 x.q.2.2.1) (A.lit 12)) (A.l1 .i (A.lit 4) fun x5=>
 A.ret _ (x1.1,x3.1,x.q.2.2.1,A.lit 0,A.lit 0,A.lit 0,A.lit 0,A.lit 0,A.lit 0,x2.1,x2.2.1,x5.1,x2.2.2.2.1,x2.q.1,x2.q.2.1,x2.q.2.2.2.1,()))<|
 A.ret _ (x1.1,x3.1,x.q.2.2.1,A.lit 0,A.lit 0,A.lit 0,A.lit 0,A.lit 0,A.lit 0,x2.1,x2.2.1,x4.1,x2.2.2.2.1,x2.q.1,x2.q.2.1,x2.q.2.2.2.1,())) fun x5=>
 A.l1 .i x5.1 fun x6=>
 A.l1 .i x5.2.1 fun x7=>
 A.l1 .i (A.fI .ins 3 x5.2.2.1) fun x8=>
 A.ret _ (x5.o.2.1,x5.o.2.2.1,x5.o.2.2.2.1,x6.1,x7.1,x8.1,x5.o.q.2.2.2.1,())
def QW (A:Alg) (oO:Pt A jK) (oP:Ft A jK) (aeS:Pt A Ez) (aeT:Ft A Ez) (jZ:Pt A iF) (j6:Ft A iF) (aeU:Pt A Ey) (aeV:Ft A Ey) (Kk:Pt A uh) (Kl:Ft A uh) (yg:Pt A ug) (yh:Ft A ug) (aeW:Pt A Ew) (aeX:Ft A Ew) (x:Tup A.ah [.i,.i,.i,.i,.i,.i,.x .ins,.i,.l .iop]):Ot A EA:=
 A.l1 .b (A.cmp .eql (A.fI .ins 0 x.q.2.2.1) (A.lit 1)) fun x0=>
 A.cond x0.1 (A.cl jZ j6 (x.1,x.2.1,x.2.2.1,x.2.2.2.1,x.q.1,x.q.2.1,A.mkX .iop (A.lit 1,A.lit 0,A.lit 0,A.fI .ins 3 x.q.2.2.1,A.lit 0,()),x.o.1,()) fun x1=>
 A.l1 .i x1.q.2.2.1 fun x2=>
 A.cl yg yh (x1.1,x1.2.1,x1.2.2.1,x1.2.2.2.1,x1.q.1,x1.q.2.1,A.fI .ins 1 x.q.2.2.1,x2.1,x1.q.2.2.2.1,()) fun x3=>
 A.ret _ (x3.1,x3.2.1,x3.2.2.1,x3.2.2.2.1,x3.q.1,x3.q.2.1,x3.q.2.2.1,()))<|
 A.l1 .b (A.cmp .eql (A.fI .ins 0 x.q.2.2.1) (A.lit 2)) fun x1=>
 A.cond x1.1 (A.cl oO oP (x.1,x.2.1,x.2.2.1,x.2.2.2.1,x.q.1,x.q.2.1,A.fI .ins 2 x.q.2.2.1,x.o.1,()) fun x2=>
 A.l1 .i x2.q.2.2.1 fun x3=>
 A.cl yg yh (x2.1,x2.2.1,x2.2.2.1,x2.2.2.2.1,x2.q.1,x2.q.2.1,A.fI .ins 1 x.q.2.2.1,x3.1,x2.q.2.2.2.1,()) fun x4=>
 A.ret _ (x4.1,x4.2.1,x4.2.2.1,x4.2.2.2.1,x4.q.1,x4.q.2.1,x4.q.2.2.1,()))<|
 A.l1 .b (A.cmp .eql (A.fI .ins 0 x.q.2.2.1) (A.lit 8)) fun x2=>
 A.cond x2.1 (A.cl aeW aeX (A.fI .ins 3 x.q.2.2.1,()) fun x3=>
 A.cl Kk Kl (x.1,x.2.1,x.2.2.1,x.2.2.2.1,x.q.1,x.q.2.1,A.lit 3,A.fI .ins 2 x.q.2.2.1,A.mkX .iop (A.lit 1,A.lit 0,A.lit 0,x3.1,A.lit 0,()),x.o.1,()) fun x4=>
 A.l1 .i x4.q.2.2.1 fun x5=>
 A.cl yg yh (x4.1,x4.2.1,x4.2.2.1,x4.2.2.2.1,x4.q.1,x4.q.2.1,A.fI .ins 1 x.q.2.2.1,x5.1,x4.q.2.2.2.1,()) fun x6=>
 A.ret _ (x6.1,x6.2.1,x6.2.2.1,x6.2.2.2.1,x6.q.1,x6.q.2.1,x6.q.2.2.1,()))<|
 A.l1 .b (A.cmp .eql (A.fI .ins 0 x.q.2.2.1) (A.lit 9)) fun x3=>
 A.bind [.i,.i,.b,.l .iop,.i,.i,.i,.i,.i,.i,.x .ins,.i,.i,.i,.i,.i,.i] (A.cond x3.1 (A.ret _ (x.q.2.2.2.1,A.fI .ins 0 x.q.2.2.1,x3.1,x.o.1,x.1,x.2.1,x.2.2.1,x.2.2.2.1,x.q.1,x.q.2.1,x.q.2.2.1,A.lit 0,A.lit 0,A.lit 0,A.lit 0,A.lit 0,A.lit 0,()))<|
 A.l1 .b (A.cmp .eql (A.fI .ins 0 x.q.2.2.1) (A.lit 10)) fun x4=>
 A.ret _ (x.q.2.2.2.1,A.fI .ins 0 x.q.2.2.1,x4.1,x.o.1,x.1,x.2.1,x.2.2.1,x.2.2.2.1,x.q.1,x.q.2.1,x.q.2.2.1,A.lit 0,A.lit 0,A.lit 0,A.lit 0,A.lit 0,A.lit 0,())) fun x4=>
 A.cond x4.2.2.1 (A.cl aeU aeV (x4.q.1,x4.q.2.1,x4.q.2.2.1,x4.q.2.2.2.1,x4.o.1,x4.o.2.1,x4.o.2.2.1,x4.1,x4.2.2.2.1,()) fun x5=>
 A.ret _ (x5.1,x5.2.1,x5.2.2.1,x5.2.2.2.1,x5.q.1,x5.q.2.1,x5.q.2.2.1,()))<|
 A.l1 .b (A.cmp .eql x4.2.1 (A.lit 14)) fun x5=>
 A.cond x5.1 (A.cl oO oP (x4.q.1,x4.q.2.1,x4.q.2.2.1,x4.q.2.2.2.1,x4.o.1,x4.o.2.1,A.fI .ins 1 x4.o.2.2.1,x4.2.2.2.1,()) fun x6=>
 A.l1 .i x6.q.2.2.1 fun x7=>
 A.cl jZ j6 (x6.1,x6.2.1,x6.2.2.1,x6.2.2.2.1,x6.q.1,x6.q.2.1,A.mkX .iop (A.lit 7,x7.1,A.lit 0,A.lit 0,x4.1,()),x6.q.2.2.2.1,()) fun x8=>
 A.l1 .i x8.q.2.2.1 fun x9=>
 A.ret _ (x8.1,x8.2.1,x8.2.2.1,x8.2.2.2.1,x8.q.1,x8.q.2.1,x8.q.2.2.2.1,()))<|
 A.l1 .b (A.cmp .eql x4.2.1 (A.lit 15)) fun x6=>
 A.cond x6.1 (A.cl jZ j6 (x4.q.1,x4.q.2.1,x4.q.2.2.1,x4.q.2.2.2.1,x4.o.1,x4.o.2.1,A.mkX .iop (A.lit 6,A.lit 0,A.lit 0,A.lit 0,x4.1,()),x4.2.2.2.1,()) fun x7=>
 A.l1 .i x7.q.2.2.1 fun x8=>
 A.cl yg yh (x7.1,x7.2.1,x7.2.2.1,x7.2.2.2.1,x7.q.1,x7.q.2.1,A.fI .ins 1 x4.o.2.2.1,x8.1,x7.q.2.2.2.1,()) fun x9=>
 A.ret _ (x9.1,x9.2.1,x9.2.2.1,x9.2.2.2.1,x9.q.1,x9.q.2.1,x9.q.2.2.1,()))<|
 A.l1 .b (A.cmp .eql x4.2.1 (A.lit 11)) fun x7=>
 A.bind [.b,.l .iop,.i,.i,.i,.i,.i,.i,.x .ins,.i,.i,.i,.i,.i,.i] (A.cond x7.1 (A.ret _ (x7.1,x4.2.2.2.1,x4.q.1,x4.q.2.1,x4.q.2.2.1,x4.q.2.2.2.1,x4.o.1,x4.o.2.1,x4.o.2.2.1,x4.o.2.2.2.1,x4.o.q.1,x4.o.q.2.1,x4.o.q.2.2.1,x4.o.q.2.2.2.1,x4.o.o.1,()))<|
 A.l1 .b (A.cmp .eql x4.2.1 (A.lit 12)) fun x8=>
 A.bind [.b,.l .iop,.i,.i,.i,.i,.i,.i,.x .ins,.i,.i,.i,.i,.i,.i] (A.cond x8.1 (A.ret _ (x8.1,x4.2.2.2.1,x4.q.1,x4.q.2.1,x4.q.2.2.1,x4.q.2.2.2.1,x4.o.1,x4.o.2.1,x4.o.2.2.1,x4.o.2.2.2.1,x4.o.q.1,x4.o.q.2.1,x4.o.q.2.2.1,x4.o.q.2.2.2.1,x4.o.o.1,()))<|
 A.l1 .b (A.cmp .eql x4.2.1 (A.lit 13)) fun x9=>
 A.ret _ (x9.1,x4.2.2.2.1,x4.q.1,x4.q.2.1,x4.q.2.2.1,x4.q.2.2.2.1,x4.o.1,x4.o.2.1,x4.o.2.2.1,x4.o.2.2.2.1,x4.o.q.1,x4.o.q.2.1,x4.o.q.2.2.1,x4.o.q.2.2.2.1,x4.o.o.1,())) fun x9=>
 A.ret _ (x9.1,x9.2.1,x9.2.2.1,x9.2.2.2.1,x9.q.1,x9.q.2.1,x9.q.2.2.1,x9.q.2.2.2.1,x9.o.1,x9.o.2.1,x9.o.2.2.1,x9.o.2.2.2.1,x9.o.q.1,x9.o.q.2.1,x9.o.q.2.2.1,())) fun x8=>
 A.cond x8.1 (A.cl aeS aeT (x8.2.2.1,x8.2.2.2.1,x8.q.1,x8.q.2.1,x8.q.2.2.1,x8.q.2.2.2.1,x8.o.1,x8.2.1,()) fun x9=>
 A.ret _ (x9.1,x9.2.1,x9.2.2.1,x9.2.2.2.1,x9.q.1,x9.q.2.1,x9.q.2.2.1,()))<|
 A.cl Kk Kl (x8.2.2.1,x8.2.2.2.1,x8.q.1,x8.q.2.1,x8.q.2.2.1,x8.q.2.2.2.1,A.arith .add .i64 (A.arith .sub .i64 (A.fI .ins 0 x8.o.1) (A.lit 3)) (A.lit 1),A.fI .ins 2 x8.o.1,A.mkX .iop (A.lit 2,A.lit 0,A.lit 0,A.fI .ins 3 x8.o.1,A.lit 0,()),x8.2.1,()) fun x9=>
 A.l1 .i x9.q.2.2.1 fun x10=>
 A.cl yg yh (x9.1,x9.2.1,x9.2.2.1,x9.2.2.2.1,x9.q.1,x9.q.2.1,A.fI .ins 1 x8.o.1,x10.1,x9.q.2.2.2.1,()) fun x11=>
 A.ret _ (x11.1,x11.2.1,x11.2.2.1,x11.2.2.2.1,x11.q.1,x11.q.2.1,x11.q.2.2.1,())
def QX (A:Alg) (aeY:Pt A Eu) (aeZ:Ft A Eu) (ae0:Pt A EA) (ae1:Ft A EA) (x:Tup A.ah [.i,.l .ins]):Ot A EB:=
 A.cl aeY aeZ (x.1,x.2.1,()) fun x0=>
 A.cond (A.aA x0.1) (A.ret _ (A.lit 0,A.lit 0,A.lit 0,A.lit 0,A.lit 0,A.lit 0,A.bV .iop,()))<|
 A.l1 .i (A.lit 0) fun x1=>
 A.iter [.l .ins,.i,.i,.i,.i,.i,.i,.i,.i,.i,.i,.i,.i,.i,.l .iop] (fun x2=>
 A.cond (A.cmp .lss x2.2.1 (A.len .ins x2.1)) (A.bd .ins x2.1 x2.2.1<|
 A.cl ae0 ae1 (x2.o.1,x2.o.2.1,x2.o.2.2.1,x2.o.2.2.2.1,x2.o.q.1,x2.o.q.2.1,A.get .ins x2.1 x2.2.1,x2.2.1,x2.o.q.2.2.1,()) fun x3=>
 A.l1 .i (A.arith .add .i64 x2.2.1 (A.lit 1)) fun x4=>
 A.inl _ (x2.1,x4.1,x2.2.2.1,x2.2.2.2.1,x2.q.1,x2.q.2.1,x2.q.2.2.1,x2.q.2.2.2.1,x3.1,x3.2.1,x3.2.2.1,x3.2.2.2.1,x3.q.1,x3.q.2.1,x3.q.2.2.1,()))<|
 A.inr _<|A.ret _ (x2.o.1,x2.o.2.1,x2.o.2.2.1,x2.o.2.2.2.1,x2.o.q.1,x2.o.q.2.1,x2.o.q.2.2.1,())) (x.2.1,x1.1,A.lit 0,A.lit 0,A.lit 0,A.lit 0,A.lit 0,A.lit 0,x.1,A.len .ins x.2.1,A.lit 1,A.lit 0,A.lit 0,A.arith .add .i64 x.1 (A.len .ins x.2.1),A.bV .iop,())
def QY (A:Alg) (ae2:Pt A EB) (ae3:Ft A EB) (uD:Pt A mK) (uE:Ft A mK) (FK:Pt A mJ) (FL:Ft A mJ) (aO:Pt A bO) (aP:Ft A bO) (ae4:Pt A Es) (ae5:Ft A Es) (x:Tup A.ah [.l .u8,.i]):Ot A uj:=
 A.cl ae4 ae5 (x.1,x.2.1,()) fun x0=>
 A.cl aO aP (A.lit 50,x0.1,x0.2.1,()) fun x1=>
 A.l1 (.l .i64) (A.lst .i64 [A.mkX .i64 (A.lit 0,()),A.mkX .i64 (A.lit 1,()),A.mkX .i64 (x1.1,()),A.mkX .i64 (A.arith .sub .i64 (A.lit 64) (A.len .ins x0.2.2.1),())]) fun x2=>
 A.cl aO aP (A.lit 4,x1.2.1,x1.2.2.1,()) fun x3=>
 A.bd .i64 x2.1 x3.1<|
 A.bd .i64 x2.1 x3.1<|
 A.cl ae2 ae3 (A.fI .i64 0 (A.get .i64 x2.1 x3.1),x0.2.2.1,()) fun x4=>
 A.cl aO aP (A.lit 5,x3.2.1,x3.2.2.1,()) fun x5=>
 A.l1 .b (A.cmp .eql x5.1 (A.lit 0)) fun x6=>
 A.cond x6.1 (A.cl uD uE (A.mkX .blk (x4.1,x4.2.1,x4.q.2.2.1,x4.2.2.1,x4.2.2.2.1,x4.q.1,x4.q.2.1,()),()) fun x7=>
 A.ret _ (x7.1,x7.2.1,x7.2.2.1,x7.2.2.2.1,x7.q.1,x7.q.2.1,x5.2.1,x5.2.2.1,x7.q.2.2.1,()))<|
 A.l1 .b (A.cmp .eql x5.1 (A.lit 1)) fun x7=>
 A.cond x7.1 (A.cl FK FL (A.mkX .blk (x4.1,x4.2.1,x4.q.2.2.1,x4.2.2.1,x4.2.2.2.1,x4.q.1,x4.q.2.1,()),()) fun x8=>
 A.ret _ (x8.1,x8.2.1,x8.2.2.1,x8.2.2.2.1,x8.q.1,x8.q.2.1,x5.2.1,x5.2.2.1,x8.q.2.2.1,()))<|
 A.ret _ (x4.1,x4.2.1,x4.2.2.1,x4.2.2.2.1,x4.q.1,x4.q.2.1,x5.2.1,x5.2.2.1,x4.q.2.2.1,())
def Km (A:Alg) (aO:Pt A bO) (aP:Ft A bO) (xZ:Pt A jJ) (yc:Ft A jJ) (x:Tup A.ah [.x .blk,.l .u8,.i]):Ot A mM:=
 A.cl xZ yc (x.1,()) fun x0=>
 A.cond (A.cmp .eql (A.len .iop x0.q.2.2.1) (A.lit 0)) (A.l1 .i (A.arith .add .i64 x0.q.2.1 (A.lit 1)) fun x1=>
 A.ret _ (x0.1,x0.2.1,x0.2.2.1,x0.2.2.2.1,x0.q.1,x1.1,x.2.1,x.2.2.1,x0.q.2.2.1,()))<|
 A.cl aO aP (A.len .iop x0.q.2.2.1,x.2.1,x.2.2.1,()) fun x1=>
 A.l1 .i x1.1 fun x2=>
 A.cl aO aP (A.lit 9,x1.2.1,x1.2.2.1,()) fun x3=>
 A.l1 .b (A.cmp .eql x3.1 (A.lit 0)) fun x4=>
 A.bind [.l .u8,.i,.i,.i,.i,.i,.i,.i,.i,.i,.i,.i,.i,.i,.l .iop] (A.cond x4.1 (A.bd .iop x0.q.2.2.1 x2.1<|
 A.bd .iop x0.q.2.2.1 x2.1<|
 A.bd .iop x0.q.2.2.1 x2.1<|
 A.bd .iop x0.q.2.2.1 x2.1<|
 A.l1 .i (A.arith .add .i64 (A.fI .iop 3 (A.get .iop x0.q.2.2.1 x2.1)) (A.lit 1)) fun x5=>
 A.ret _ (x3.2.1,x3.2.2.1,A.lit 0,A.lit 0,A.lit 0,A.lit 0,A.lit 0,A.lit 0,x0.1,x0.2.1,x0.2.2.1,x0.2.2.2.1,x0.q.1,x0.q.2.1,A.set .iop x0.q.2.2.1 x2.1 (A.mkX .iop (A.fI .iop 0 (A.get .iop x0.q.2.2.1 x2.1),A.fI .iop 1 (A.get .iop x0.q.2.2.1 x2.1),A.fI .iop 2 (A.get .iop x0.q.2.2.1 x2.1),x5.1,A.fI .iop 4 (A.get .iop x0.q.2.2.1 x2.1),())),()))<|
 A.l1 .b (A.cmp .eql x3.1 (A.lit 1)) fun x5=>
 A.bind [.l .u8,.i,.i,.i,.i,.i,.i,.i,.i,.i,.i,.i,.i,.i,.l .iop] (A.cond x5.1 (A.cl aO aP (A.arith .add .i64 x2.1 (A.lit 1),x3.2.1,x3.2.2.1,()) fun x6=>
 A.bd .iop x0.q.2.2.1 x2.1<|
 A.bd .iop x0.q.2.2.1 x2.1<|
 A.l1 .i x6.1 fun x7=>
 A.ret _ (x6.2.1,x6.2.2.1,A.lit 0,A.lit 0,A.lit 0,A.lit 0,A.lit 0,A.lit 0,x0.1,x0.2.1,x0.2.2.1,x0.2.2.2.1,x0.q.1,x0.q.2.1,A.set .iop x0.q.2.2.1 x2.1 (A.mkX .iop (A.fI .iop 0 (A.get .iop x0.q.2.2.1 x2.1),x7.1,A.fI .iop 2 (A.get .iop x0.q.2.2.1 x2.1),A.fI .iop 3 (A.get .iop x0.q.2.2.1 x2.1),A.fI .iop 4 (A.get .iop x0.q.2.2.1 x2.1),())),()))<|
 A.l1 .b (A.cmp .eql x3.1 (A.lit 2)) fun x6=>
 A.bind [.l .u8,.i,.i,.i,.i,.i,.i,.i,.i,.i,.i,.i,.i,.i,.l .iop] (A.cond x6.1 (A.cl aO aP (A.arith .add .i64 x2.1 (A.lit 1),x3.2.1,x3.2.2.1,()) fun x7=>
 A.bd .iop x0.q.2.2.1 x2.1<|
 A.bd .iop x0.q.2.2.1 x2.1<|
 A.l1 .i x7.1 fun x8=>
 A.ret _ (x7.2.1,x7.2.2.1,A.lit 0,A.lit 0,A.lit 0,A.lit 0,A.lit 0,A.lit 0,x0.1,x0.2.1,x0.2.2.1,x0.2.2.2.1,x0.q.1,x0.q.2.1,A.set .iop x0.q.2.2.1 x2.1 (A.mkX .iop (A.fI .iop 0 (A.get .iop x0.q.2.2.1 x2.1),A.fI .iop 1 (A.get .iop x0.q.2.2.1 x2.1),x8.1,A.fI .iop 3 (A.get .iop x0.q.2.2.1 x2.1),A.fI .iop 4 (A.get .iop x0.q.2.2.1 x2.1),())),()))<|
 A.l1 .b (A.cmp .eql x3.1 (A.lit 3)) fun x7=>
 A.bind [.l .u8,.i,.i,.i,.i,.i,.i,.i,.i,.i,.i,.i,.i,.i,.l .iop] (A.cond x7.1 (A.cl aO aP (A.arith .add .i64 x0.2.1 (A.lit 1),x3.2.1,x3.2.2.1,()) fun x8=>
 A.bd .iop x0.q.2.2.1 x2.1<|
 A.bd .iop x0.q.2.2.1 x2.1<|
 A.l1 .i x8.1 fun x9=>
 A.ret _ (x8.2.1,x8.2.2.1,A.lit 0,A.lit 0,A.lit 0,A.lit 0,A.lit 0,A.lit 0,x0.1,x0.2.1,x0.2.2.1,x0.2.2.2.1,x0.q.1,x0.q.2.1,A.set .iop x0.q.2.2.1 x2.1 (A.mkX .iop (A.fI .iop 0 (A.get .iop x0.q.2.2.1 x2.1),A.fI .iop 1 (A.get .iop x0.q.2.2.1 x2.1),A.fI .iop 2 (A.get .iop x0.q.2.2.1 x2.1),A.fI .iop 3 (A.get .iop x0.q.2.2.1 x2.1),x9.1,())),()))<|
 A.l1 .b (A.cmp .eql x3.1 (A.lit 4)) fun x8=>
 A.bind [.l .u8,.i,.i,.i,.i,.i,.i,.i,.i,.i,.i,.i,.i,.i,.l .iop] (A.cond x8.1 (A.cl aO aP (A.lit 66,x3.2.1,x3.2.2.1,()) fun x9=>
 A.l1 .i x9.1 fun x10=>
 A.ret _ (x9.2.1,x9.2.2.1,A.lit 0,A.lit 0,A.lit 0,A.lit 0,A.lit 0,A.lit 0,x0.1,x0.2.1,x0.2.2.1,x0.2.2.2.1,x0.q.1,x10.1,x0.q.2.2.1,()))<|
 A.l1 .b (A.cmp .eql x3.1 (A.lit 5)) fun x9=>
 A.bind [.l .u8,.i,.i,.i,.i,.i,.i,.i,.i,.i,.i,.i,.i,.i,.l .iop] (A.cond x9.1 (A.cl aO aP (A.lit 4,x3.2.1,x3.2.2.1,()) fun x10=>
 A.l1 .i (A.arith .add .i64 (A.lit 1) x10.1) fun x11=>
 A.ret _ (x10.2.1,x10.2.2.1,A.lit 0,A.lit 0,A.lit 0,A.lit 0,A.lit 0,A.lit 0,x0.1,x0.2.1,x11.1,x0.2.2.2.1,x0.q.1,x0.q.2.1,x0.q.2.2.1,()))<|
 A.l1 .b (A.cmp .eql x3.1 (A.lit 6)) fun x10=>
 A.bind [.l .u8,.i,.i,.i,.i,.i,.i,.i,.i,.i,.i,.i,.i,.i,.l .iop] (A.cond x10.1 (A.bind [.l .u8,.i,.i,.i,.i,.i,.i,.i,.i,.i,.i,.i,.i,.i,.l .iop] (A.cond (A.cmp .gtr x2.1 (A.lit 0)) (A.bd .iop x0.q.2.2.1 x2.1<|
 A.bd .iop x0.q.2.2.1 x2.1<|
 A.l1 (.x .iop) (A.get .iop x0.q.2.2.1 x2.1) fun x11=>
 A.bd .iop x0.q.2.2.1 (A.arith .sub .i64 x2.1 (A.lit 1))<|
 A.bd .iop x0.q.2.2.1 (A.arith .sub .i64 x2.1 (A.lit 1))<|
 A.bd .iop x0.q.2.2.1 x2.1<|
 A.bd .iop x0.q.2.2.1 x2.1<|
 A.l1 (.x .iop) (A.get .iop x0.q.2.2.1 (A.arith .sub .i64 x2.1 (A.lit 1))) fun x12=>
 A.bd .iop (A.set .iop x0.q.2.2.1 x2.1 x12.1) (A.arith .sub .i64 x2.1 (A.lit 1))<|
 A.bd .iop (A.set .iop x0.q.2.2.1 x2.1 x12.1) (A.arith .sub .i64 x2.1 (A.lit 1))<|
 A.l1 (.x .iop) x11.1 fun x13=>
 A.ret _ (x3.2.1,x3.2.2.1,A.lit 0,A.lit 0,A.lit 0,A.lit 0,A.lit 0,A.lit 0,x0.1,x0.2.1,x0.2.2.1,x0.2.2.2.1,x0.q.1,x0.q.2.1,A.set .iop (A.set .iop x0.q.2.2.1 x2.1 x12.1) (A.arith .sub .i64 x2.1 (A.lit 1)) x13.1,()))<|
 A.ret _ (x3.2.1,x3.2.2.1,A.lit 0,A.lit 0,A.lit 0,A.lit 0,A.lit 0,A.lit 0,x0.1,x0.2.1,x0.2.2.1,x0.2.2.2.1,x0.q.1,x0.q.2.1,x0.q.2.2.1,())) fun x11=>
 A.ret _ (x11.1,x11.2.1,x11.2.2.1,x11.2.2.2.1,x11.q.1,x11.q.2.1,x11.q.2.2.1,x11.q.2.2.2.1,x11.o.1,x11.o.2.1,x11.o.2.2.1,x11.o.2.2.2.1,x11.o.q.1,x11.o.q.2.1,x11.o.q.2.2.1,()))<|
 A.l1 .b (A.cmp .eql x3.1 (A.lit 7)) fun x11=>
 A.bind [.l .u8,.i,.i,.i,.i,.i,.i,.i,.i,.i,.i,.i,.i,.i,.l .iop] (A.cond x11.1 (A.cl aO aP (A.lit 3,x3.2.1,x3.2.2.1,()) fun x12=>
 A.bd .iop x0.q.2.2.1 x2.1<|
 A.bd .iop x0.q.2.2.1 x2.1<|
 A.ret _ (x12.2.1,x12.2.2.1,A.lit 0,A.lit 0,A.lit 0,A.lit 0,A.lit 0,A.lit 0,x0.1,x0.2.1,x0.2.2.1,x0.2.2.2.1,x0.q.1,x0.q.2.1,A.set .iop x0.q.2.2.1 x2.1 (A.mkX .iop (A.lit 1,A.lit 0,A.lit 0,x12.1,A.lit 0,())),()))<|
 A.chk (A.cmp .leq (A.lit 0) (A.lit 0))<|
 A.chk (A.cmp .leq (A.lit 0) x2.1)<|
 A.chk (A.cmp .leq x2.1 (A.len .iop x0.q.2.2.1))<|
 A.chk (A.cmp .eql (A.lit 0) (A.lit 0))<|
 A.chk (A.cmp .leq (A.lit 0) (A.Cc x2.1 (A.lit 0)))<|
 A.chk (A.cmp .leq (A.Cc x2.1 (A.lit 0)) (A.len .iop x0.q.2.2.1))<|
 A.ret _ (x3.2.1,x3.2.2.1,A.lit 0,A.lit 0,A.lit 0,A.lit 0,A.lit 0,A.lit 0,x0.1,x0.2.1,x0.2.2.1,x0.2.2.2.1,x0.q.1,x0.q.2.1,A.sub .iop x0.q.2.2.1 (A.lit 0) (A.Cc x2.1 (A.lit 0)),())) fun x12=>
 A.ret _ (x12.1,x12.2.1,x12.2.2.1,x12.2.2.2.1,x12.q.1,x12.q.2.1,x12.q.2.2.1,x12.q.2.2.2.1,x12.o.1,x12.o.2.1,x12.o.2.2.1,x12.o.2.2.2.1,x12.o.q.1,x12.o.q.2.1,x12.o.q.2.2.1,())) fun x11=>
 A.ret _ (x11.1,x11.2.1,x11.2.2.1,x11.2.2.2.1,x11.q.1,x11.q.2.1,x11.q.2.2.1,x11.q.2.2.2.1,x11.o.1,x11.o.2.1,x11.o.2.2.1,x11.o.2.2.2.1,x11.o.q.1,x11.o.q.2.1,x11.o.q.2.2.1,())) fun x10=>
 A.ret _ (x10.1,x10.2.1,x10.2.2.1,x10.2.2.2.1,x10.q.1,x10.q.2.1,x10.q.2.2.1,x10.q.2.2.2.1,x10.o.1,x10.o.2.1,x10.o.2.2.1,x10.o.2.2.2.1,x10.o.q.1,x10.o.q.2.1,x10.o.q.2.2.1,())) fun x9=>
 A.ret _ (x9.1,x9.2.1,x9.2.2.1,x9.2.2.2.1,x9.q.1,x9.q.2.1,x9.q.2.2.1,x9.q.2.2.2.1,x9.o.1,x9.o.2.1,x9.o.2.2.1,x9.o.2.2.2.1,x9.o.q.1,x9.o.q.2.1,x9.o.q.2.2.1,())) fun x8=>
 A.ret _ (x8.1,x8.2.1,x8.2.2.1,x8.2.2.2.1,x8.q.1,x8.q.2.1,x8.q.2.2.1,x8.q.2.2.2.1,x8.o.1,x8.o.2.1,x8.o.2.2.1,x8.o.2.2.2.1,x8.o.q.1,x8.o.q.2.1,x8.o.q.2.2.1,())) fun x7=>
 A.ret _ (x7.1,x7.2.1,x7.2.2.1,x7.2.2.2.1,x7.q.1,x7.q.2.1,x7.q.2.2.1,x7.q.2.2.2.1,x7.o.1,x7.o.2.1,x7.o.2.2.1,x7.o.2.2.2.1,x7.o.q.1,x7.o.q.2.1,x7.o.q.2.2.1,())) fun x6=>
 A.ret _ (x6.1,x6.2.1,x6.2.2.1,x6.2.2.2.1,x6.q.1,x6.q.2.1,x6.q.2.2.1,x6.q.2.2.2.1,x6.o.1,x6.o.2.1,x6.o.2.2.1,x6.o.2.2.2.1,x6.o.q.1,x6.o.q.2.1,x6.o.q.2.2.1,())) fun x5=>
 A.ret _ (x5.o.1,x5.o.2.1,x5.o.2.2.1,x5.o.2.2.2.1,x5.o.q.1,x5.o.q.2.1,x5.1,x5.2.1,x5.o.q.2.2.1,())
def QZ (A:Alg) (Q0:Pt A tO) (Q5:Ft A tO) (aO:Pt A bO) (aP:Ft A bO) (Ag:Pt A mM) (Ah:Ft A mM) (Kn:Pt A uj) (Ko:Ft A uj) (x:Tup A.ah [.i,.l .u8,.i]):Ot A EC:=
 A.cl Kn Ko (x.2.1,x.2.2.1,()) fun x0=>
 A.cl Q0 Q5 (x.1,x0.q.2.2.1,x0.q.2.2.2.1,()) fun x1=>
 A.kI [.l .u8,.i,.i,.i,.i,.i,.i,.i,.i,.i,.i,.i,.i,.i,.l .iop] (A.cond x1.1 (A.cl aO aP (A.lit 6,x1.2.1,x1.2.2.1,()) fun x2=>
 A.l1 .b (A.cmp .eql x2.1 (A.lit 0)) fun x3=>
 A.kI [.l .u8,.i,.i,.i,.i,.i,.i,.i,.i,.i,.i,.i,.i,.i,.l .iop] (A.cond x3.1 (A.l1 (.l .i64) (A.lst .i64 [A.mkX .i64 (A.lit 0,()),A.mkX .i64 (A.lit 9,())]) fun x4=>
 A.cl aO aP (A.lit 2,x2.2.1,x2.2.2.1,()) fun x5=>
 A.bd .i64 x4.1 x5.1<|
 A.bd .i64 x4.1 x5.1<|
 A.l1 .i (A.fI .i64 0 (A.get .i64 x4.1 x5.1)) fun x6=>
 A.inl _ (x5.2.1,x5.2.2.1,A.lit 0,A.lit 0,A.lit 0,A.lit 0,A.lit 0,A.lit 0,x0.1,x6.1,x0.2.2.1,x0.2.2.2.1,x0.q.1,x0.q.2.1,x0.o.1,()))<|
 A.l1 .b (A.cmp .eql x2.1 (A.lit 1)) fun x4=>
 A.kI [.l .u8,.i,.i,.i,.i,.i,.i,.i,.i,.i,.i,.i,.i,.i,.l .iop] (A.cond x4.1 (A.l1 (.l .i64) (A.lst .i64 [A.mkX .i64 (A.lit (-1),()),A.mkX .i64 (A.lit 64,())]) fun x5=>
 A.cl aO aP (A.lit 2,x2.2.1,x2.2.2.1,()) fun x6=>
 A.bd .i64 x5.1 x6.1<|
 A.bd .i64 x5.1 x6.1<|
 A.l1 .i (A.fI .i64 0 (A.get .i64 x5.1 x6.1)) fun x7=>
 A.inl _ (x6.2.1,x6.2.2.1,A.lit 0,A.lit 0,A.lit 0,A.lit 0,A.lit 0,A.lit 0,x7.1,x0.2.1,x0.2.2.1,x0.2.2.2.1,x0.q.1,x0.q.2.1,x0.o.1,()))<|
 A.l1 .b (A.cmp .eql x2.1 (A.lit 2)) fun x5=>
 A.kI [.l .u8,.i,.i,.i,.i,.i,.i,.i,.i,.i,.i,.i,.i,.i,.l .iop] (A.cond x5.1 (A.iter [.l .u8,.i,.i,.i,.i,.i,.i,.i,.i,.i,.i,.i,.i,.i,.l .iop] (fun x6=>
 A.cond (A.cmp .leq (A.len .iop x6.o.q.2.2.1) (A.lit 48)) (A.l1 (.l .iop) (A.lst .iop [A.mkX .iop (A.lit 1,A.lit 0,A.lit 0,A.lit 0,A.lit 0,())]) fun x7=>
 A.chk (A.cmp .leq (A.addN (A.len .iop x6.o.q.2.2.1) (A.len .iop x7.1)) (A.lit 1073741824))<|
 A.l1 (.l .iop) (A.app .iop x6.o.q.2.2.1 x7.1) fun x8=>
 A.inl _ (x6.1,x6.2.1,x6.2.2.1,x6.2.2.2.1,x6.q.1,x6.q.2.1,x6.q.2.2.1,x6.q.2.2.2.1,x6.o.1,x6.o.2.1,x6.o.2.2.1,x6.o.2.2.2.1,x6.o.q.1,x6.o.q.2.1,x8.1,()))<|
 A.inr _<|A.inl _ (x6.1,x6.2.1,x6.2.2.1,x6.2.2.2.1,x6.q.1,x6.q.2.1,x6.q.2.2.1,x6.q.2.2.2.1,x6.o.1,x6.o.2.1,x6.o.2.2.1,x6.o.2.2.2.1,x6.o.q.1,x6.o.q.2.1,x6.o.q.2.2.1,())) (x2.2.1,x2.2.2.1,A.lit 0,A.lit 0,A.lit 0,A.lit 0,A.lit 0,A.lit 0,x0.1,x0.2.1,x0.2.2.1,x0.2.2.2.1,x0.q.1,x0.q.2.1,x0.o.1,()))<|
 A.l1 .b (A.cmp .eql x2.1 (A.lit 3)) fun x6=>
 A.kI [.l .u8,.i,.i,.i,.i,.i,.i,.i,.i,.i,.i,.i,.i,.i,.l .iop] (A.cond x6.1 (A.l1 (.l .i64) (A.lst .i64 [A.mkX .i64 (A.lit 0,()),A.mkX .i64 (A.lit 5,())]) fun x7=>
 A.cl aO aP (A.lit 2,x2.2.1,x2.2.2.1,()) fun x8=>
 A.bd .i64 x7.1 x8.1<|
 A.bd .i64 x7.1 x8.1<|
 A.l1 .i (A.fI .i64 0 (A.get .i64 x7.1 x8.1)) fun x9=>
 A.inl _ (x8.2.1,x8.2.2.1,A.lit 0,A.lit 0,A.lit 0,A.lit 0,A.lit 0,A.lit 0,x0.1,x0.2.1,x9.1,x0.2.2.2.1,x0.q.1,x0.q.2.1,x0.o.1,()))<|
 A.l1 .b (A.cmp .eql x2.1 (A.lit 4)) fun x7=>
 A.cond x7.1 (A.cl aO aP (A.lit 3,x2.2.1,x2.2.2.1,()) fun x8=>
 A.bd .i64 (A.lst .i64 [A.mkX .i64 (A.lit 0,()),A.mkX .i64 (A.lit 9,()),A.mkX .i64 (A.lit 8,())]) x8.1<|
 A.chk (A.cmp .leq (A.addN (A.len .iop x0.o.1) (A.len .iop (A.lst .iop [A.mkX .iop (A.fI .i64 0 (A.get .i64 (A.lst .i64 [A.mkX .i64 (A.lit 0,()),A.mkX .i64 (A.lit 9,()),A.mkX .i64 (A.lit 8,())]) x8.1),A.len .iop x0.o.1,A.lit 0,A.lit 0,A.lit 0,())]))) (A.lit 1073741824))<|
 A.l1 (.l .iop) (A.app .iop x0.o.1 (A.lst .iop [A.mkX .iop (A.fI .i64 0 (A.get .i64 (A.lst .i64 [A.mkX .i64 (A.lit 0,()),A.mkX .i64 (A.lit 9,()),A.mkX .i64 (A.lit 8,())]) x8.1),A.len .iop x0.o.1,A.lit 0,A.lit 0,A.lit 0,())])) fun x9=>
 A.inl _ (x8.2.1,x8.2.2.1,A.lit 0,A.lit 0,A.lit 0,A.lit 0,A.lit 0,A.lit 0,x0.1,x0.2.1,x0.2.2.1,x0.2.2.2.1,x0.q.1,x0.q.2.1,x9.1,()))<|
 A.cl Ag Ah (A.mkX .blk (x0.1,x0.2.1,x0.o.1,x0.2.2.1,x0.2.2.2.1,x0.q.1,x0.q.2.1,()),x2.2.1,x2.2.2.1,()) fun x8=>
 A.inr _<|A.inr _<|A.inr _<|A.inr _<|A.inr _<|A.ret _ (A.mkX .blk (x8.1,x8.2.1,x8.o.1,x8.2.2.1,x8.2.2.2.1,x8.q.1,x8.q.2.1,()),x8.q.2.2.1,x8.q.2.2.2.1,())) fun x7=>
 A.inl _ (x7.1,x7.2.1,x7.2.2.1,x7.2.2.2.1,x7.q.1,x7.q.2.1,x7.q.2.2.1,x7.q.2.2.2.1,x7.o.1,x7.o.2.1,x7.o.2.2.1,x7.o.2.2.2.1,x7.o.q.1,x7.o.q.2.1,x7.o.q.2.2.1,())) fun x6=>
 A.inl _ (x6.1,x6.2.1,x6.2.2.1,x6.2.2.2.1,x6.q.1,x6.q.2.1,x6.q.2.2.1,x6.q.2.2.2.1,x6.o.1,x6.o.2.1,x6.o.2.2.1,x6.o.2.2.2.1,x6.o.q.1,x6.o.q.2.1,x6.o.q.2.2.1,())) fun x5=>
 A.inl _ (x5.1,x5.2.1,x5.2.2.1,x5.2.2.2.1,x5.q.1,x5.q.2.1,x5.q.2.2.1,x5.q.2.2.2.1,x5.o.1,x5.o.2.1,x5.o.2.2.1,x5.o.2.2.2.1,x5.o.q.1,x5.o.q.2.1,x5.o.q.2.2.1,())) fun x4=>
 A.inl _ (x4.1,x4.2.1,x4.2.2.1,x4.2.2.2.1,x4.q.1,x4.q.2.1,x4.q.2.2.1,x4.q.2.2.2.1,x4.o.1,x4.o.2.1,x4.o.2.2.1,x4.o.2.2.2.1,x4.o.q.1,x4.o.q.2.1,x4.o.q.2.2.1,()))<|
 A.inl _ (x1.2.1,x1.2.2.1,A.lit 0,A.lit 0,A.lit 0,A.lit 0,A.lit 0,A.lit 0,x0.1,x0.2.1,x0.2.2.1,x0.2.2.2.1,x0.q.1,x0.q.2.1,x0.o.1,())) fun x2=>
 A.ret _ (A.mkX .blk (x2.o.1,x2.o.2.1,x2.o.q.2.2.1,x2.o.2.2.1,x2.o.2.2.2.1,x2.o.q.1,x2.o.q.2.1,()),x2.1,x2.2.1,())
def Q6 (A:Alg) (x:Tup A.ah [.l .u8]):Ot A ED:=
 A.bind [.l .u8] (A.cond (A.cmp .gtr (A.len .u8 x.1) (A.lit 2000)) (A.chk (A.cmp .leq (A.lit 0) (A.lit 0))<|
 A.chk (A.cmp .leq (A.lit 0) (A.lit 2000))<|
 A.chk (A.cmp .leq (A.lit 2000) (A.len .u8 x.1))<|
 A.l1 (.l .u8) (A.sub .u8 x.1 (A.lit 0) (A.lit 2000)) fun x0=>
 A.ret _ (x0.1,()))<|
 A.ret _ (x.1,())) fun x0=>
 A.ret _ (x0.1,A.lit 0,())
def XJ (A:Alg) (x:Tup A.ah [.i,.i,.i]):Ot A bY:=
 A.l1 .b (A.bl false) fun x0=>
 A.rb (A.ak (A.cmp .leq x.2.1 x.1) (A.cmp .leq x.1 x.2.2.1) (A.bl false))
def XK (A:Alg) (fZ:Pt A bY) (gq:Ft A bY) (x:Tup A.ah [.i]):Ot A jr:=
 A.l1 .b (A.bl false) fun x0=>
 A.cl fZ gq (x.1,A.lit 0,A.lit 65535,()) fun x1=>
 A.rb x1.1
def XL (A:Alg) (fZ:Pt A bY) (gq:Ft A bY) (x:Tup A.ah [.x .iop]):Ot A Bd:=
 A.l1 .b (A.bl false) fun x0=>
 A.l1 .b (A.bl false) fun x1=>
 A.l1 .b (A.bl false) fun x2=>
 A.l1 .b (A.bl false) fun x3=>
 A.l1 .b (A.ak (A.ak (A.cmp .neq (A.fI .iop 0 x.1) (A.lit 1)) (A.cmp .neq (A.fI .iop 0 x.1) (A.lit 2)) (A.bl false)) (A.cmp .neq (A.fI .iop 0 x.1) (A.lit 6)) (A.bl false)) fun x4=>
 A.l1 .b (A.ak (A.cmp .eql (A.fI .iop 0 x.1) (A.lit 3)) (A.bl true) (A.cmp .eql (A.fI .iop 0 x.1) (A.lit 5))) fun x5=>
 A.l1 .b (A.ak (A.ak (A.ak (A.cmp .eql (A.fI .iop 0 x.1) (A.lit 1)) (A.bl true) (A.cmp .eql (A.fI .iop 0 x.1) (A.lit 2))) (A.bl true) (A.cmp .eql (A.fI .iop 0 x.1) (A.lit 3))) (A.bl true) (A.cmp .eql (A.fI .iop 0 x.1) (A.lit 8))) fun x6=>
 A.cl fZ gq (A.fI .iop 0 x.1,A.lit 4,A.lit 7,()) fun x7=>
 A.l1 .b x7.1 fun x8=>
 A.l1 .b x4.1 fun x9=>
 A.l1 .b x5.1 fun x10=>
 A.l1 .b x6.1 fun x11=>
 A.l1 .b x8.1 fun x12=>
 A.ret _ (x9.1,x10.1,x11.1,x12.1,())
def XM (A:Alg) (fZ:Pt A bY) (gq:Ft A bY) (x:Tup A.ah [.i]):Ot A Bf:=
 A.l1 .b (A.bl false) fun x0=>
 A.cl fZ gq (x.1,A.lit 0,A.lit 3,()) fun x1=>
 A.rb x1.1
def XO (A:Alg) (fZ:Pt A bY) (gq:Ft A bY) (x:Tup A.ah [.i]):Ot A Bg:=
 A.l1 .b (A.bl false) fun x0=>
 A.cl fZ gq (x.1,A.lit 1,A.lit 5,()) fun x1=>
 A.rb x1.1
def XP (A:Alg) (fZ:Pt A bY) (gq:Ft A bY) (x:Tup A.ah [.x .iop]):Ot A MI:=
 A.l1 .b (A.bl false) fun x0=>
 A.cl fZ gq (A.fI .iop 0 x.1,A.lit 1,A.lit 4,()) fun x1=>
 A.rb (A.ak x1.1 (A.bl true) (A.cmp .eql (A.fI .iop 0 x.1) (A.lit 6)))
def XQ (A:Alg) (alJ:Pt A MI) (alK:Ft A MI) (fZ:Pt A bY) (gq:Ft A bY) (x:Tup A.ah [.x .blk,.i,.i]):Ot A Bh:=
 A.l1 .b (A.bl false) fun x0=>
 A.cl fZ gq (x.2.1,A.lit 0,A.arith .sub .i64 x.2.2.1 (A.lit 1),()) fun x1=>
 A.chk (A.orB (A.aA x1.1) (A.cmp .leq (A.lit 0) x.2.1))<|
 A.chk (A.orB (A.aA x1.1) (A.cmp .lss x.2.1 (A.len .iop (A.fL .blk 2 .iop x.1))))<|
 A.cg x1.1 alJ alK (A.get .iop (A.fL .blk 2 .iop x.1) x.2.1,()) fun x2=>
 A.rb (A.ak x1.1 x2.1 (A.bl false))
def XR (A:Alg) (Np:Pt A Bh) (Nq:Ft A Bh) (XU:Pt A Bd) (XV:Ft A Bd) (qp:Pt A jr) (qw:Ft A jr) (fZ:Pt A bY) (gq:Ft A bY) (XW:Pt A Bg) (XY:Ft A Bg) (Ux:Pt A Bf) (Uy:Ft A Bf) (x:Tup A.ah [.x .blk,.i]):Ot A MJ:=
 A.l1 .b (A.bl false) fun x0=>
 A.bd .iop (A.fL .blk 2 .iop x.1) x.2.1<|
 A.l1 (.x .iop) (A.get .iop (A.fL .blk 2 .iop x.1) x.2.1) fun x1=>
 A.cl fZ gq (A.fI .iop 0 x1.1,A.lit 1,A.lit 8,()) fun x2=>
 A.cond (A.aA x2.1) (A.rb (A.bl false))<|
 A.cl XU XV (x1.1,()) fun x3=>
 A.l1 .b x3.1 fun x4=>
 A.l1 .b x3.2.1 fun x5=>
 A.l1 .b x3.2.2.1 fun x6=>
 A.l1 .b x3.2.2.2.1 fun x7=>
 A.cl qp qw (A.fI .iop 3 x1.1,()) fun x8=>
 A.cl Ux Uy (A.fI .iop 3 x1.1,()) fun x9=>
 A.cl XW XY (A.fI .iop 3 x1.1,()) fun x10=>
 A.cl Ux Uy (A.fI .iop 3 x1.1,()) fun x11=>
 A.l1 .b (A.ak (A.cmp .eql (A.fI .iop 0 x1.1) (A.lit 1)) x8.1 (A.ak (A.cmp .eql (A.fI .iop 0 x1.1) (A.lit 2)) x9.1 (A.ak (A.cmp .eql (A.fI .iop 0 x1.1) (A.lit 3)) x10.1 (A.ak (A.cmp .eql (A.fI .iop 0 x1.1) (A.lit 8)) x11.1 (A.bl false))))) fun x12=>
 A.cg x4.1 Np Nq (x.1,A.fI .iop 1 x1.1,x.2.1,()) fun x13=>
 A.cg (A.jQ (A.ak (A.ak x4.1 x13.1 (A.bl false)) (A.bl true) (A.ak (A.aA x4.1) (A.cmp .eql (A.fI .iop 1 x1.1) (A.lit 0)) (A.bl false))) x5.1) Np Nq (x.1,A.fI .iop 2 x1.1,x.2.1,()) fun x14=>
 A.cg (A.jQ (A.ak (A.ak (A.ak (A.ak x4.1 x13.1 (A.bl false)) (A.bl true) (A.ak (A.aA x4.1) (A.cmp .eql (A.fI .iop 1 x1.1) (A.lit 0)) (A.bl false))) (A.ak (A.ak x5.1 x14.1 (A.bl false)) (A.bl true) (A.ak (A.aA x5.1) (A.cmp .eql (A.fI .iop 2 x1.1) (A.lit 0)) (A.bl false))) (A.bl false)) (A.ak (A.ak x6.1 x12.1 (A.bl false)) (A.bl true) (A.ak (A.aA x6.1) (A.cmp .eql (A.fI .iop 3 x1.1) (A.lit 0)) (A.bl false))) (A.bl false)) x7.1) fZ gq (A.fI .iop 4 x1.1,A.lit 0,A.arith .sub .i64 (A.fI .blk 1 x.1) (A.lit 1),()) fun x15=>
 A.rb (A.ak (A.ak (A.ak (A.ak (A.ak x4.1 x13.1 (A.bl false)) (A.bl true) (A.ak (A.aA x4.1) (A.cmp .eql (A.fI .iop 1 x1.1) (A.lit 0)) (A.bl false))) (A.ak (A.ak x5.1 x14.1 (A.bl false)) (A.bl true) (A.ak (A.aA x5.1) (A.cmp .eql (A.fI .iop 2 x1.1) (A.lit 0)) (A.bl false))) (A.bl false)) (A.ak (A.ak x6.1 x12.1 (A.bl false)) (A.bl true) (A.ak (A.aA x6.1) (A.cmp .eql (A.fI .iop 3 x1.1) (A.lit 0)) (A.bl false))) (A.bl false)) (A.ak (A.ak x7.1 x15.1 (A.bl false)) (A.bl true) (A.ak (A.aA x7.1) (A.cmp .eql (A.fI .iop 4 x1.1) (A.lit 0)) (A.bl false))) (A.bl false))
def XZ (A:Alg) (x:Tup A.ah [.x .blk]):Ot A Bj:=
 A.l1 .b (A.bl false) fun x0=>
 A.l1 .b (A.bl false) fun x1=>
 A.l1 .b (A.bl false) fun x2=>
 A.l1 .b (A.cmp .neq (A.fI .blk 3 x.1) (A.lit 1)) fun x3=>
 A.l1 .b (A.cmp .geq (A.fI .blk 3 x.1) (A.lit 3)) fun x4=>
 A.l1 .b (A.cmp .neq (A.fI .blk 3 x.1) (A.lit 2)) fun x5=>
 A.ret _ (x3.1,x4.1,x5.1,())
def X0 (A:Alg) (X3:Pt A Bj) (X4:Ft A Bj) (Np:Pt A Bh) (Nq:Ft A Bh) (qp:Pt A jr) (qw:Ft A jr) (fZ:Pt A bY) (gq:Ft A bY) (x:Tup A.ah [.x .blk]):Ot A MK:=
 A.l1 .b (A.bl false) fun x0=>
 A.cl X3 X4 (x.1,()) fun x1=>
 A.l1 .b x1.1 fun x2=>
 A.l1 .b x1.2.1 fun x3=>
 A.l1 .b x1.2.2.1 fun x4=>
 A.cl fZ gq (A.fI .blk 3 x.1,A.lit 1,A.lit 4,()) fun x5=>
 A.cg (A.jQ x5.1 x2.1) Np Nq (x.1,A.fI .blk 4 x.1,A.len .iop (A.fL .blk 2 .iop x.1),()) fun x6=>
 A.cg (A.jQ (A.ak x5.1 (A.ak (A.ak x2.1 x6.1 (A.bl false)) (A.bl true) (A.ak (A.aA x2.1) (A.cmp .eql (A.fI .blk 4 x.1) (A.lit 0)) (A.bl false))) (A.bl false)) x3.1) Np Nq (x.1,A.fI .blk 5 x.1,A.len .iop (A.fL .blk 2 .iop x.1),()) fun x7=>
 A.cg (A.jQ (A.ak (A.ak x5.1 (A.ak (A.ak x2.1 x6.1 (A.bl false)) (A.bl true) (A.ak (A.aA x2.1) (A.cmp .eql (A.fI .blk 4 x.1) (A.lit 0)) (A.bl false))) (A.bl false)) (A.ak (A.ak x3.1 x7.1 (A.bl false)) (A.bl true) (A.ak (A.aA x3.1) (A.cmp .eql (A.fI .blk 5 x.1) (A.lit 0)) (A.bl false))) (A.bl false)) x4.1) qp qw (A.fI .blk 6 x.1,()) fun x8=>
 A.rb (A.ak (A.ak (A.ak x5.1 (A.ak (A.ak x2.1 x6.1 (A.bl false)) (A.bl true) (A.ak (A.aA x2.1) (A.cmp .eql (A.fI .blk 4 x.1) (A.lit 0)) (A.bl false))) (A.bl false)) (A.ak (A.ak x3.1 x7.1 (A.bl false)) (A.bl true) (A.ak (A.aA x3.1) (A.cmp .eql (A.fI .blk 5 x.1) (A.lit 0)) (A.bl false))) (A.bl false)) (A.ak (A.ak x4.1 x8.1 (A.bl false)) (A.bl true) (A.ak (A.aA x4.1) (A.cmp .eql (A.fI .blk 6 x.1) (A.lit 0)) (A.bl false))) (A.bl false))
def X5 (A:Alg) (alL:Pt A MK) (alM:Ft A MK) (alN:Pt A MJ) (alO:Ft A MJ) (fZ:Pt A bY) (gq:Ft A bY) (x:Tup A.ah [.x .blk]):Ot A Bn:=
 A.l1 .b (A.bl false) fun x0=>
 A.cl fZ gq (A.fI .blk 1 x.1,A.lit 1,A.lit 8,()) fun x1=>
 A.cg (A.aA (A.aA x1.1)) fZ gq (A.fI .blk 0 x.1,A.lit 0,A.arith .sub .i64 (A.lit 64) (A.fI .blk 1 x.1),()) fun x2=>
 A.cond (A.ak (A.ak (A.aA x1.1) (A.bl true) (A.aA x2.1)) (A.bl true) (A.cmp .gtr (A.len .iop (A.fL .blk 2 .iop x.1)) (A.lit 48))) (A.rb (A.bl false))<|
 A.iter [.i,.i,.x .blk] (fun x3=>
 A.cond (A.cmp .lss x3.2.1 x3.1) (A.l1 .i x3.2.1 fun x4=>
 A.cl alN alO (x3.2.2.1,x4.1,()) fun x5=>
 A.cond (A.aA x5.1) (A.l1 .b (A.bl false) fun x6=>
 A.inr _<|A.ret _ (x6.1,()))<|
 A.inl _ (x3.1,A.arith .add .i64 x3.2.1 (A.lit 1),x3.2.2.1,()))<|
 A.inr _<|A.cl alL alM (x3.2.2.1,()) fun x4=>
 A.rb x4.1) (A.len .iop (A.fL .blk 2 .iop x.1),A.lit 0,x.1,())
def X6 (A:Alg) (x:Tup A.ah [.x .blk,.x .blk]):Ot A ML:=
 A.l1 .b (A.bl false) fun x0=>
 A.cond (A.ak (A.ak (A.ak (A.ak (A.ak (A.ak (A.cmp .neq (A.fI .blk 0 x.1) (A.fI .blk 0 x.2.1)) (A.bl true) (A.cmp .neq (A.fI .blk 1 x.1) (A.fI .blk 1 x.2.1))) (A.bl true) (A.cmp .neq (A.fI .blk 3 x.1) (A.fI .blk 3 x.2.1))) (A.bl true) (A.cmp .neq (A.fI .blk 4 x.1) (A.fI .blk 4 x.2.1))) (A.bl true) (A.cmp .neq (A.fI .blk 5 x.1) (A.fI .blk 5 x.2.1))) (A.bl true) (A.cmp .neq (A.fI .blk 6 x.1) (A.fI .blk 6 x.2.1))) (A.bl true) (A.cmp .neq (A.len .iop (A.fL .blk 2 .iop x.1)) (A.len .iop (A.fL .blk 2 .iop x.2.1)))) (A.rb (A.bl false))<|
 A.l1 .i (A.lit 0) fun x1=>
 A.iter [.i,.x .blk,.x .blk] (fun x2=>
 A.cond (A.cmp .lss x2.1 (A.len .iop (A.fL .blk 2 .iop x2.2.1))) (A.bd .iop (A.fL .blk 2 .iop x2.2.1) x2.1<|
 A.bd .iop (A.fL .blk 2 .iop x2.2.2.1) x2.1<|
 A.cond (A.aA (A.eqX .iop (A.get .iop (A.fL .blk 2 .iop x2.2.1) x2.1) (A.get .iop (A.fL .blk 2 .iop x2.2.2.1) x2.1))) (A.l1 .b (A.bl false) fun x3=>
 A.inr _<|A.ret _ (x3.1,()))<|
 A.l1 .i (A.arith .add .i64 x2.1 (A.lit 1)) fun x3=>
 A.inl _ (x3.1,x2.2.1,x2.2.2.1,()))<|
 A.inr _<|A.rb (A.bl true)) (x1.1,x.1,x.2.1,())
def X7 (A:Alg) (qp:Pt A jr) (qw:Ft A jr) (x:Tup A.ah []):Ot A MN:=
 A.l1 .b (A.bl false) fun x0=>
 A.cl qp qw (A.lit 1,()) fun x1=>
 A.rb x1.1
def Q7 (A:Alg) (x:Tup A.ah [.l .iop,.l .iop]):Ot A EF:=
 A.l1 .b (A.bl false) fun x0=>
 A.cond (A.cmp .neq (A.len .iop x.1) (A.len .iop x.2.1)) (A.rb (A.bl false))<|
 A.iter [.l .iop,.l .iop,.i,.i] (fun x1=>
 A.cond (A.cmp .lss x1.2.2.2.1 x1.2.2.1) (A.l1 .i x1.2.2.2.1 fun x2=>
 A.bd .iop x1.1 x2.1<|
 A.bd .iop x1.2.1 x2.1<|
 A.cond (A.aA (A.eqX .iop (A.get .iop x1.1 x2.1) (A.get .iop x1.2.1 x2.1))) (A.l1 .b (A.bl false) fun x3=>
 A.inr _<|A.ret _ (x3.1,()))<|
 A.inl _ (x1.1,x1.2.1,x1.2.2.1,A.arith .add .i64 x1.2.2.2.1 (A.lit 1),()))<|
 A.inr _<|A.rb (A.bl true)) (x.1,x.2.1,A.len .iop x.1,A.lit 0,())
def X8 (A:Alg) (ae6:Pt A EF) (ae7:Ft A EF) (x:Tup A.ah [.x .blk,.x .blk]):Ot A Bo:=
 A.l1 .b (A.bl false) fun x0=>
 A.cg (A.ak (A.ak (A.ak (A.ak (A.ak (A.cmp .eql (A.fI .blk 0 x.1) (A.fI .blk 0 x.2.1)) (A.cmp .eql (A.fI .blk 1 x.1) (A.fI .blk 1 x.2.1)) (A.bl false)) (A.cmp .eql (A.fI .blk 3 x.1) (A.fI .blk 3 x.2.1)) (A.bl false)) (A.cmp .eql (A.fI .blk 4 x.1) (A.fI .blk 4 x.2.1)) (A.bl false)) (A.cmp .eql (A.fI .blk 5 x.1) (A.fI .blk 5 x.2.1)) (A.bl false)) (A.cmp .eql (A.fI .blk 6 x.1) (A.fI .blk 6 x.2.1)) (A.bl false)) ae6 ae7 (A.fL .blk 2 .iop x.1,A.fL .blk 2 .iop x.2.1,()) fun x1=>
 A.rb (A.ak (A.ak (A.ak (A.ak (A.ak (A.ak (A.cmp .eql (A.fI .blk 0 x.1) (A.fI .blk 0 x.2.1)) (A.cmp .eql (A.fI .blk 1 x.1) (A.fI .blk 1 x.2.1)) (A.bl false)) (A.cmp .eql (A.fI .blk 3 x.1) (A.fI .blk 3 x.2.1)) (A.bl false)) (A.cmp .eql (A.fI .blk 4 x.1) (A.fI .blk 4 x.2.1)) (A.bl false)) (A.cmp .eql (A.fI .blk 5 x.1) (A.fI .blk 5 x.2.1)) (A.bl false)) (A.cmp .eql (A.fI .blk 6 x.1) (A.fI .blk 6 x.2.1)) (A.bl false)) x1.1 (A.bl false))
def X9 (A:Alg) (x:Tup A.ah [.i,.i]):Ot A MO:=
 A.l1 .b (A.bl false) fun x0=>
 A.l1 .b (A.cmp .geq x.1 x.2.1) fun x1=>
 A.ret _ (x1.1,x.2.1,())
def Q8 (A:Alg) (alP:Pt A MO) (alQ:Ft A MO) (x:Tup A.ah [.l .i64,.i]):Ot A EG:=
 A.l1 .i (A.lit 0) fun x0=>
 A.iter [.l .i64,.i,.i,.i] (fun x1=>
 A.cond (A.cmp .lss x1.2.2.1 x1.2.1) (A.l1 .i x1.2.2.1 fun x2=>
 A.bd .i64 x1.1 x2.1<|
 A.cl alP alQ (A.fI .i64 0 (A.get .i64 x1.1 x2.1),x1.2.2.2.1,()) fun x3=>
 A.cond x3.1 (A.l1 .i x2.1 fun x4=>
 A.inr _<|A.ret _ (x4.1,x3.2.1,()))<|
 A.inl _ (x1.1,x1.2.1,A.arith .add .i64 x1.2.2.1 (A.lit 1),x3.2.1,()))<|
 A.inr _<|A.l1 .i (A.lit (-1)) fun x2=>
 A.ret _ (x2.1,x1.2.2.2.1,())) (x.1,A.len .i64 x.1,A.lit 0,x.2.1,())
def Q9 (A:Alg) (ae8:Pt A EG) (ae9:Ft A EG) (x:Tup A.ah [.l .i64,.i]):Ot A EH:=
 A.l1 .b (A.bl false) fun x0=>
 A.cl ae8 ae9 (x.1,x.2.1,()) fun x1=>
 A.l1 .b (A.cmp .geq x1.1 (A.lit 0)) fun x2=>
 A.ret _ (x2.1,x1.2.1,())
def Ya (A:Alg) (afa:Pt A EH) (afb:Ft A EH) (x:Tup A.ah [.x .poly,.i]):Ot A Bq:=
 A.l1 .b (A.bl false) fun x0=>
 A.iter [.l .mono,.i,.i,.i] (fun x1=>
 A.cond (A.cmp .lss x1.2.2.1 x1.2.1) (A.bd .mono x1.1 x1.2.2.1<|
 A.l1 (.x .mono) (A.get .mono x1.1 x1.2.2.1) fun x2=>
 A.cl afa afb (A.fL .mono 1 .i64 x2.1,x1.2.2.2.1,()) fun x3=>
 A.cond x3.1 (A.l1 .b (A.bl false) fun x4=>
 A.inr _<|A.ret _ (x4.1,()))<|
 A.inl _ (x1.1,x1.2.1,A.arith .add .i64 x1.2.2.1 (A.lit 1),x3.2.1,()))<|
 A.inr _<|A.rb (A.bl true)) (A.fL .poly 0 .mono x.1,A.len .mono (A.fL .poly 0 .mono x.1),A.lit 0,x.2.1,())
def afc (A:Alg) (x:Tup A.ah [.i]):Ot A MQ:=
 A.l1 .b (A.bl false) fun x0=>
 A.rb (A.cmp .neq x.1 x.1)
def afd (A:Alg) (Yb:Pt A MQ) (Yc:Ft A MQ) (x:Tup A.ah [.i,.i]):Ot A EI:=
 A.l1 .i (A.lit 0) fun x0=>
 A.cl Yb Yc (x.1,()) fun x1=>
 A.l1 .b x1.1 fun x2=>
 A.cl Yb Yc (x.2.1,()) fun x3=>
 A.l1 .b x3.1 fun x4=>
 A.cond x2.1 (A.cond x4.1 (A.l1 .i (A.lit 0) fun x5=>
 A.ret _ (x5.1,()))<|
 A.l1 .i (A.lit (-1)) fun x5=>
 A.ret _ (x5.1,()))<|
 A.cond x4.1 (A.l1 .i (A.lit 1) fun x5=>
 A.ret _ (x5.1,()))<|
 A.cond (A.cmp .lss x.1 x.2.1) (A.l1 .i (A.lit (-1)) fun x5=>
 A.ret _ (x5.1,()))<|
 A.cond (A.cmp .gtr x.1 x.2.1) (A.l1 .i (A.lit 1) fun x5=>
 A.ret _ (x5.1,()))<|
 A.l1 .i (A.lit 0) fun x5=>
 A.ret _ (x5.1,())
def afe (A:Alg) (x:Tup A.ah [.l .i64]):Ot A MR:=
 A.l1 .i (A.lit 0) fun x0=>
 A.l1 .i (A.lit 0) fun x1=>
 A.iter [.i,.l .i64,.i,.i] (fun x2=>
 A.cond (A.cmp .lss x2.2.2.2.1 x2.2.2.1) (A.bd .i64 x2.2.1 x2.2.2.2.1<|
 A.l1 .i (A.fI .i64 0 (A.get .i64 x2.2.1 x2.2.2.2.1)) fun x3=>
 A.cond (A.cmp .neq x3.1 x2.1) (A.l1 .i x3.1 fun x4=>
 A.inr _<|A.ret _ (x4.1,()))<|
 A.inl _ (x2.1,x2.2.1,x2.2.2.1,A.arith .add .i64 x2.2.2.2.1 (A.lit 1),()))<|
 A.inr _<|A.l1 .i x2.1 fun x3=>
 A.ret _ (x3.1,())) (x1.1,x.1,A.len .i64 x.1,A.lit 0,())
def Yd (A:Alg) (V7:Pt A EI) (V8:Ft A EI) (x:Tup A.ah [.l .i64,.l .i64]):Ot A MS:=
 A.l1 .i (A.lit 0) fun x0=>
 A.iter [.l .i64,.l .i64,.l .i64,.i,.i] (fun x1=>
 A.cond (A.cmp .lss x1.q.1 x1.2.2.2.1) (A.bd .i64 x1.2.2.1 x1.q.1<|
 A.l1 .i x1.q.1 fun x2=>
 A.l1 .i (A.fI .i64 0 (A.get .i64 x1.2.2.1 x1.q.1)) fun x3=>
 A.cond (A.cmp .geq x2.1 (A.len .i64 x1.2.1)) (A.l1 .i (A.lit 1) fun x4=>
 A.inr _<|A.ret _ (x4.1,()))<|
 A.bd .i64 x1.2.1 x2.1<|
 A.l1 .i (A.fI .i64 0 (A.get .i64 x1.2.1 x2.1)) fun x4=>
 A.cl V7 V8 (x3.1,x4.1,()) fun x5=>
 A.l1 .i x5.1 fun x6=>
 A.cond (A.cmp .neq x6.1 (A.lit 0)) (A.l1 .i x6.1 fun x7=>
 A.inr _<|A.ret _ (x7.1,()))<|
 A.inl _ (x1.1,x1.2.1,x1.2.2.1,x1.2.2.2.1,A.arith .add .i64 x1.q.1 (A.lit 1),()))<|
 A.inr _<|A.cond (A.cmp .lss (A.len .i64 x1.1) (A.len .i64 x1.2.1)) (A.l1 .i (A.lit (-1)) fun x2=>
 A.ret _ (x2.1,()))<|
 A.l1 .i (A.lit 0) fun x2=>
 A.ret _ (x2.1,())) (x.1,x.2.1,x.1,A.len .i64 x.1,A.lit 0,())
def Ye (A:Alg) (aff:Pt A MR) (afg:Ft A MR) (V7:Pt A EI) (V8:Ft A EI) (alR:Pt A MS) (alS:Ft A MS) (x:Tup A.ah [.l .i64,.l .i64]):Ot A nX:=
 A.l1 .i (A.lit 0) fun x0=>
 A.cl V7 V8 (A.len .i64 x.1,A.len .i64 x.2.1,()) fun x1=>
 A.cl alR alS (x.1,x.2.1,()) fun x2=>
 A.l1 (.l .i64) (A.lst .i64 [A.mkX .i64 (x1.1,()),A.mkX .i64 (x2.1,())]) fun x3=>
 A.cl aff afg (x3.1,()) fun x4=>
 A.l1 .i x4.1 fun x5=>
 A.ret _ (x5.1,())
def afh (A:Alg) (Yb:Pt A MQ) (Yc:Ft A MQ) (x:Tup A.ah [.i,.i]):Ot A EJ:=
 A.l1 .b (A.bl false) fun x0=>
 A.cl Yb Yc (x.1,()) fun x1=>
 A.cg x1.1 Yb Yc (x.2.1,()) fun x2=>
 A.rb (A.ak (A.ak x1.1 (A.aA x2.1) (A.bl false)) (A.bl true) (A.cmp .lss x.1 x.2.1))
def Ra (A:Alg) (Yf:Pt A EJ) (Yg:Ft A EJ) (x:Tup A.ah [.l .i64]):Ot A EK:=
 A.l1 .b (A.bl false) fun x0=>
 A.l1 .i (A.arith .sub .i64 (A.len .i64 x.1) (A.lit 1)) fun x1=>
 A.iter [.l .i64,.i] (fun x2=>
 A.cond (A.cmp .gtr x2.2.1 (A.lit 0)) (A.bd .i64 x2.1 x2.2.1<|
 A.bd .i64 x2.1 (A.arith .sub .i64 x2.2.1 (A.lit 1))<|
 A.cl Yf Yg (A.fI .i64 0 (A.get .i64 x2.1 x2.2.1),A.fI .i64 0 (A.get .i64 x2.1 (A.arith .sub .i64 x2.2.1 (A.lit 1))),()) fun x3=>
 A.cond x3.1 (A.l1 .b (A.bl false) fun x4=>
 A.inr _<|A.ret _ (x4.1,()))<|
 A.l1 .i (A.arith .sub .i64 x2.2.1 (A.lit 1)) fun x4=>
 A.inl _ (x2.1,x4.1,()))<|
 A.inr _<|A.rb (A.bl true)) (x.1,x1.1,())
def Yh (A:Alg) (x:Tup A.ah [.x .mono]):Ot A MU:=
 A.l1 .b (A.bl false) fun x0=>
 A.chk (A.orB (A.aA (A.cmp .gtr (A.len .i64 (A.fL .mono 1 .i64 x.1)) (A.lit 0))) (A.cmp .leq (A.lit 0) (A.lit 0)))<|
 A.chk (A.orB (A.aA (A.cmp .gtr (A.len .i64 (A.fL .mono 1 .i64 x.1)) (A.lit 0))) (A.cmp .lss (A.lit 0) (A.len .i64 (A.fL .mono 1 .i64 x.1))))<|
 A.rb (A.ak (A.cmp .gtr (A.len .i64 (A.fL .mono 1 .i64 x.1)) (A.lit 0)) (A.cmp .lss (A.fI .i64 0 (A.get .i64 (A.fL .mono 1 .i64 x.1) (A.lit 0))) (A.lit 0)) (A.bl false))
def Rb (A:Alg) (alT:Pt A MU) (alU:Ft A MU) (x:Tup A.ah [.l .mono]):Ot A EL:=
 A.l1 .i (A.lit 0) fun x0=>
 A.iter [.l .mono,.i,.i] (fun x1=>
 A.cond (A.cmp .lss x1.2.2.1 x1.2.1) (A.l1 .i x1.2.2.1 fun x2=>
 A.bd .mono x1.1 x2.1<|
 A.cl alT alU (A.get .mono x1.1 x2.1,()) fun x3=>
 A.cond x3.1 (A.l1 .i x2.1 fun x4=>
 A.inr _<|A.ret _ (x4.1,()))<|
 A.inl _ (x1.1,x1.2.1,A.arith .add .i64 x1.2.2.1 (A.lit 1),()))<|
 A.inr _<|A.l1 .i (A.lit (-1)) fun x2=>
 A.ret _ (x2.1,())) (x.1,A.len .mono x.1,A.lit 0,())
def Rc (A:Alg) (afi:Pt A EL) (afj:Ft A EL) (x:Tup A.ah [.l .mono]):Ot A EM:=
 A.l1 .b (A.bl false) fun x0=>
 A.cl afi afj (x.1,()) fun x1=>
 A.rb (A.cmp .geq x1.1 (A.lit 0))
def Yi (A:Alg) (fZ:Pt A bY) (gq:Ft A bY) (Uz:Pt A Bq) (UA:Ft A Bq) (afk:Pt A EK) (afl:Ft A EK) (FN:Pt A nX) (FP:Ft A nX) (afm:Pt A EM) (afn:Ft A EM) (x:Tup A.ah [.x .poly]):Ot A iG:=
 A.l1 .b (A.bl false) fun x0=>
 A.iter [.l .mono,.i,.i,.x .poly] (fun x1=>
 A.cond (A.cmp .lss x1.2.2.1 x1.2.1) (A.bd .mono x1.1 x1.2.2.1<|
 A.l1 .i x1.2.2.1 fun x2=>
 A.l1 (.x .mono) (A.get .mono x1.1 x1.2.2.1) fun x3=>
 A.cl fZ gq (A.fI .mono 0 x3.1,A.lit 1,A.lit 65535,()) fun x4=>
 A.cg (A.aA (A.ak (A.aA x4.1) (A.bl true) (A.cmp .gtr (A.len .i64 (A.fL .mono 1 .i64 x3.1)) (A.lit 4)))) afk afl (A.fL .mono 1 .i64 x3.1,()) fun x5=>
 A.chk (A.orB (A.aA (A.jQ (A.aA (A.ak (A.ak (A.aA x4.1) (A.bl true) (A.cmp .gtr (A.len .i64 (A.fL .mono 1 .i64 x3.1)) (A.lit 4))) (A.bl true) (A.aA x5.1))) (A.cmp .gtr x2.1 (A.lit 0)))) (A.cmp .leq (A.lit 0) (A.arith .sub .i64 x2.1 (A.lit 1))))<|
 A.chk (A.orB (A.aA (A.jQ (A.aA (A.ak (A.ak (A.aA x4.1) (A.bl true) (A.cmp .gtr (A.len .i64 (A.fL .mono 1 .i64 x3.1)) (A.lit 4))) (A.bl true) (A.aA x5.1))) (A.cmp .gtr x2.1 (A.lit 0)))) (A.cmp .lss (A.arith .sub .i64 x2.1 (A.lit 1)) (A.len .mono (A.fL .poly 0 .mono x1.2.2.2.1))))<|
 A.cg (A.jQ (A.aA (A.ak (A.ak (A.aA x4.1) (A.bl true) (A.cmp .gtr (A.len .i64 (A.fL .mono 1 .i64 x3.1)) (A.lit 4))) (A.bl true) (A.aA x5.1))) (A.cmp .gtr x2.1 (A.lit 0))) FN FP (A.fL .mono 1 .i64 (A.get .mono (A.fL .poly 0 .mono x1.2.2.2.1) (A.arith .sub .i64 x2.1 (A.lit 1))),A.fL .mono 1 .i64 x3.1,()) fun x6=>
 A.cond (A.ak (A.ak (A.ak (A.aA x4.1) (A.bl true) (A.cmp .gtr (A.len .i64 (A.fL .mono 1 .i64 x3.1)) (A.lit 4))) (A.bl true) (A.aA x5.1)) (A.bl true) (A.ak (A.cmp .gtr x2.1 (A.lit 0)) (A.cmp .geq x6.1 (A.lit 0)) (A.bl false))) (A.l1 .b (A.bl false) fun x7=>
 A.inr _<|A.ret _ (x7.1,()))<|
 A.inl _ (x1.1,x1.2.1,A.arith .add .i64 x1.2.2.1 (A.lit 1),x1.2.2.2.1,()))<|
 A.inr _<|A.cg (A.cmp .leq (A.len .mono (A.fL .poly 0 .mono x1.2.2.2.1)) (A.lit 12)) Uz UA (x1.2.2.2.1,A.lit 200,()) fun x2=>
 A.cg (A.ak (A.cmp .leq (A.len .mono (A.fL .poly 0 .mono x1.2.2.2.1)) (A.lit 12)) x2.1 (A.bl false)) afm afn (A.fL .poly 0 .mono x1.2.2.2.1,()) fun x3=>
 A.rb (A.ak (A.ak (A.cmp .leq (A.len .mono (A.fL .poly 0 .mono x1.2.2.2.1)) (A.lit 12)) x2.1 (A.bl false)) (A.aA x3.1) (A.bl false))) (A.fL .poly 0 .mono x.1,A.len .mono (A.fL .poly 0 .mono x.1),A.lit 0,x.1,())
def Yj (A:Alg) (fZ:Pt A bY) (gq:Ft A bY) (XW:Pt A Bg) (XY:Ft A Bg) (Uz:Pt A Bq) (UA:Ft A Bq) (kL:Pt A iG) (kM:Ft A iG) (Ux:Pt A Bf) (Uy:Ft A Bf) (x:Tup A.ah [.x .atom,.i]):Ot A Br:=
 A.l1 .b (A.bl false) fun x0=>
 A.cond (A.cmp .eql (A.fI .atom 0 x.1) (A.lit 4)) (A.cl XW XY (A.fI .atom 1 x.1,()) fun x1=>
 A.cg x1.1 kL kM (A.mkX .poly (A.fL .atom 2 .mono x.1,()),()) fun x2=>
 A.cg (A.ak x1.1 x2.1 (A.bl false)) kL kM (A.mkX .poly (A.fL .atom 3 .mono x.1,()),()) fun x3=>
 A.cg (A.ak (A.ak x1.1 x2.1 (A.bl false)) x3.1 (A.bl false)) Uz UA (A.mkX .poly (A.fL .atom 2 .mono x.1,()),x.2.1,()) fun x4=>
 A.cg (A.ak (A.ak (A.ak x1.1 x2.1 (A.bl false)) x3.1 (A.bl false)) x4.1 (A.bl false)) Uz UA (A.mkX .poly (A.fL .atom 3 .mono x.1,()),x.2.1,()) fun x5=>
 A.rb (A.ak (A.ak (A.ak (A.ak x1.1 x2.1 (A.bl false)) x3.1 (A.bl false)) x4.1 (A.bl false)) x5.1 (A.bl false)))<|
 A.cond (A.cmp .gtr (A.arith .add .i64 (A.len .mono (A.fL .atom 2 .mono x.1)) (A.len .mono (A.fL .atom 3 .mono x.1))) (A.lit 0)) (A.rb (A.bl false))<|
 A.cg (A.cmp .eql (A.fI .atom 0 x.1) (A.lit 1)) Ux Uy (A.fI .atom 1 x.1,()) fun x1=>
 A.cg (A.jQ (A.aA (A.ak (A.cmp .eql (A.fI .atom 0 x.1) (A.lit 1)) x1.1 (A.bl false))) (A.ak (A.cmp .eql (A.fI .atom 0 x.1) (A.lit 2)) (A.bl true) (A.cmp .eql (A.fI .atom 0 x.1) (A.lit 3)))) fZ gq (A.fI .atom 1 x.1,A.lit 0,A.lit 199,()) fun x2=>
 A.rb (A.ak (A.ak (A.cmp .eql (A.fI .atom 0 x.1) (A.lit 1)) x1.1 (A.bl false)) (A.bl true) (A.ak (A.ak (A.cmp .eql (A.fI .atom 0 x.1) (A.lit 2)) (A.bl true) (A.cmp .eql (A.fI .atom 0 x.1) (A.lit 3))) x2.1 (A.bl false)))
def Yk (A:Alg) (aff:Pt A MR) (afg:Ft A MR) (V7:Pt A EI) (V8:Ft A EI) (FN:Pt A nX) (FP:Ft A nX) (x:Tup A.ah [.x .poly,.x .poly]):Ot A um:=
 A.l1 .i (A.lit 0) fun x0=>
 A.cl V7 V8 (A.len .mono (A.fL .poly 0 .mono x.1),A.len .mono (A.fL .poly 0 .mono x.2.1),()) fun x1=>
 A.l1 .i x1.1 fun x2=>
 A.cond (A.cmp .neq x2.1 (A.lit 0)) (A.l1 .i x2.1 fun x3=>
 A.ret _ (x3.1,()))<|
 A.iter [.l .mono,.i,.i,.x .poly] (fun x3=>
 A.cond (A.cmp .lss x3.2.2.1 x3.2.1) (A.bd .mono x3.1 x3.2.2.1<|
 A.l1 .i x3.2.2.1 fun x4=>
 A.l1 (.x .mono) (A.get .mono x3.1 x3.2.2.1) fun x5=>
 A.bd .mono (A.fL .poly 0 .mono x3.2.2.2.1) x4.1<|
 A.bd .mono (A.fL .poly 0 .mono x3.2.2.2.1) x4.1<|
 A.cl FN FP (A.fL .mono 1 .i64 x5.1,A.fL .mono 1 .i64 (A.get .mono (A.fL .poly 0 .mono x3.2.2.2.1) x4.1),()) fun x6=>
 A.cl V7 V8 (A.fI .mono 0 x5.1,A.fI .mono 0 (A.get .mono (A.fL .poly 0 .mono x3.2.2.2.1) x4.1),()) fun x7=>
 A.cl aff afg (A.lst .i64 [A.mkX .i64 (x6.1,()),A.mkX .i64 (x7.1,())],()) fun x8=>
 A.l1 .i x8.1 fun x9=>
 A.cond (A.cmp .neq x9.1 (A.lit 0)) (A.l1 .i x9.1 fun x10=>
 A.inr _<|A.ret _ (x10.1,()))<|
 A.inl _ (x3.1,x3.2.1,A.arith .add .i64 x3.2.2.1 (A.lit 1),x3.2.2.2.1,()))<|
 A.inr _<|A.l1 .i (A.lit 0) fun x4=>
 A.ret _ (x4.1,())) (A.fL .poly 0 .mono x.1,A.len .mono (A.fL .poly 0 .mono x.1),A.lit 0,x.2.1,())
def Yl (A:Alg) (Nr:Pt A um) (Ns:Ft A um) (x:Tup A.ah [.x .poly,.x .poly]):Ot A jv:=
 A.l1 .b (A.bl false) fun x0=>
 A.cl Nr Ns (x.1,x.2.1,()) fun x1=>
 A.rb (A.cmp .eql x1.1 (A.lit 0))
def Ym (A:Alg) (lH:Pt A jv) (lI:Ft A jv) (x:Tup A.ah [.x .atom,.x .atom]):Ot A MV:=
 A.l1 .b (A.bl false) fun x0=>
 A.cg (A.ak (A.cmp .eql (A.fI .atom 0 x.1) (A.fI .atom 0 x.2.1)) (A.cmp .eql (A.fI .atom 1 x.1) (A.fI .atom 1 x.2.1)) (A.bl false)) lH lI (A.mkX .poly (A.fL .atom 2 .mono x.1,()),A.mkX .poly (A.fL .atom 2 .mono x.2.1,()),()) fun x1=>
 A.cg (A.ak (A.ak (A.cmp .eql (A.fI .atom 0 x.1) (A.fI .atom 0 x.2.1)) (A.cmp .eql (A.fI .atom 1 x.1) (A.fI .atom 1 x.2.1)) (A.bl false)) x1.1 (A.bl false)) lH lI (A.mkX .poly (A.fL .atom 3 .mono x.1,()),A.mkX .poly (A.fL .atom 3 .mono x.2.1,()),()) fun x2=>
 A.rb (A.ak (A.ak (A.ak (A.cmp .eql (A.fI .atom 0 x.1) (A.fI .atom 0 x.2.1)) (A.cmp .eql (A.fI .atom 1 x.1) (A.fI .atom 1 x.2.1)) (A.bl false)) x1.1 (A.bl false)) x2.1 (A.bl false))
def Yn (A:Alg) (alV:Pt A MV) (alW:Ft A MV) (x:Tup A.ah [.x .atom,.x .atom]):Ot A MW:=
 A.l1 .b (A.bl false) fun x0=>
 A.cl alV alW (x.2.1,x.1,()) fun x1=>
 A.l1 .b x1.1 fun x2=>
 A.ret _ (x2.1,x.2.1,())
def Rf (A:Alg) (alX:Pt A MW) (alY:Ft A MW) (x:Tup A.ah [.l .atom,.x .atom]):Ot A EN:=
 A.l1 .i (A.lit 0) fun x0=>
 A.iter [.l .atom,.i,.i,.x .atom] (fun x1=>
 A.cond (A.cmp .lss x1.2.2.1 x1.2.1) (A.l1 .i x1.2.2.1 fun x2=>
 A.bd .atom x1.1 x2.1<|
 A.cl alX alY (A.get .atom x1.1 x2.1,x1.2.2.2.1,()) fun x3=>
 A.cond x3.1 (A.l1 .i x2.1 fun x4=>
 A.inr _<|A.ret _ (x4.1,x3.2.1,()))<|
 A.inl _ (x1.1,x1.2.1,A.arith .add .i64 x1.2.2.1 (A.lit 1),x3.2.1,()))<|
 A.inr _<|A.l1 .i (A.lit (-1)) fun x2=>
 A.ret _ (x2.1,x1.2.2.2.1,())) (x.1,A.len .atom x.1,A.lit 0,x.2.1,())
def Yo (A:Alg) (afo:Pt A EN) (afp:Ft A EN) (x:Tup A.ah [.x .tab,.x .atom]):Ot A Bu:=
 A.l1 .i (A.lit 0) fun x0=>
 A.cl afo afp (A.fL .tab 0 .atom x.1,x.2.1,()) fun x1=>
 A.l1 .i x1.1 fun x2=>
 A.ret _ (x2.1,())
def Yp (A:Alg) (x:Tup A.ah [.l .atom]):Ot A MX:=
 A.chk (A.cmp .leq (A.lit 0) (A.lit 0))<|
 A.chk (A.cmp .leq (A.lit 0) (A.len .atom x.1))<|
 A.chk (A.cmp .leq (A.len .atom x.1) (A.len .atom x.1))<|
 A.chk (A.cmp .eql (A.len .atom x.1) (A.len .atom x.1))<|
 A.ret _ (A.sub .atom x.1 (A.lit 0) (A.len .atom x.1),())
def Yq (A:Alg) (Yr:Pt A Br) (Yt:Ft A Br) (Yu:Pt A Bu) (Yv:Ft A Bu) (alZ:Pt A MX) (al0:Ft A MX) (x:Tup A.ah [.x .tab,.x .atom]):Ot A Bv:=
 A.l1 .i (A.lit 0) fun x0=>
 A.cl Yu Yv (x.1,x.2.1,()) fun x1=>
 A.l1 .i x1.1 fun x2=>
 A.cond (A.cmp .geq x2.1 (A.lit 0)) (A.l1 (.x .tab) x.1 fun x3=>
 A.l1 .i x2.1 fun x4=>
 A.ret _ (x3.1,x4.1,()))<|
 A.cl Yr Yt (x.2.1,A.len .atom (A.fL .tab 0 .atom x.1),()) fun x3=>
 A.cond (A.ak (A.aA x3.1) (A.bl true) (A.cmp .eql (A.len .atom (A.fL .tab 0 .atom x.1)) (A.lit 200))) (A.l1 (.x .tab) x.1 fun x4=>
 A.l1 .i (A.lit (-1)) fun x5=>
 A.ret _ (x4.1,x5.1,()))<|
 A.cl alZ al0 (A.fL .tab 0 .atom x.1,()) fun x4=>
 A.chk (A.orB (A.cmp .lss (A.lit 0) (A.len .atom (A.lst .atom [x.2.1]))) (A.cmp .eql (A.len .atom x4.1) (A.lit 0)))<|
 A.chk (A.cmp .leq (A.addN (A.len .atom x4.1) (A.len .atom (A.lst .atom [x.2.1]))) (A.lit 1073741824))<|
 A.l1 (.l .atom) (A.app .atom x4.1 (A.lst .atom [x.2.1])) fun x5=>
 A.l1 .i (A.len .atom (A.fL .tab 0 .atom x.1)) fun x6=>
 A.ret _ (A.mkX .tab (x5.1,()),x6.1,())
def Yw (A:Alg) (fZ:Pt A bY) (gq:Ft A bY) (x:Tup A.ah [.i]):Ot A Bw:=
 A.cl fZ gq (x.1,A.lit 0,A.lit 199,()) fun x0=>
 A.cond (A.aA x0.1) (A.ret _ (A.bV .mono,()))<|
 A.l1 (.l .i64) (A.lst .i64 [A.mkX .i64 (x.1,())]) fun x1=>
 A.l1 (.l .mono) (A.lst .mono [A.mkX .mono (A.lit 1,x1.1,())]) fun x2=>
 A.ret _ (x2.1,())
def Yx (A:Alg) (Yy:Pt A Bw) (Yz:Ft A Bw) (YA:Pt A Bv) (YB:Ft A Bv) (x:Tup A.ah [.i,.i,.l .atom,.b]):Ot A Bz:=
 A.cl YA YB (A.mkX .tab (x.2.2.1,()),A.mkX .atom (x.1,x.2.1,A.bV .mono,A.bV .mono,()),()) fun x0=>
 A.l1 (.x .tab) x0.1 fun x1=>
 A.l1 .i x0.2.1 fun x2=>
 A.cond (A.cmp .lss x2.1 (A.lit 0)) (A.l1 .b (A.bl true) fun x3=>
 A.ret _ (A.mkX .poly (A.bV .mono,()),x.2.2.1,x3.1,()))<|
 A.l1 (.x .tab) x1.1 fun x3=>
 A.cl Yy Yz (x2.1,()) fun x4=>
 A.ret _ (A.mkX .poly (x4.1,()),A.fL .tab 0 .atom x3.1,x.2.2.2.1,())
def YC (A:Alg) (UC:Pt A Bz) (UD:Ft A Bz) (x:Tup A.ah [.l .atom,.b]):Ot A BA:=
 A.iter [.i,.l .atom,.b,.l .poly] (fun x0=>
 A.cond (A.cmp .lss x0.1 (A.lit 4)) (A.l1 .i x0.1 fun x1=>
 A.cl UC UD (A.lit 1,x1.1,x0.2.1,x0.2.2.1,()) fun x2=>
 A.l1 (.l .poly) (A.lst .poly [x2.1]) fun x3=>
 A.chk (A.cmp .leq (A.addN (A.len .poly x0.2.2.2.1) (A.len .poly x3.1)) (A.lit 1073741824))<|
 A.l1 (.l .poly) (A.app .poly x0.2.2.2.1 x3.1) fun x4=>
 A.inl _ (A.arith .add .i64 x0.1 (A.lit 1),x2.2.1,x2.2.2.1,x4.1,()))<|
 A.inr _<|A.ret _ (x0.2.1,x0.2.2.1,x0.2.2.2.1,())) (A.lit 0,x.1,x.2.1,A.bV .poly,())
def YD (A:Alg) (x:Tup A.ah [.l .i64]):Ot A BD:=
 A.chk (A.cmp .leq (A.len .i64 x.1) (A.lit 1073741824))<|
 A.l1 (.l .i64) x.1 fun x0=>
 A.ret _ (x0.1,())
def YE (A:Alg) (YF:Pt A BD) (YG:Ft A BD) (x:Tup A.ah [.x .poly]):Ot A uo:=
 A.iter [.l .mono,.i,.i,.l .mono] (fun x0=>
 A.cond (A.cmp .lss x0.2.2.1 x0.2.1) (A.bd .mono x0.1 x0.2.2.1<|
 A.l1 (.x .mono) (A.get .mono x0.1 x0.2.2.1) fun x1=>
 A.cl YF YG (A.fL .mono 1 .i64 x1.1,()) fun x2=>
 A.l1 (.l .mono) (A.lst .mono [A.mkX .mono (A.fI .mono 0 x1.1,x2.1,())]) fun x3=>
 A.chk (A.cmp .leq (A.addN (A.len .mono x0.2.2.2.1) (A.len .mono x3.1)) (A.lit 1073741824))<|
 A.l1 (.l .mono) (A.app .mono x0.2.2.2.1 x3.1) fun x4=>
 A.inl _ (x0.1,x0.2.1,A.arith .add .i64 x0.2.2.1 (A.lit 1),x4.1,()))<|
 A.inr _<|A.ret _ (x0.2.2.2.1,())) (A.fL .poly 0 .mono x.1,A.len .mono (A.fL .poly 0 .mono x.1),A.lit 0,A.bV .mono,())
def YH (A:Alg) (zf:Pt A uo) (zh:Ft A uo) (x:Tup A.ah [.x .tab]):Ot A BF:=
 A.iter [.l .atom,.i,.i,.l .atom] (fun x0=>
 A.cond (A.cmp .lss x0.2.2.1 x0.2.1) (A.bd .atom x0.1 x0.2.2.1<|
 A.l1 (.x .atom) (A.get .atom x0.1 x0.2.2.1) fun x1=>
 A.cl zf zh (A.mkX .poly (A.fL .atom 2 .mono x1.1,()),()) fun x2=>
 A.cl zf zh (A.mkX .poly (A.fL .atom 3 .mono x1.1,()),()) fun x3=>
 A.l1 (.l .atom) (A.lst .atom [A.mkX .atom (A.fI .atom 0 x1.1,A.fI .atom 1 x1.1,x2.1,x3.1,())]) fun x4=>
 A.chk (A.cmp .leq (A.addN (A.len .atom x0.2.2.2.1) (A.len .atom x4.1)) (A.lit 1073741824))<|
 A.l1 (.l .atom) (A.app .atom x0.2.2.2.1 x4.1) fun x5=>
 A.inl _ (x0.1,x0.2.1,A.arith .add .i64 x0.2.2.1 (A.lit 1),x5.1,()))<|
 A.inr _<|A.ret _ (x0.2.2.2.1,())) (A.fL .tab 0 .atom x.1,A.len .atom (A.fL .tab 0 .atom x.1),A.lit 0,A.bV .atom,())
def YI (A:Alg) (YJ:Pt A BF) (YK:Ft A BF) (YL:Pt A BA) (YM:Ft A BA) (x:Tup A.ah []):Ot A MZ:=
 A.cl YL YM (A.bV .atom,A.bl false,()) fun x0=>
 A.cl YJ YK (A.mkX .tab (x0.1,()),()) fun x1=>
 A.ret _ (A.mkX .tab (x1.1,()),x0.2.2.1,())
def YN (A:Alg) (fZ:Pt A bY) (gq:Ft A bY) (x:Tup A.ah [.x .iop]):Ot A M0:=
 A.l1 .b (A.bl false) fun x0=>
 A.cl fZ gq (A.fI .iop 0 x.1,A.lit 4,A.lit 7,()) fun x1=>
 A.rb x1.1
def YO (A:Alg) (Yr:Pt A Br) (Yt:Ft A Br) (Yu:Pt A Bu) (Yv:Ft A Bu) (x:Tup A.ah [.x .tab]):Ot A M4:=
 A.l1 .b (A.bl false) fun x0=>
 A.iter [.l .atom,.i,.i,.x .tab] (fun x1=>
 A.cond (A.cmp .lss x1.2.2.1 x1.2.1) (A.bd .atom x1.1 x1.2.2.1<|
 A.l1 .i x1.2.2.1 fun x2=>
 A.l1 (.x .atom) (A.get .atom x1.1 x1.2.2.1) fun x3=>
 A.cl Yr Yt (x3.1,x2.1,()) fun x4=>
 A.cg (A.aA (A.aA x4.1)) Yu Yv (x1.2.2.2.1,x3.1,()) fun x5=>
 A.cond (A.ak (A.aA x4.1) (A.bl true) (A.cmp .neq x5.1 x2.1)) (A.l1 .b (A.bl false) fun x6=>
 A.inr _<|A.ret _ (x6.1,()))<|
 A.inl _ (x1.1,x1.2.1,A.arith .add .i64 x1.2.2.1 (A.lit 1),x1.2.2.2.1,()))<|
 A.inr _<|A.rb (A.cmp .leq (A.len .atom (A.fL .tab 0 .atom x1.2.2.2.1)) (A.lit 200))) (A.fL .tab 0 .atom x.1,A.len .atom (A.fL .tab 0 .atom x.1),A.lit 0,x.1,())
def YP (A:Alg) (x:Tup A.ah [.l .poly]):Ot A M5:=
 A.chk (A.cmp .neq (A.len .poly x.1) (A.lit 0))<|
 A.cond (A.bl false) (A.ret _ (x.1,A.bV .poly,()))<|
 A.l1 (.l .poly) (A.lst .poly []) fun x0=>
 A.chk (A.cmp .leq (A.addN (A.len .poly x0.1) (A.len .poly x.1)) (A.lit 1073741824))<|
 A.l1 (.l .poly) (A.app .poly x0.1 x.1) fun x1=>
 A.ret _ (x.1,x1.1,())
def YQ (A:Alg) (fZ:Pt A bY) (gq:Ft A bY) (x:Tup A.ah [.i]):Ot A uw:=
 A.cl fZ gq (x.1,A.lit 1,A.lit 65535,()) fun x0=>
 A.cond (A.aA x0.1) (A.ret _ (A.bV .mono,()))<|
 A.l1 (.l .mono) (A.lst .mono [A.mkX .mono (x.1,A.bV .i64,())]) fun x1=>
 A.ret _ (x1.1,())
def YR (A:Alg) (x:Tup A.ah [.i]):Ot A uz:=
 A.l1 .i (A.lit 0) fun x0=>
 A.l1 .i (A.arith .and .i64 x.1 (A.lit 65535)) fun x1=>
 A.ret _ (x1.1,())
def YS (A:Alg) (qp:Pt A jr) (qw:Ft A jr) (FQ:Pt A uz) (FR:Ft A uz) (x:Tup A.ah [.i,.i,.i]):Ot A M6:=
 A.l1 .i (A.lit 0) fun x0=>
 A.cl qp qw (x.2.1,()) fun x1=>
 A.cg (A.aA (A.aA x1.1)) qp qw (x.2.2.1,()) fun x2=>
 A.cond (A.ak (A.aA x1.1) (A.bl true) (A.aA x2.1)) (A.l1 .i (A.lit 0) fun x3=>
 A.ret _ (x3.1,()))<|
 A.l1 .b (A.cmp .eql x.1 (A.lit 1)) fun x3=>
 A.cond x3.1 (A.cl FQ FR (A.arith .add .i64 x.2.1 x.2.2.1,()) fun x4=>
 A.l1 .i x4.1 fun x5=>
 A.ret _ (x5.1,()))<|
 A.l1 .b (A.cmp .eql x.1 (A.lit 2)) fun x4=>
 A.cond x4.1 (A.cl FQ FR (A.arith .sub .i64 x.2.1 x.2.2.1,()) fun x5=>
 A.l1 .i x5.1 fun x6=>
 A.ret _ (x6.1,()))<|
 A.l1 .b (A.cmp .eql x.1 (A.lit 3)) fun x5=>
 A.cond x5.1 (A.cl FQ FR (A.arith .mul .i64 x.2.1 x.2.2.1,()) fun x6=>
 A.l1 .i x6.1 fun x7=>
 A.ret _ (x7.1,()))<|
 A.l1 .b (A.cmp .eql x.1 (A.lit 4)) fun x6=>
 A.cond x6.1 (A.l1 .i (A.arith .and .i64 x.2.1 x.2.2.1) fun x7=>
 A.ret _ (x7.1,()))<|
 A.l1 .b (A.cmp .eql x.1 (A.lit 5)) fun x7=>
 A.cond x7.1 (A.l1 .i (A.arith .xor .i64 x.2.1 x.2.2.1) fun x8=>
 A.ret _ (x8.1,()))<|
 A.l1 .i (A.lit 0) fun x8=>
 A.ret _ (x8.1,())
def YT (A:Alg) (kL:Pt A iG) (kM:Ft A iG) (x:Tup A.ah [.x .poly]):Ot A BG:=
 A.l1 .i (A.lit 0) fun x0=>
 A.l1 .b (A.bl false) fun x1=>
 A.cl kL kM (x.1,()) fun x2=>
 A.l1 .b (A.aA x2.1) fun x3=>
 A.cond x3.1 (A.l1 .i (A.lit 0) fun x4=>
 A.l1 .b (A.bl false) fun x5=>
 A.ret _ (x4.1,x5.1,()))<|
 A.l1 .b (A.cmp .eql (A.len .mono (A.fL .poly 0 .mono x.1)) (A.lit 0)) fun x4=>
 A.cond x4.1 (A.l1 .i (A.lit 0) fun x5=>
 A.l1 .b (A.bl true) fun x6=>
 A.ret _ (x5.1,x6.1,()))<|
 A.chk (A.orB (A.aA (A.cmp .eql (A.len .mono (A.fL .poly 0 .mono x.1)) (A.lit 1))) (A.cmp .leq (A.lit 0) (A.lit 0)))<|
 A.chk (A.orB (A.aA (A.cmp .eql (A.len .mono (A.fL .poly 0 .mono x.1)) (A.lit 1))) (A.cmp .lss (A.lit 0) (A.len .mono (A.fL .poly 0 .mono x.1))))<|
 A.l1 .b (A.ak (A.cmp .eql (A.len .mono (A.fL .poly 0 .mono x.1)) (A.lit 1)) (A.cmp .eql (A.len .i64 (A.fL .mono 1 .i64 (A.get .mono (A.fL .poly 0 .mono x.1) (A.lit 0)))) (A.lit 0)) (A.bl false)) fun x5=>
 A.cond x5.1 (A.bd .mono (A.fL .poly 0 .mono x.1) (A.lit 0)<|
 A.l1 .i (A.fI .mono 0 (A.get .mono (A.fL .poly 0 .mono x.1) (A.lit 0))) fun x6=>
 A.l1 .b (A.bl true) fun x7=>
 A.ret _ (x6.1,x7.1,()))<|
 A.l1 .i (A.lit 0) fun x6=>
 A.l1 .b (A.bl false) fun x7=>
 A.ret _ (x6.1,x7.1,())
def YU (A:Alg) (FN:Pt A nX) (FP:Ft A nX) (x:Tup A.ah [.x .mono,.x .mono]):Ot A BH:=
 A.l1 .i (A.lit 0) fun x0=>
 A.cl FN FP (A.fL .mono 1 .i64 x.1,A.fL .mono 1 .i64 x.2.1,()) fun x1=>
 A.l1 .i x1.1 fun x2=>
 A.ret _ (x2.1,())
def Rh (A:Alg) (Nt:Pt A BH) (Nu:Ft A BH) (x:Tup A.ah [.i,.i,.l .mono]):Ot A EO:=
 A.l1 .i (A.arith .add .i64 x.1 (A.lit 1)) fun x0=>
 A.iter [.i,.i,.i,.l .mono] (fun x1=>
 A.cond (A.cmp .lss x1.2.2.1 x1.2.1) (A.l1 .i x1.2.2.1 fun x2=>
 A.iter [.i,.i,.i,.i,.l .mono] (fun x3=>
 A.chk (A.orB (A.aA (A.cmp .gtr x3.2.2.2.1 x3.1)) (A.cmp .leq (A.lit 0) x3.2.2.2.1))<|
 A.chk (A.orB (A.aA (A.cmp .gtr x3.2.2.2.1 x3.1)) (A.cmp .lss x3.2.2.2.1 (A.len .mono x3.q.1)))<|
 A.chk (A.orB (A.aA (A.cmp .gtr x3.2.2.2.1 x3.1)) (A.cmp .leq (A.lit 0) x3.2.2.2.1))<|
 A.chk (A.orB (A.aA (A.cmp .gtr x3.2.2.2.1 x3.1)) (A.cmp .lss x3.2.2.2.1 (A.len .mono x3.q.1)))<|
 A.chk (A.orB (A.aA (A.cmp .gtr x3.2.2.2.1 x3.1)) (A.cmp .leq (A.lit 0) (A.arith .sub .i64 x3.2.2.2.1 (A.lit 1))))<|
 A.chk (A.orB (A.aA (A.cmp .gtr x3.2.2.2.1 x3.1)) (A.cmp .lss (A.arith .sub .i64 x3.2.2.2.1 (A.lit 1)) (A.len .mono x3.q.1)))<|
 A.chk (A.orB (A.aA (A.cmp .gtr x3.2.2.2.1 x3.1)) (A.cmp .leq (A.lit 0) (A.arith .sub .i64 x3.2.2.2.1 (A.lit 1))))<|
 A.chk (A.orB (A.aA (A.cmp .gtr x3.2.2.2.1 x3.1)) (A.cmp .lss (A.arith .sub .i64 x3.2.2.2.1 (A.lit 1)) (A.len .mono x3.q.1)))<|
 A.cg (A.cmp .gtr x3.2.2.2.1 x3.1) Nt Nu (A.get .mono x3.q.1 x3.2.2.2.1,A.get .mono x3.q.1 (A.arith .sub .i64 x3.2.2.2.1 (A.lit 1)),()) fun x4=>
 A.cond (A.ak (A.cmp .gtr x3.2.2.2.1 x3.1) (A.cmp .lss x4.1 (A.lit 0)) (A.bl false)) (A.bd .mono x3.q.1 (A.arith .sub .i64 x3.2.2.2.1 (A.lit 1))<|
 A.bd .mono x3.q.1 (A.arith .sub .i64 x3.2.2.2.1 (A.lit 1))<|
 A.bd .mono x3.q.1 x3.2.2.2.1<|
 A.bd .mono x3.q.1 x3.2.2.2.1<|
 A.bd .mono x3.q.1 x3.2.2.2.1<|
 A.bd .mono x3.q.1 x3.2.2.2.1<|
 A.l1 (.x .mono) (A.get .mono x3.q.1 (A.arith .sub .i64 x3.2.2.2.1 (A.lit 1))) fun x5=>
 A.bd .mono (A.set .mono x3.q.1 x3.2.2.2.1 x5.1) (A.arith .sub .i64 x3.2.2.2.1 (A.lit 1))<|
 A.bd .mono (A.set .mono x3.q.1 x3.2.2.2.1 x5.1) (A.arith .sub .i64 x3.2.2.2.1 (A.lit 1))<|
 A.l1 (.x .mono) (A.get .mono x3.q.1 x3.2.2.2.1) fun x6=>
 A.l1 .i (A.arith .sub .i64 x3.2.2.2.1 (A.lit 1)) fun x7=>
 A.inl _ (x3.1,x3.2.1,x3.2.2.1,x7.1,A.set .mono (A.set .mono x3.q.1 x3.2.2.2.1 x5.1) (A.arith .sub .i64 x3.2.2.2.1 (A.lit 1)) x6.1,()))<|
 A.inr _<|A.l1 .i (A.arith .add .i64 x3.2.2.1 (A.lit 1)) fun x5=>
 A.inl _ (x3.1,x3.2.1,x5.1,x3.q.1,())) (x1.1,x1.2.1,x1.2.2.1,x2.1,x1.2.2.2.1,()))<|
 A.inr _<|A.ret _ (x1.2.2.2.1,())) (x.1,x.2.1,x0.1,x.2.2.1,())
def Ri (A:Alg) (x:Tup A.ah [.i,.i,.i,.l .mono]):Ot A EP:=
 A.l1 .i (A.lit 0) fun x0=>
 A.iter [.i,.i,.i,.i,.l .mono] (fun x1=>
 A.cond (A.cmp .lss x1.2.2.2.1 x1.2.2.1) (A.bd .mono x1.q.1 (A.arith .add .i64 x1.2.1 x1.2.2.2.1)<|
 A.bd .mono x1.q.1 (A.arith .add .i64 x1.2.1 x1.2.2.2.1)<|
 A.bd .mono x1.q.1 (A.arith .add .i64 x1.1 x1.2.2.2.1)<|
 A.bd .mono x1.q.1 (A.arith .add .i64 x1.1 x1.2.2.2.1)<|
 A.bd .mono x1.q.1 (A.arith .add .i64 x1.1 x1.2.2.2.1)<|
 A.bd .mono x1.q.1 (A.arith .add .i64 x1.1 x1.2.2.2.1)<|
 A.l1 (.x .mono) (A.get .mono x1.q.1 (A.arith .add .i64 x1.2.1 x1.2.2.2.1)) fun x2=>
 A.bd .mono (A.set .mono x1.q.1 (A.arith .add .i64 x1.1 x1.2.2.2.1) x2.1) (A.arith .add .i64 x1.2.1 x1.2.2.2.1)<|
 A.bd .mono (A.set .mono x1.q.1 (A.arith .add .i64 x1.1 x1.2.2.2.1) x2.1) (A.arith .add .i64 x1.2.1 x1.2.2.2.1)<|
 A.l1 (.x .mono) (A.get .mono x1.q.1 (A.arith .add .i64 x1.1 x1.2.2.2.1)) fun x3=>
 A.l1 .i (A.arith .add .i64 x1.2.2.2.1 (A.lit 1)) fun x4=>
 A.inl _ (x1.1,x1.2.1,x1.2.2.1,x4.1,A.set .mono (A.set .mono x1.q.1 (A.arith .add .i64 x1.1 x1.2.2.2.1) x2.1) (A.arith .add .i64 x1.2.1 x1.2.2.2.1) x3.1,()))<|
 A.inr _<|A.ret _ (x1.q.1,())) (x.1,x.2.1,x.2.2.1,x0.1,x.2.2.2.1,())
def Rj (A:Alg) (Rk:Pt A EP) (Rl:Ft A EP) (x:Tup A.ah [.i,.i,.i,.l .mono]):Ot A ER:=
 A.l1 .i (A.arith .sub .i64 x.2.1 x.1) fun x0=>
 A.l1 .i (A.arith .sub .i64 x.2.2.1 x.2.1) fun x1=>
 A.iter [.i,.i,.i,.l .mono] (fun x2=>
 A.cond (A.cmp .neq x2.2.1 x2.2.2.1) (A.bind [.i,.i,.i,.l .mono] (A.cond (A.cmp .gtr x2.2.1 x2.2.2.1) (A.cl Rk Rl (A.arith .sub .i64 x2.1 x2.2.1,x2.1,x2.2.2.1,x2.2.2.2.1,()) fun x3=>
 A.l1 .i (A.arith .sub .i64 x2.2.1 x2.2.2.1) fun x4=>
 A.ret _ (x2.1,x4.1,x2.2.2.1,x3.1,()))<|
 A.cl Rk Rl (A.arith .sub .i64 x2.1 x2.2.1,A.arith .sub .i64 (A.arith .add .i64 x2.1 x2.2.2.1) x2.2.1,x2.2.1,x2.2.2.2.1,()) fun x3=>
 A.l1 .i (A.arith .sub .i64 x2.2.2.1 x2.2.1) fun x4=>
 A.ret _ (x2.1,x2.2.1,x4.1,x3.1,())) fun x3=>
 A.inl _ (x3.1,x3.2.1,x3.2.2.1,x3.2.2.2.1,()))<|
 A.inr _<|A.cl Rk Rl (A.arith .sub .i64 x2.1 x2.2.1,x2.1,x2.2.1,x2.2.2.2.1,()) fun x3=>
 A.ret _ (x3.1,())) (x.2.1,x0.1,x1.1,x.2.2.2.1,())
def FT (A:Alg) (Nt:Pt A BH) (Nu:Ft A BH) (afq:Pt A ER) (afr:Ft A ER) (FU:Pt A mO) (FV:Ft A mO) (x:Tup A.ah [.i,.i,.i,.l .mono]):Ot A mO:=
 A.cond (A.cmp .eql (A.arith .sub .i64 x.2.1 x.1) (A.lit 1)) (A.l1 .i x.2.1 fun x0=>
 A.l1 .i x.2.2.1 fun x1=>
 A.iter [.i,.i,.i,.l .mono] (fun x2=>
 A.cond (A.cmp .lss x2.2.1 x2.2.2.1) (A.chk (A.cmp .leq (A.lit 0) (A.lit 1))<|
 A.l1 .i (A.conv .i64 (A.arith .shr .u64 (A.conv .u64 (A.arith .add .i64 x2.2.1 x2.2.2.1)) (A.lit 1))) fun x3=>
 A.bd .mono x2.2.2.2.1 x3.1<|
 A.bd .mono x2.2.2.2.1 x3.1<|
 A.bd .mono x2.2.2.2.1 x2.1<|
 A.bd .mono x2.2.2.2.1 x2.1<|
 A.cl Nt Nu (A.get .mono x2.2.2.2.1 x3.1,A.get .mono x2.2.2.2.1 x2.1,()) fun x4=>
 A.bind [.i,.i,.i,.l .mono] (A.cond (A.cmp .lss x4.1 (A.lit 0)) (A.l1 .i (A.arith .add .i64 x3.1 (A.lit 1)) fun x5=>
 A.ret _ (x2.1,x5.1,x2.2.2.1,x2.2.2.2.1,()))<|
 A.l1 .i x3.1 fun x5=>
 A.ret _ (x2.1,x2.2.1,x5.1,x2.2.2.2.1,())) fun x5=>
 A.inl _ (x5.1,x5.2.1,x5.2.2.1,x5.2.2.2.1,()))<|
 A.inr _<|A.l1 .i x2.1 fun x3=>
 A.iter [.i,.i,.l .mono] (fun x4=>
 A.cond (A.cmp .lss x4.2.1 (A.arith .sub .i64 x4.1 (A.lit 1))) (A.bd .mono x4.2.2.1 (A.arith .add .i64 x4.2.1 (A.lit 1))<|
 A.bd .mono x4.2.2.1 (A.arith .add .i64 x4.2.1 (A.lit 1))<|
 A.bd .mono x4.2.2.1 x4.2.1<|
 A.bd .mono x4.2.2.1 x4.2.1<|
 A.bd .mono x4.2.2.1 x4.2.1<|
 A.bd .mono x4.2.2.1 x4.2.1<|
 A.l1 (.x .mono) (A.get .mono x4.2.2.1 (A.arith .add .i64 x4.2.1 (A.lit 1))) fun x5=>
 A.bd .mono (A.set .mono x4.2.2.1 x4.2.1 x5.1) (A.arith .add .i64 x4.2.1 (A.lit 1))<|
 A.bd .mono (A.set .mono x4.2.2.1 x4.2.1 x5.1) (A.arith .add .i64 x4.2.1 (A.lit 1))<|
 A.l1 (.x .mono) (A.get .mono x4.2.2.1 x4.2.1) fun x6=>
 A.l1 .i (A.arith .add .i64 x4.2.1 (A.lit 1)) fun x7=>
 A.inl _ (x4.1,x7.1,A.set .mono (A.set .mono x4.2.2.1 x4.2.1 x5.1) (A.arith .add .i64 x4.2.1 (A.lit 1)) x6.1,()))<|
 A.inr _<|A.ret _ (x4.2.2.1,())) (x2.2.1,x3.1,x2.2.2.2.1,())) (x.1,x0.1,x1.1,x.2.2.2.1,()))<|
 A.cond (A.cmp .eql (A.arith .sub .i64 x.2.2.1 x.2.1) (A.lit 1)) (A.l1 .i x.1 fun x0=>
 A.l1 .i x.2.1 fun x1=>
 A.iter [.i,.i,.i,.l .mono] (fun x2=>
 A.cond (A.cmp .lss x2.2.1 x2.2.2.1) (A.chk (A.cmp .leq (A.lit 0) (A.lit 1))<|
 A.l1 .i (A.conv .i64 (A.arith .shr .u64 (A.conv .u64 (A.arith .add .i64 x2.2.1 x2.2.2.1)) (A.lit 1))) fun x3=>
 A.bd .mono x2.2.2.2.1 x2.1<|
 A.bd .mono x2.2.2.2.1 x2.1<|
 A.bd .mono x2.2.2.2.1 x3.1<|
 A.bd .mono x2.2.2.2.1 x3.1<|
 A.cl Nt Nu (A.get .mono x2.2.2.2.1 x2.1,A.get .mono x2.2.2.2.1 x3.1,()) fun x4=>
 A.bind [.i,.i,.i,.l .mono] (A.cond (A.aA (A.cmp .lss x4.1 (A.lit 0))) (A.l1 .i (A.arith .add .i64 x3.1 (A.lit 1)) fun x5=>
 A.ret _ (x2.1,x5.1,x2.2.2.1,x2.2.2.2.1,()))<|
 A.l1 .i x3.1 fun x5=>
 A.ret _ (x2.1,x2.2.1,x5.1,x2.2.2.2.1,())) fun x5=>
 A.inl _ (x5.1,x5.2.1,x5.2.2.1,x5.2.2.2.1,()))<|
 A.inr _<|A.l1 .i x2.1 fun x3=>
 A.iter [.i,.i,.l .mono] (fun x4=>
 A.cond (A.cmp .gtr x4.2.1 x4.1) (A.bd .mono x4.2.2.1 (A.arith .sub .i64 x4.2.1 (A.lit 1))<|
 A.bd .mono x4.2.2.1 (A.arith .sub .i64 x4.2.1 (A.lit 1))<|
 A.bd .mono x4.2.2.1 x4.2.1<|
 A.bd .mono x4.2.2.1 x4.2.1<|
 A.bd .mono x4.2.2.1 x4.2.1<|
 A.bd .mono x4.2.2.1 x4.2.1<|
 A.l1 (.x .mono) (A.get .mono x4.2.2.1 (A.arith .sub .i64 x4.2.1 (A.lit 1))) fun x5=>
 A.bd .mono (A.set .mono x4.2.2.1 x4.2.1 x5.1) (A.arith .sub .i64 x4.2.1 (A.lit 1))<|
 A.bd .mono (A.set .mono x4.2.2.1 x4.2.1 x5.1) (A.arith .sub .i64 x4.2.1 (A.lit 1))<|
 A.l1 (.x .mono) (A.get .mono x4.2.2.1 x4.2.1) fun x6=>
 A.l1 .i (A.arith .sub .i64 x4.2.1 (A.lit 1)) fun x7=>
 A.inl _ (x4.1,x7.1,A.set .mono (A.set .mono x4.2.2.1 x4.2.1 x5.1) (A.arith .sub .i64 x4.2.1 (A.lit 1)) x6.1,()))<|
 A.inr _<|A.ret _ (x4.2.2.1,())) (x2.2.1,x3.1,x2.2.2.2.1,())) (x.2.1,x0.1,x1.1,x.2.2.2.1,()))<|
 A.chk (A.cmp .leq (A.lit 0) (A.lit 1))<|
 A.l1 .i (A.conv .i64 (A.arith .shr .u64 (A.conv .u64 (A.arith .add .i64 x.1 x.2.2.1)) (A.lit 1))) fun x0=>
 A.l1 .i (A.arith .add .i64 x0.1 x.2.1) fun x1=>
 A.l1 .i (A.lit 0) fun x2=>
 A.l1 .i (A.lit 0) fun x3=>
 A.bind [.i,.i,.i,.i,.i,.i,.i,.l .mono] (A.cond (A.cmp .gtr x.2.1 x0.1) (A.l1 .i (A.arith .sub .i64 x1.1 x.2.2.1) fun x4=>
 A.l1 .i x0.1 fun x5=>
 A.ret _ (x.1,x.2.1,x.2.2.1,x0.1,x1.1,x4.1,x5.1,x.2.2.2.1,()))<|
 A.l1 .i x.1 fun x4=>
 A.l1 .i x.2.1 fun x5=>
 A.ret _ (x.1,x.2.1,x.2.2.1,x0.1,x1.1,x4.1,x5.1,x.2.2.2.1,())) fun x4=>
 A.l1 .i (A.arith .sub .i64 x4.q.1 (A.lit 1)) fun x5=>
 A.iter [.i,.i,.i,.i,.i,.i,.i,.i,.l .mono] (fun x6=>
 A.cond (A.cmp .lss x6.q.2.1 x6.q.2.2.1) (A.chk (A.cmp .leq (A.lit 0) (A.lit 1))<|
 A.l1 .i (A.conv .i64 (A.arith .shr .u64 (A.conv .u64 (A.arith .add .i64 x6.q.2.1 x6.q.2.2.1)) (A.lit 1))) fun x7=>
 A.bd .mono x6.o.1 (A.arith .sub .i64 x6.q.2.2.2.1 x7.1)<|
 A.bd .mono x6.o.1 (A.arith .sub .i64 x6.q.2.2.2.1 x7.1)<|
 A.bd .mono x6.o.1 x7.1<|
 A.bd .mono x6.o.1 x7.1<|
 A.cl Nt Nu (A.get .mono x6.o.1 (A.arith .sub .i64 x6.q.2.2.2.1 x7.1),A.get .mono x6.o.1 x7.1,()) fun x8=>
 A.bind [.i,.i,.i,.i,.i,.i,.i,.i,.l .mono] (A.cond (A.aA (A.cmp .lss x8.1 (A.lit 0))) (A.l1 .i (A.arith .add .i64 x7.1 (A.lit 1)) fun x9=>
 A.ret _ (x6.1,x6.2.1,x6.2.2.1,x6.2.2.2.1,x6.q.1,x9.1,x6.q.2.2.1,x6.q.2.2.2.1,x6.o.1,()))<|
 A.l1 .i x7.1 fun x9=>
 A.ret _ (x6.1,x6.2.1,x6.2.2.1,x6.2.2.2.1,x6.q.1,x6.q.2.1,x9.1,x6.q.2.2.2.1,x6.o.1,())) fun x9=>
 A.inl _ (x9.1,x9.2.1,x9.2.2.1,x9.2.2.2.1,x9.q.1,x9.q.2.1,x9.q.2.2.1,x9.q.2.2.2.1,x9.o.1,()))<|
 A.inr _<|A.l1 .i (A.arith .sub .i64 x6.q.1 x6.q.2.1) fun x7=>
 A.bind [.i,.i,.i,.i,.i,.l .mono] (A.cond (A.ak (A.cmp .lss x6.q.2.1 x6.2.1) (A.cmp .lss x6.2.1 x7.1) (A.bl false)) (A.cl afq afr (x6.q.2.1,x6.2.1,x7.1,x6.o.1,()) fun x8=>
 A.ret _ (x6.1,x6.2.2.1,x6.2.2.2.1,x6.q.2.1,x7.1,x8.1,()))<|
 A.ret _ (x6.1,x6.2.2.1,x6.2.2.2.1,x6.q.2.1,x7.1,x6.o.1,())) fun x8=>
 A.bind [.i,.i,.i,.l .mono] (A.cond (A.ak (A.cmp .lss x8.1 x8.2.2.2.1) (A.cmp .lss x8.2.2.2.1 x8.2.2.1) (A.bl false)) (A.cl FU FV (x8.1,x8.2.2.2.1,x8.2.2.1,x8.q.2.1,()) fun x9=>
 A.ret _ (x8.2.1,x8.2.2.1,x8.q.1,x9.1,()))<|
 A.ret _ (x8.2.1,x8.2.2.1,x8.q.1,x8.q.2.1,())) fun x9=>
 A.bind [.l .mono] (A.cond (A.ak (A.cmp .lss x9.2.1 x9.2.2.1) (A.cmp .lss x9.2.2.1 x9.1) (A.bl false)) (A.cl FU FV (x9.2.1,x9.2.2.1,x9.1,x9.2.2.2.1,()) fun x10=>
 A.ret _ (x10.1,()))<|
 A.ret _ (x9.2.2.2.1,())) fun x10=>
 A.ret _ (x10.1,())) (x4.1,x4.2.1,x4.2.2.1,x4.2.2.2.1,x4.q.1,x4.q.2.1,x4.q.2.2.1,x5.1,x4.q.2.2.2.1,())
def Rm (A:Alg) (YV:Pt A EO) (YW:Ft A EO) (FU:Pt A mO) (FV:Ft A mO) (x:Tup A.ah [.i,.l .mono]):Ot A ET:=
 A.l1 .i (A.lit 20) fun x0=>
 A.l1 .i (A.lit 0) fun x1=>
 A.l1 .i x0.1 fun x2=>
 A.iter [.i,.i,.i,.i,.l .mono] (fun x3=>
 A.cond (A.cmp .leq x3.2.2.2.1 x3.1) (A.cl YV YW (x3.2.2.1,x3.2.2.2.1,x3.q.1,()) fun x4=>
 A.l1 .i x3.2.2.2.1 fun x5=>
 A.l1 .i (A.arith .add .i64 x3.2.2.2.1 x3.2.1) fun x6=>
 A.inl _ (x3.1,x3.2.1,x5.1,x6.1,x4.1,()))<|
 A.inr _<|A.cl YV YW (x3.2.2.1,x3.1,x3.q.1,()) fun x4=>
 A.iter [.i,.i,.l .mono] (fun x5=>
 A.cond (A.cmp .lss x5.2.1 x5.1) (A.l1 .i (A.lit 0) fun x6=>
 A.l1 .i (A.arith .mul .i64 (A.lit 2) x5.2.1) fun x7=>
 A.iter [.i,.i,.i,.i,.l .mono] (fun x8=>
 A.cond (A.cmp .leq x8.2.2.2.1 x8.1) (A.cl FU FV (x8.2.2.1,A.arith .add .i64 x8.2.2.1 x8.2.1,x8.2.2.2.1,x8.q.1,()) fun x9=>
 A.l1 .i x8.2.2.2.1 fun x10=>
 A.l1 .i (A.arith .add .i64 x8.2.2.2.1 (A.arith .mul .i64 (A.lit 2) x8.2.1)) fun x11=>
 A.inl _ (x8.1,x8.2.1,x10.1,x11.1,x9.1,()))<|
 A.inr _<|A.l1 .i (A.arith .add .i64 x8.2.2.1 x8.2.1) fun x9=>
 A.bind [.i,.i,.l .mono] (A.cond (A.cmp .lss x9.1 x8.1) (A.cl FU FV (x8.2.2.1,x9.1,x8.1,x8.q.1,()) fun x10=>
 A.ret _ (x8.1,x8.2.1,x10.1,()))<|
 A.ret _ (x8.1,x8.2.1,x8.q.1,())) fun x10=>
 A.l1 .i (A.arith .mul .i64 x10.2.1 (A.lit 2)) fun x11=>
 A.inl _ (x10.1,x11.1,x10.2.2.1,())) (x5.1,x5.2.1,x6.1,x7.1,x5.2.2.1,()))<|
 A.inr _<|A.ret _ (x5.2.2.1,())) (x3.1,x3.2.1,x4.1,())) (x.1,x0.1,x1.1,x2.1,x.2.1,())
def Rn (A:Alg) (afs:Pt A ET) (aft:Ft A ET) (x:Tup A.ah [.l .mono]):Ot A EU:=
 A.cl afs aft (A.len .mono x.1,x.1,()) fun x0=>
 A.ret _ (x0.1,())
def YX (A:Alg) (FN:Pt A nX) (FP:Ft A nX) (kL:Pt A iG) (kM:Ft A iG) (FQ:Pt A uz) (FR:Ft A uz) (YF:Pt A BD) (YG:Ft A BD) (afu:Pt A EU) (afv:Ft A EU) (x:Tup A.ah [.l .mono]):Ot A BI:=
 A.l1 .b (A.bl false) fun x0=>
 A.cl afu afv (x.1,()) fun x1=>
 A.l1 .i (A.lit 0) fun x2=>
 A.iter [.i,.l .mono,.l .mono] (fun x3=>
 A.cond (A.cmp .lss x3.1 (A.len .mono x3.2.1)) (A.bd .mono x3.2.1 x3.1<|
 A.bd .mono x3.2.1 x3.1<|
 A.l1 .i (A.lit 0) fun x4=>
 A.l1 (.x .mono) (A.get .mono x3.2.1 x3.1) fun x5=>
 A.iter [.i,.i,.l .mono,.x .mono,.l .mono] (fun x6=>
 A.chk (A.orB (A.aA (A.cmp .lss x6.1 (A.len .mono x6.2.2.1))) (A.cmp .leq (A.lit 0) x6.1))<|
 A.chk (A.orB (A.aA (A.cmp .lss x6.1 (A.len .mono x6.2.2.1))) (A.cmp .lss x6.1 (A.len .mono x6.2.2.1)))<|
 A.chk (A.orB (A.aA (A.cmp .lss x6.1 (A.len .mono x6.2.2.1))) (A.cmp .leq (A.lit 0) x6.1))<|
 A.chk (A.orB (A.aA (A.cmp .lss x6.1 (A.len .mono x6.2.2.1))) (A.cmp .lss x6.1 (A.len .mono x6.2.2.1)))<|
 A.cg (A.cmp .lss x6.1 (A.len .mono x6.2.2.1)) FN FP (A.fL .mono 1 .i64 x6.2.2.2.1,A.fL .mono 1 .i64 (A.get .mono x6.2.2.1 x6.1),()) fun x7=>
 A.cond (A.ak (A.cmp .lss x6.1 (A.len .mono x6.2.2.1)) (A.cmp .eql x7.1 (A.lit 0)) (A.bl false)) (A.bd .mono x6.2.2.1 x6.1<|
 A.bd .mono x6.2.2.1 x6.1<|
 A.cl FQ FR (A.arith .add .i64 x6.2.1 (A.fI .mono 0 (A.get .mono x6.2.2.1 x6.1)),()) fun x8=>
 A.l1 .i x8.1 fun x9=>
 A.l1 .i (A.arith .add .i64 x6.1 (A.lit 1)) fun x10=>
 A.inl _ (x10.1,x9.1,x6.2.2.1,x6.2.2.2.1,x6.q.1,()))<|
 A.inr _<|A.bind [.i,.l .mono,.l .mono] (A.cond (A.cmp .gtr x6.2.1 (A.lit 0)) (A.cl YF YG (A.fL .mono 1 .i64 x6.2.2.2.1,()) fun x8=>
 A.l1 (.l .mono) (A.lst .mono [A.mkX .mono (x6.2.1,x8.1,())]) fun x9=>
 A.chk (A.cmp .leq (A.addN (A.len .mono x6.q.1) (A.len .mono x9.1)) (A.lit 1073741824))<|
 A.l1 (.l .mono) (A.app .mono x6.q.1 x9.1) fun x10=>
 A.ret _ (x6.1,x6.2.2.1,x10.1,()))<|
 A.ret _ (x6.1,x6.2.2.1,x6.q.1,())) fun x8=>
 A.inl _ (x8.1,x8.2.1,x8.2.2.1,())) (x3.1,x4.1,x3.2.1,x5.1,x3.2.2.1,()))<|
 A.inr _<|A.cl kL kM (A.mkX .poly (x3.2.2.1,()),()) fun x4=>
 A.cond (A.aA x4.1) (A.l1 .b (A.bl false) fun x5=>
 A.ret _ (x5.1,x3.2.1,A.bV .mono,()))<|
 A.l1 .b (A.bl true) fun x5=>
 A.ret _ (x5.1,x3.2.1,x3.2.2.1,())) (x2.1,x1.1,A.bV .mono,())
def Ro (A:Alg) (x:Tup A.ah [.i]):Ot A EW:=
 A.cond (A.cmp .lss x.1 (A.lit 0)) (A.fail)<|
 A.l1 .i (A.arith .sub .i64 x.1 (A.arith .sub .i64 (A.lit 0) (A.lit 0))) fun x0=>
 A.bind [.l .mono] (A.cond (A.cmp .gtr x0.1 (A.lit 0)) (A.chk (A.cmp .eql (A.lit 0) (A.lit 0))<|
 A.chk (A.cmp .eql (A.lit 0) (A.lit 0))<|
 A.chk (A.cmp .leq (A.lit 0) x0.1)<|
 A.chk (A.cmp .leq x0.1 (A.lit 1073741824))<|
 A.chk (A.cmp .leq (A.len .mono (A.rep .mono x0.1 (A.mkX .mono (A.lit 0,A.bV .i64,())))) (A.lit 1073741824))<|
 A.l1 (.l .mono) (A.rep .mono x0.1 (A.mkX .mono (A.lit 0,A.bV .i64,()))) fun x1=>
 A.chk (A.cmp .leq (A.lit 0) (A.lit 0))<|
 A.chk (A.cmp .leq (A.lit 0) (A.lit 0))<|
 A.chk (A.cmp .leq (A.lit 0) (A.len .mono x1.1))<|
 A.chk (A.cmp .eql (A.lit 0) (A.lit 0))<|
 A.chk (A.cmp .leq (A.lit 0) (A.Cc (A.lit 0) (A.lit 0)))<|
 A.chk (A.cmp .leq (A.Cc (A.lit 0) (A.lit 0)) (A.len .mono x1.1))<|
 A.ret _ (A.sub .mono x1.1 (A.lit 0) (A.Cc (A.lit 0) (A.lit 0)),()))<|
 A.ret _ (A.bV .mono,())) fun x1=>
 A.ret _ (x1.1,())
def YZ (A:Alg) (afw:Pt A EW) (afx:Ft A EW) (x:Tup A.ah [.l .poly]):Ot A M7:=
 A.l1 .i (A.lit 0) fun x0=>
 A.iter [.l .poly,.i,.l .poly,.i,.i] (fun x1=>
 A.cond (A.cmp .lss x1.q.1 x1.2.2.2.1) (A.bd .poly x1.2.2.1 x1.q.1<|
 A.l1 (.l .mono) (A.fL .poly 0 .mono (A.get .poly x1.2.2.1 x1.q.1)) fun x2=>
 A.l1 .i (A.arith .add .i64 x1.2.1 (A.len .mono x2.1)) fun x3=>
 A.cond (A.cmp .lss x3.1 (A.lit 0)) (A.fail)<|
 A.inl _ (x1.1,x3.1,x1.2.2.1,x1.2.2.2.1,A.arith .add .i64 x1.q.1 (A.lit 1),()))<|
 A.inr _<|A.cl afw afx (x1.2.1,()) fun x2=>
 A.iter [.l .poly,.i,.i,.l .mono] (fun x3=>
 A.cond (A.cmp .lss x3.2.2.1 x3.2.1) (A.bd .poly x3.1 x3.2.2.1<|
 A.l1 (.l .mono) (A.fL .poly 0 .mono (A.get .poly x3.1 x3.2.2.1)) fun x4=>
 A.chk (A.cmp .leq (A.addN (A.len .mono x3.2.2.2.1) (A.len .mono x4.1)) (A.lit 1073741824))<|
 A.l1 (.l .mono) (A.app .mono x3.2.2.2.1 x4.1) fun x5=>
 A.inl _ (x3.1,x3.2.1,A.arith .add .i64 x3.2.2.1 (A.lit 1),x5.1,()))<|
 A.inr _<|A.ret _ (x3.2.2.2.1,())) (x1.1,A.len .poly x1.1,A.lit 0,x2.1,())) (x.1,x0.1,x.1,A.len .poly x.1,A.lit 0,())
def Y0 (A:Alg) (kL:Pt A iG) (kM:Ft A iG) (Y1:Pt A BI) (Y2:Ft A BI) (al1:Pt A M7) (al2:Ft A M7) (x:Tup A.ah [.x .poly,.x .poly]):Ot A M8:=
 A.l1 .b (A.bl false) fun x0=>
 A.cl kL kM (x.1,()) fun x1=>
 A.cg (A.aA (A.aA x1.1)) kL kM (x.2.1,()) fun x2=>
 A.cond (A.ak (A.aA x1.1) (A.bl true) (A.aA x2.1)) (A.l1 .b (A.bl false) fun x3=>
 A.ret _ (x3.1,A.bV .mono,()))<|
 A.l1 (.l .poly) (A.lst .poly [A.mkX .poly (A.fL .poly 0 .mono x.1,()),A.mkX .poly (A.fL .poly 0 .mono x.2.1,())]) fun x3=>
 A.cl al1 al2 (x3.1,()) fun x4=>
 A.cl Y1 Y2 (x4.1,()) fun x5=>
 A.l1 .b x5.1 fun x6=>
 A.ret _ (x6.1,x5.2.2.1,())
def Rp (A:Alg) (x:Tup A.ah [.i]):Ot A EX:=
 A.cond (A.cmp .lss x.1 (A.lit 0)) (A.fail)<|
 A.l1 .i (A.arith .sub .i64 x.1 (A.arith .sub .i64 (A.lit 0) (A.lit 0))) fun x0=>
 A.bind [.l .i64] (A.cond (A.cmp .gtr x0.1 (A.lit 0)) (A.chk (A.cmp .eql (A.lit 0) (A.lit 0))<|
 A.chk (A.cmp .eql (A.lit 0) (A.lit 0))<|
 A.chk (A.cmp .leq (A.lit 0) x0.1)<|
 A.chk (A.cmp .leq x0.1 (A.lit 1073741824))<|
 A.chk (A.cmp .leq (A.len .i64 (A.rep .i64 x0.1 (A.mkX .i64 (A.lit 0,())))) (A.lit 1073741824))<|
 A.l1 (.l .i64) (A.rep .i64 x0.1 (A.mkX .i64 (A.lit 0,()))) fun x1=>
 A.chk (A.cmp .leq (A.lit 0) (A.lit 0))<|
 A.chk (A.cmp .leq (A.lit 0) (A.lit 0))<|
 A.chk (A.cmp .leq (A.lit 0) (A.len .i64 x1.1))<|
 A.chk (A.cmp .eql (A.lit 0) (A.lit 0))<|
 A.chk (A.cmp .leq (A.lit 0) (A.Cc (A.lit 0) (A.lit 0)))<|
 A.chk (A.cmp .leq (A.Cc (A.lit 0) (A.lit 0)) (A.len .i64 x1.1))<|
 A.ret _ (A.sub .i64 x1.1 (A.lit 0) (A.Cc (A.lit 0) (A.lit 0)),()))<|
 A.ret _ (A.bV .i64,())) fun x1=>
 A.ret _ (x1.1,())
def Rq (A:Alg) (afy:Pt A EX) (afz:Ft A EX) (x:Tup A.ah [.l .ints]):Ot A EY:=
 A.l1 .i (A.lit 0) fun x0=>
 A.iter [.l .ints,.i,.l .ints,.i,.i] (fun x1=>
 A.cond (A.cmp .lss x1.q.1 x1.2.2.2.1) (A.bd .ints x1.2.2.1 x1.q.1<|
 A.l1 (.l .i64) (A.fL .ints 0 .i64 (A.get .ints x1.2.2.1 x1.q.1)) fun x2=>
 A.l1 .i (A.arith .add .i64 x1.2.1 (A.len .i64 x2.1)) fun x3=>
 A.cond (A.cmp .lss x3.1 (A.lit 0)) (A.fail)<|
 A.inl _ (x1.1,x3.1,x1.2.2.1,x1.2.2.2.1,A.arith .add .i64 x1.q.1 (A.lit 1),()))<|
 A.inr _<|A.cl afy afz (x1.2.1,()) fun x2=>
 A.iter [.l .ints,.i,.i,.l .i64] (fun x3=>
 A.cond (A.cmp .lss x3.2.2.1 x3.2.1) (A.bd .ints x3.1 x3.2.2.1<|
 A.l1 (.l .i64) (A.fL .ints 0 .i64 (A.get .ints x3.1 x3.2.2.1)) fun x4=>
 A.chk (A.cmp .leq (A.addN (A.len .i64 x3.2.2.2.1) (A.len .i64 x4.1)) (A.lit 1073741824))<|
 A.l1 (.l .i64) (A.app .i64 x3.2.2.2.1 x4.1) fun x5=>
 A.inl _ (x3.1,x3.2.1,A.arith .add .i64 x3.2.2.1 (A.lit 1),x5.1,()))<|
 A.inr _<|A.ret _ (x3.2.2.2.1,())) (x1.1,A.len .ints x1.1,A.lit 0,x2.1,())) (x.1,x0.1,x.1,A.len .ints x.1,A.lit 0,())
def Rs (A:Alg) (Yf:Pt A EJ) (Yg:Ft A EJ) (x:Tup A.ah [.i,.i,.l .i64]):Ot A EZ:=
 A.l1 .i (A.arith .add .i64 x.1 (A.lit 1)) fun x0=>
 A.iter [.i,.i,.i,.l .i64] (fun x1=>
 A.cond (A.cmp .lss x1.2.2.1 x1.2.1) (A.l1 .i x1.2.2.1 fun x2=>
 A.iter [.i,.i,.i,.i,.l .i64] (fun x3=>
 A.chk (A.orB (A.aA (A.cmp .gtr x3.2.2.2.1 x3.1)) (A.cmp .leq (A.lit 0) x3.2.2.2.1))<|
 A.chk (A.orB (A.aA (A.cmp .gtr x3.2.2.2.1 x3.1)) (A.cmp .lss x3.2.2.2.1 (A.len .i64 x3.q.1)))<|
 A.chk (A.orB (A.aA (A.cmp .gtr x3.2.2.2.1 x3.1)) (A.cmp .leq (A.lit 0) x3.2.2.2.1))<|
 A.chk (A.orB (A.aA (A.cmp .gtr x3.2.2.2.1 x3.1)) (A.cmp .lss x3.2.2.2.1 (A.len .i64 x3.q.1)))<|
 A.chk (A.orB (A.aA (A.cmp .gtr x3.2.2.2.1 x3.1)) (A.cmp .leq (A.lit 0) (A.arith .sub .i64 x3.2.2.2.1 (A.lit 1))))<|
 A.chk (A.orB (A.aA (A.cmp .gtr x3.2.2.2.1 x3.1)) (A.cmp .lss (A.arith .sub .i64 x3.2.2.2.1 (A.lit 1)) (A.len .i64 x3.q.1)))<|
 A.chk (A.orB (A.aA (A.cmp .gtr x3.2.2.2.1 x3.1)) (A.cmp .leq (A.lit 0) (A.arith .sub .i64 x3.2.2.2.1 (A.lit 1))))<|
 A.chk (A.orB (A.aA (A.cmp .gtr x3.2.2.2.1 x3.1)) (A.cmp .lss (A.arith .sub .i64 x3.2.2.2.1 (A.lit 1)) (A.len .i64 x3.q.1)))<|
 A.cg (A.cmp .gtr x3.2.2.2.1 x3.1) Yf Yg (A.fI .i64 0 (A.get .i64 x3.q.1 x3.2.2.2.1),A.fI .i64 0 (A.get .i64 x3.q.1 (A.arith .sub .i64 x3.2.2.2.1 (A.lit 1))),()) fun x4=>
 A.cond (A.ak (A.cmp .gtr x3.2.2.2.1 x3.1) x4.1 (A.bl false)) (A.bd .i64 x3.q.1 (A.arith .sub .i64 x3.2.2.2.1 (A.lit 1))<|
 A.bd .i64 x3.q.1 (A.arith .sub .i64 x3.2.2.2.1 (A.lit 1))<|
 A.bd .i64 x3.q.1 x3.2.2.2.1<|
 A.bd .i64 x3.q.1 x3.2.2.2.1<|
 A.bd .i64 x3.q.1 x3.2.2.2.1<|
 A.bd .i64 x3.q.1 x3.2.2.2.1<|
 A.l1 .i (A.fI .i64 0 (A.get .i64 x3.q.1 (A.arith .sub .i64 x3.2.2.2.1 (A.lit 1)))) fun x5=>
 A.bd .i64 (A.set .i64 x3.q.1 x3.2.2.2.1 (A.mkX .i64 (x5.1,()))) (A.arith .sub .i64 x3.2.2.2.1 (A.lit 1))<|
 A.bd .i64 (A.set .i64 x3.q.1 x3.2.2.2.1 (A.mkX .i64 (x5.1,()))) (A.arith .sub .i64 x3.2.2.2.1 (A.lit 1))<|
 A.l1 .i (A.fI .i64 0 (A.get .i64 x3.q.1 x3.2.2.2.1)) fun x6=>
 A.l1 .i (A.arith .sub .i64 x3.2.2.2.1 (A.lit 1)) fun x7=>
 A.inl _ (x3.1,x3.2.1,x3.2.2.1,x7.1,A.set .i64 (A.set .i64 x3.q.1 x3.2.2.2.1 (A.mkX .i64 (x5.1,()))) (A.arith .sub .i64 x3.2.2.2.1 (A.lit 1)) (A.mkX .i64 (x6.1,())),()))<|
 A.inr _<|A.l1 .i (A.arith .add .i64 x3.2.2.1 (A.lit 1)) fun x5=>
 A.inl _ (x3.1,x3.2.1,x5.1,x3.q.1,())) (x1.1,x1.2.1,x1.2.2.1,x2.1,x1.2.2.2.1,()))<|
 A.inr _<|A.ret _ (x1.2.2.2.1,())) (x.1,x.2.1,x0.1,x.2.2.1,())
def Rt (A:Alg) (Yf:Pt A EJ) (Yg:Ft A EJ) (afA:Pt A EZ) (afB:Ft A EZ) (afC:Pt A E5) (afD:Ft A E5) (afE:Pt A E8) (afF:Ft A E8) (afG:Pt A E9) (afH:Ft A E9) (afI:Pt A Fa) (afJ:Ft A Fa) (afK:Pt A Fb) (afL:Ft A Fb) (afM:Pt A Fe) (afN:Ft A Fe) (afO:Pt A Fg) (afP:Ft A Fg) (Kq:Pt A oL) (Kr:Ft A oL) (x:Tup A.ah [.i,.i,.i,.l .i64]):Ot A oL:=
 A.l1 .b (A.bl true) fun x0=>
 A.l1 .b (A.bl true) fun x1=>
 A.iter [.i,.i,.i,.b,.b,.l .i64] (fun x2=>
 A.kI [.i,.i,.i,.b,.b,.l .i64] (A.l1 .i (A.arith .sub .i64 x2.2.1 x2.1) fun x3=>
 A.cond (A.cmp .leq x3.1 (A.lit 12)) (A.cl afA afB (x2.1,x2.2.1,x2.q.2.1,()) fun x4=>
 A.inr _<|A.inr _<|A.ret _ (x4.1,()))<|
 A.cond (A.cmp .eql x2.2.2.1 (A.lit 0)) (A.cl afC afD (x2.1,x2.2.1,x2.q.2.1,()) fun x4=>
 A.inr _<|A.inr _<|A.ret _ (x4.1,()))<|
 A.bind [.i,.i,.i,.b,.b,.i,.l .i64] (A.cond (A.aA x2.2.2.2.1) (A.cl afE afF (x2.1,x2.2.1,x2.q.2.1,()) fun x4=>
 A.l1 .i (A.arith .sub .i64 x2.2.2.1 (A.lit 1)) fun x5=>
 A.ret _ (x2.1,x2.2.1,x5.1,x2.2.2.2.1,x2.q.1,x3.1,x4.1,()))<|
 A.ret _ (x2.1,x2.2.1,x2.2.2.1,x2.2.2.2.1,x2.q.1,x3.1,x2.q.2.1,())) fun x4=>
 A.cl afG afH (x4.1,x4.2.1,x4.q.2.2.1,()) fun x5=>
 A.l1 .i x5.1 fun x6=>
 A.l1 .i x5.2.1 fun x7=>
 A.bind [.i,.i,.i,.b,.b,.i,.i,.i,.l .i64] (A.cond (A.cmp .eql x7.1 (A.lit 2)) (A.cl afI afJ (x4.1,x4.2.1,x5.2.2.1,()) fun x8=>
 A.l1 .i (A.arith .sub .i64 (A.arith .sub .i64 x4.2.1 (A.lit 1)) (A.arith .sub .i64 x6.1 x4.1)) fun x9=>
 A.l1 .i (A.lit 1) fun x10=>
 A.ret _ (x4.1,x4.2.1,x4.2.2.1,x4.2.2.2.1,x4.q.1,x4.q.2.1,x9.1,x10.1,x8.1,()))<|
 A.ret _ (x4.1,x4.2.1,x4.2.2.1,x4.2.2.2.1,x4.q.1,x4.q.2.1,x6.1,x7.1,x5.2.2.1,())) fun x8=>
 A.kI [.i,.i,.i,.b,.b,.i,.i,.l .i64] (A.cond (A.ak (A.ak x8.2.2.2.1 x8.q.1 (A.bl false)) (A.cmp .eql x8.q.2.2.2.1 (A.lit 1)) (A.bl false)) (A.cl afK afL (x8.1,x8.2.1,x8.o.1,()) fun x9=>
 A.cond x9.1 (A.inr _<|A.inr _<|A.inr _<|A.ret _ (x9.2.1,()))<|
 A.inl _ (x8.1,x8.2.1,x8.2.2.1,x8.2.2.2.1,x8.q.1,x8.q.2.1,x8.q.2.2.1,x9.2.1,()))<|
 A.inl _ (x8.1,x8.2.1,x8.2.2.1,x8.2.2.2.1,x8.q.1,x8.q.2.1,x8.q.2.2.1,x8.o.1,())) fun x9=>
 A.chk (A.orB (A.aA (A.cmp .gtr x9.1 (A.lit 0))) (A.cmp .leq (A.lit 0) (A.arith .sub .i64 x9.1 (A.lit 1))))<|
 A.chk (A.orB (A.aA (A.cmp .gtr x9.1 (A.lit 0))) (A.cmp .lss (A.arith .sub .i64 x9.1 (A.lit 1)) (A.len .i64 x9.q.2.2.2.1)))<|
 A.chk (A.orB (A.aA (A.cmp .gtr x9.1 (A.lit 0))) (A.cmp .leq (A.lit 0) (A.arith .sub .i64 x9.1 (A.lit 1))))<|
 A.chk (A.orB (A.aA (A.cmp .gtr x9.1 (A.lit 0))) (A.cmp .lss (A.arith .sub .i64 x9.1 (A.lit 1)) (A.len .i64 x9.q.2.2.2.1)))<|
 A.chk (A.orB (A.aA (A.cmp .gtr x9.1 (A.lit 0))) (A.cmp .leq (A.lit 0) x9.q.2.2.1))<|
 A.chk (A.orB (A.aA (A.cmp .gtr x9.1 (A.lit 0))) (A.cmp .lss x9.q.2.2.1 (A.len .i64 x9.q.2.2.2.1)))<|
 A.chk (A.orB (A.aA (A.cmp .gtr x9.1 (A.lit 0))) (A.cmp .leq (A.lit 0) x9.q.2.2.1))<|
 A.chk (A.orB (A.aA (A.cmp .gtr x9.1 (A.lit 0))) (A.cmp .lss x9.q.2.2.1 (A.len .i64 x9.q.2.2.2.1)))<|
 A.cg (A.cmp .gtr x9.1 (A.lit 0)) Yf Yg (A.fI .i64 0 (A.get .i64 x9.q.2.2.2.1 (A.arith .sub .i64 x9.1 (A.lit 1))),A.fI .i64 0 (A.get .i64 x9.q.2.2.2.1 x9.q.2.2.1),()) fun x10=>
 A.cond (A.ak (A.cmp .gtr x9.1 (A.lit 0)) (A.aA x10.1) (A.bl false)) (A.cl afM afN (x9.1,x9.2.1,x9.q.2.2.1,x9.q.2.2.2.1,()) fun x11=>
 A.l1 .i x11.1 fun x12=>
 A.l1 .i x12.1 fun x13=>
 A.inl _ (x13.1,x9.2.1,x9.2.2.1,x9.2.2.2.1,x9.q.1,x11.2.1,()))<|
 A.cl afO afP (x9.1,x9.2.1,x9.q.2.2.1,x9.q.2.2.2.1,()) fun x11=>
 A.l1 .i x11.1 fun x12=>
 A.l1 .b x11.2.1 fun x13=>
 A.l1 .b x13.1 fun x14=>
 A.l1 .i (A.arith .sub .i64 x12.1 x9.1) fun x15=>
 A.l1 .i (A.arith .sub .i64 x9.2.1 x12.1) fun x16=>
 A.chk (A.cmp .neq (A.lit 8) (A.lit 0))<|
 A.l1 .i (A.arith .quo .i64 x9.q.2.1 (A.lit 8)) fun x17=>
 A.bind [.i,.i,.i,.b,.b,.l .i64] (A.cond (A.cmp .lss x15.1 x16.1) (A.l1 .b (A.cmp .geq x15.1 x17.1) fun x18=>
 A.cl Kq Kr (x9.1,x12.1,x9.2.2.1,x11.2.2.1,()) fun x19=>
 A.l1 .i (A.arith .add .i64 x12.1 (A.lit 1)) fun x20=>
 A.ret _ (x20.1,x9.2.1,x9.2.2.1,x18.1,x14.1,x19.1,()))<|
 A.l1 .b (A.cmp .geq x16.1 x17.1) fun x18=>
 A.cl Kq Kr (A.arith .add .i64 x12.1 (A.lit 1),x9.2.1,x9.2.2.1,x11.2.2.1,()) fun x19=>
 A.l1 .i x12.1 fun x20=>
 A.ret _ (x9.1,x20.1,x9.2.2.1,x18.1,x14.1,x19.1,())) fun x18=>
 A.inl _ (x18.1,x18.2.1,x18.2.2.1,x18.2.2.2.1,x18.q.1,x18.q.2.1,())) fun x3=>
 A.inl _ (x3.1,x3.2.1,x3.2.2.1,x3.2.2.2.1,x3.q.1,x3.q.2.1,())) (x.1,x.2.1,x.2.2.1,x0.1,x1.1,x.2.2.2.1,())
def Rv (A:Alg) (Kq:Pt A oL) (Kr:Ft A oL) (al3:Pt A Uw) (al4:Ft A Uw) (x:Tup A.ah [.l .i64]):Ot A Fh:=
 A.l1 .i (A.len .i64 x.1) fun x0=>
 A.cl al3 al4 (A.conv .u64 x0.1,()) fun x1=>
 A.cl Kq Kr (A.lit 0,x0.1,x1.1,x.1,()) fun x2=>
 A.ret _ (x2.1,())
def Y3 (A:Alg) (kL:Pt A iG) (kM:Ft A iG) (FQ:Pt A uz) (FR:Ft A uz) (Y1:Pt A BI) (Y2:Ft A BI) (afQ:Pt A EY) (afR:Ft A EY) (afS:Pt A Fh) (afT:Ft A Fh) (x:Tup A.ah [.x .poly,.x .poly]):Ot A BJ:=
 A.l1 .b (A.bl false) fun x0=>
 A.cl kL kM (x.1,()) fun x1=>
 A.cg (A.aA (A.aA x1.1)) kL kM (x.2.1,()) fun x2=>
 A.cond (A.ak (A.aA x1.1) (A.bl true) (A.aA x2.1)) (A.l1 .b (A.bl false) fun x3=>
 A.ret _ (x3.1,A.bV .mono,()))<|
 A.iter [.l .mono,.i,.i,.x .poly,.l .mono] (fun x3=>
 A.cond (A.cmp .lss x3.2.2.1 x3.2.1) (A.bd .mono x3.1 x3.2.2.1<|
 A.l1 (.x .mono) (A.get .mono x3.1 x3.2.2.1) fun x4=>
 A.iter [.l .mono,.i,.i,.l .mono,.i,.i,.x .poly,.l .mono,.x .mono] (fun x5=>
 A.cond (A.cmp .lss x5.q.2.1 x5.q.1) (A.bd .mono x5.2.2.2.1 x5.q.2.1<|
 A.l1 (.x .mono) (A.get .mono x5.2.2.2.1 x5.q.2.1) fun x6=>
 A.l1 (.l .ints) (A.lst .ints [A.mkX .ints (A.fL .mono 1 .i64 x5.o.1,()),A.mkX .ints (A.fL .mono 1 .i64 x6.1,())]) fun x7=>
 A.cl afQ afR (x7.1,()) fun x8=>
 A.cl afS afT (x8.1,()) fun x9=>
 A.cl FQ FR (A.arith .mul .i64 (A.fI .mono 0 x5.o.1) (A.fI .mono 0 x6.1),()) fun x10=>
 A.l1 (.l .mono) (A.lst .mono [A.mkX .mono (x10.1,x9.1,())]) fun x11=>
 A.chk (A.cmp .leq (A.addN (A.len .mono x5.q.2.2.2.1) (A.len .mono x11.1)) (A.lit 1073741824))<|
 A.l1 (.l .mono) (A.app .mono x5.q.2.2.2.1 x11.1) fun x12=>
 A.inl _ (x5.1,x5.2.1,x5.2.2.1,x5.2.2.2.1,x5.q.1,A.arith .add .i64 x5.q.2.1 (A.lit 1),x5.q.2.2.1,x12.1,x5.o.1,()))<|
 A.inr _<|A.inl _ (x5.1,x5.2.1,A.arith .add .i64 x5.2.2.1 (A.lit 1),x5.q.2.2.1,x5.q.2.2.2.1,())) (x3.1,x3.2.1,x3.2.2.1,A.fL .poly 0 .mono x3.2.2.2.1,A.len .mono (A.fL .poly 0 .mono x3.2.2.2.1),A.lit 0,x3.2.2.2.1,x3.q.1,x4.1,()))<|
 A.inr _<|A.cl Y1 Y2 (x3.q.1,()) fun x4=>
 A.l1 .b x4.1 fun x5=>
 A.ret _ (x5.1,x4.2.2.1,())) (A.fL .poly 0 .mono x.1,A.len .mono (A.fL .poly 0 .mono x.1),A.lit 0,x.2.1,A.bV .mono,())
def Y4 (A:Alg) (kL:Pt A iG) (kM:Ft A iG) (Nv:Pt A uw) (Nw:Ft A uw) (qp:Pt A jr) (qw:Ft A jr) (Y5:Pt A BJ) (Y6:Ft A BJ) (x:Tup A.ah [.x .poly,.i]):Ot A M9:=
 A.cl kL kM (x.1,()) fun x0=>
 A.cg (A.aA (A.aA x0.1)) qp qw (x.2.1,()) fun x1=>
 A.cond (A.ak (A.aA x0.1) (A.bl true) (A.aA x1.1)) (A.ret _ (A.bV .mono,()))<|
 A.cl Nv Nw (x.2.1,()) fun x2=>
 A.cl Y5 Y6 (x.1,A.mkX .poly (x2.1,()),()) fun x3=>
 A.l1 .b x3.1 fun x4=>
 A.ret _ (x3.2.1,())
def Y7 (A:Alg) (lH:Pt A jv) (lI:Ft A jv) (Nv:Pt A uw) (Nw:Ft A uw) (al5:Pt A M6) (al6:Ft A M6) (acL:Pt A M8) (acM:Ft A M8) (Y5:Pt A BJ) (Y6:Ft A BJ) (al7:Pt A M9) (al8:Ft A M9) (Ny:Pt A BG) (Nz:Ft A BG) (x:Tup A.ah [.i,.x .poly,.x .poly]):Ot A Na:=
 A.l1 .b (A.bl false) fun x0=>
 A.l1 .b (A.cmp .eql x.1 (A.lit 1)) fun x1=>
 A.cond x1.1 (A.cl acL acM (x.2.1,x.2.2.1,()) fun x2=>
 A.l1 .b x2.1 fun x3=>
 A.ret _ (A.mkX .poly (x2.2.1,()),x3.1,()))<|
 A.l1 .b (A.cmp .eql x.1 (A.lit 2)) fun x2=>
 A.cond x2.1 (A.cl al7 al8 (x.2.2.1,A.lit 65535,()) fun x3=>
 A.cl acL acM (x.2.1,A.mkX .poly (x3.1,()),()) fun x4=>
 A.l1 .b x4.1 fun x5=>
 A.ret _ (A.mkX .poly (x4.2.1,()),x5.1,()))<|
 A.l1 .b (A.cmp .eql x.1 (A.lit 3)) fun x3=>
 A.cond x3.1 (A.cl Y5 Y6 (x.2.1,x.2.2.1,()) fun x4=>
 A.l1 .b x4.1 fun x5=>
 A.ret _ (A.mkX .poly (x4.2.1,()),x5.1,()))<|
 A.cl Ny Nz (x.2.1,()) fun x4=>
 A.l1 .i x4.1 fun x5=>
 A.l1 .b x4.2.1 fun x6=>
 A.cl Ny Nz (x.2.2.1,()) fun x7=>
 A.l1 .i x7.1 fun x8=>
 A.l1 .b x7.2.1 fun x9=>
 A.l1 .b (A.ak x6.1 x9.1 (A.bl false)) fun x10=>
 A.cond x10.1 (A.cl al5 al6 (x.1,x5.1,x8.1,()) fun x11=>
 A.cl Nv Nw (x11.1,()) fun x12=>
 A.l1 .b (A.bl true) fun x13=>
 A.ret _ (A.mkX .poly (x12.1,()),x13.1,()))<|
 A.cl lH lI (x.2.1,x.2.2.1,()) fun x11=>
 A.l1 .b (A.ak x11.1 (A.cmp .eql x.1 (A.lit 4)) (A.bl false)) fun x12=>
 A.cond x12.1 (A.l1 (.x .poly) x.2.1 fun x13=>
 A.l1 .b (A.bl true) fun x14=>
 A.ret _ (x13.1,x14.1,()))<|
 A.cl lH lI (x.2.1,x.2.2.1,()) fun x13=>
 A.l1 .b x13.1 fun x14=>
 A.cond x14.1 (A.l1 .b (A.bl true) fun x15=>
 A.ret _ (A.mkX .poly (A.bV .mono,()),x15.1,()))<|
 A.bind [.i,.i,.b,.x .poly] (A.cond x6.1 (A.l1 (.x .poly) x.2.2.1 fun x15=>
 A.l1 .i x5.1 fun x16=>
 A.l1 .b (A.bl true) fun x17=>
 A.ret _ (x.1,x16.1,x17.1,x15.1,()))<|
 A.ret _ (x.1,x8.1,x9.1,x.2.1,())) fun x15=>
 A.l1 .b (A.ak (A.ak x15.2.2.1 (A.cmp .eql x15.1 (A.lit 4)) (A.bl false)) (A.cmp .eql x15.2.1 (A.lit 0)) (A.bl false)) fun x16=>
 A.cond x16.1 (A.l1 .b (A.bl true) fun x17=>
 A.ret _ (A.mkX .poly (A.bV .mono,()),x17.1,()))<|
 A.l1 .b (A.ak x15.2.2.1 (A.ak (A.ak (A.cmp .eql x15.1 (A.lit 4)) (A.cmp .eql x15.2.1 (A.lit 65535)) (A.bl false)) (A.bl true) (A.ak (A.cmp .eql x15.1 (A.lit 5)) (A.cmp .eql x15.2.1 (A.lit 0)) (A.bl false))) (A.bl false)) fun x17=>
 A.cond x17.1 (A.l1 (.x .poly) x15.2.2.2.1 fun x18=>
 A.l1 .b (A.bl true) fun x19=>
 A.ret _ (x18.1,x19.1,()))<|
 A.l1 .b (A.bl false) fun x18=>
 A.ret _ (A.mkX .poly (A.bV .mono,()),x18.1,())
def Y8 (A:Alg) (Nr:Pt A um) (Ns:Ft A um) (al9:Pt A Na) (ama:Ft A Na) (YA:Pt A Bv) (YB:Ft A Bv) (Yy:Pt A Bw) (Yz:Ft A Bw) (x:Tup A.ah [.x .tab,.i,.x .poly,.x .poly]):Ot A Nb:=
 A.l1 .b (A.bl false) fun x0=>
 A.cl al9 ama (x.2.1,x.2.2.1,x.2.2.2.1,()) fun x1=>
 A.l1 (.x .poly) x1.1 fun x2=>
 A.l1 .b x1.2.1 fun x3=>
 A.cond x3.1 (A.l1 (.x .tab) x.1 fun x4=>
 A.l1 (.x .poly) x2.1 fun x5=>
 A.l1 .b (A.bl true) fun x6=>
 A.ret _ (x4.1,x5.1,x6.1,()))<|
 A.cg (A.cmp .neq x.2.1 (A.lit 2)) Nr Ns (x.2.2.1,x.2.2.2.1,()) fun x4=>
 A.bind [.i,.x .tab,.x .poly,.x .poly] (A.cond (A.ak (A.cmp .neq x.2.1 (A.lit 2)) (A.cmp .gtr x4.1 (A.lit 0)) (A.bl false)) (A.l1 (.x .poly) x.2.2.2.1 fun x5=>
 A.l1 (.x .poly) x.2.2.1 fun x6=>
 A.ret _ (x.2.1,x.1,x5.1,x6.1,()))<|
 A.ret _ (x.2.1,x.1,x.2.2.1,x.2.2.2.1,())) fun x5=>
 A.cl YA YB (x5.2.1,A.mkX .atom (A.lit 4,x5.1,A.fL .poly 0 .mono x5.2.2.1,A.fL .poly 0 .mono x5.2.2.2.1,()),()) fun x6=>
 A.l1 (.x .tab) x6.1 fun x7=>
 A.l1 .i x6.2.1 fun x8=>
 A.cond (A.cmp .lss x8.1 (A.lit 0)) (A.l1 .b (A.bl false) fun x9=>
 A.ret _ (A.mkX .tab (A.bV .atom,()),A.mkX .poly (A.bV .mono,()),x9.1,()))<|
 A.cl Yy Yz (x8.1,()) fun x9=>
 A.l1 (.x .tab) x7.1 fun x10=>
 A.l1 .b (A.bl true) fun x11=>
 A.ret _ (x10.1,A.mkX .poly (x9.1,()),x11.1,())
def Y9 (A:Alg) (qp:Pt A jr) (qw:Ft A jr) (x:Tup A.ah [.i,.i,.i]):Ot A Nc:=
 A.l1 .b (A.bl false) fun x0=>
 A.cl qp qw (x.2.1,()) fun x1=>
 A.cg x1.1 qp qw (x.2.2.1,()) fun x2=>
 A.rb (A.ak (A.ak x1.1 x2.1 (A.bl false)) (A.ak (A.ak (A.cmp .eql x.1 (A.lit 1)) (A.cmp .eql x.2.1 x.2.2.1) (A.bl false)) (A.bl true) (A.ak (A.cmp .eql x.1 (A.lit 2)) (A.cmp .lss x.2.1 x.2.2.1) (A.bl false))) (A.bl false))
def Za (A:Alg) (zf:Pt A uo) (zh:Ft A uo) (x:Tup A.ah [.l .poly]):Ot A Ng:=
 A.iter [.l .poly,.i,.i,.l .poly] (fun x0=>
 A.cond (A.cmp .lss x0.2.2.1 x0.2.1) (A.bd .poly x0.1 x0.2.2.1<|
 A.l1 (.x .poly) (A.get .poly x0.1 x0.2.2.1) fun x1=>
 A.cl zf zh (x1.1,()) fun x2=>
 A.l1 (.l .poly) (A.lst .poly [A.mkX .poly (x2.1,())]) fun x3=>
 A.chk (A.cmp .leq (A.addN (A.len .poly x0.2.2.2.1) (A.len .poly x3.1)) (A.lit 1073741824))<|
 A.l1 (.l .poly) (A.app .poly x0.2.2.2.1 x3.1) fun x4=>
 A.inl _ (x0.1,x0.2.1,A.arith .add .i64 x0.2.2.1 (A.lit 1),x4.1,()))<|
 A.inr _<|A.ret _ (x0.2.2.2.1,())) (x.1,A.len .poly x.1,A.lit 0,A.bV .poly,())
def Zb (A:Alg) (zf:Pt A uo) (zh:Ft A uo) (acN:Pt A Ng) (acO:Ft A Ng) (x:Tup A.ah [.x .sym]):Ot A Nh:=
 A.cl acN acO (A.fL .sym 1 .poly x.1,()) fun x0=>
 A.cl zf zh (A.mkX .poly (A.fL .sym 3 .mono x.1,()),()) fun x1=>
 A.cl zf zh (A.mkX .poly (A.fL .sym 4 .mono x.1,()),()) fun x2=>
 A.iter [.l .ev,.i,.i,.i,.i,.i,.i,.l .ev,.l .poly,.l .mono,.l .mono] (fun x3=>
 A.cond (A.cmp .lss x3.2.2.1 x3.2.1) (A.bd .ev x3.1 x3.2.2.1<|
 A.l1 (.x .ev) (A.get .ev x3.1 x3.2.2.1) fun x4=>
 A.cl zf zh (A.mkX .poly (A.fL .ev 2 .mono x4.1,()),()) fun x5=>
 A.cl zf zh (A.mkX .poly (A.fL .ev 3 .mono x4.1,()),()) fun x6=>
 A.cl acN acO (A.fL .ev 4 .poly x4.1,()) fun x7=>
 A.l1 (.l .ev) (A.lst .ev [A.mkX .ev (A.fI .ev 0 x4.1,A.fI .ev 1 x4.1,x5.1,x6.1,x7.1,())]) fun x8=>
 A.chk (A.cmp .leq (A.addN (A.len .ev x3.q.2.2.2.1) (A.len .ev x8.1)) (A.lit 1073741824))<|
 A.l1 (.l .ev) (A.app .ev x3.q.2.2.2.1 x8.1) fun x9=>
 A.inl _ (x3.1,x3.2.1,A.arith .add .i64 x3.2.2.1 (A.lit 1),x3.2.2.2.1,x3.q.1,x3.q.2.1,x3.q.2.2.1,x9.1,x3.o.1,x3.o.2.1,x3.o.2.2.1,()))<|
 A.inr _<|A.ret _ (x3.q.2.1,x3.q.2.2.1,x3.q.2.2.2.1,x3.o.1,x3.o.2.1,x3.o.2.2.1,())) (A.fL .sym 0 .ev x.1,A.len .ev (A.fL .sym 0 .ev x.1),A.lit 0,A.lit 0,A.lit 0,A.fI .sym 2 x.1,A.fI .sym 5 x.1,A.bV .ev,x0.1,x1.1,x2.1,())
def Zc (A:Alg) (Ny:Pt A BG) (Nz:Ft A BG) (kL:Pt A iG) (kM:Ft A iG) (Nr:Pt A um) (Ns:Ft A um) (amb:Pt A Nh) (amc:Ft A Nh) (lH:Pt A jv) (lI:Ft A jv) (amd:Pt A Nc) (ame:Ft A Nc) (x:Tup A.ah [.x .sym,.i]):Ot A Ni:=
 A.cl kL kM (A.mkX .poly (A.fL .sym 3 .mono x.1,()),()) fun x0=>
 A.cg (A.aA (A.aA x0.1)) kL kM (A.mkX .poly (A.fL .sym 4 .mono x.1,()),()) fun x1=>
 A.cond (A.ak (A.aA x0.1) (A.bl true) (A.aA x1.1)) (A.ret _ (A.mkX .sym (A.bV .ev,A.bV .poly,A.lit 0,A.bV .mono,A.bV .mono,A.lit 0,()),()))<|
 A.cl amb amc (x.1,()) fun x2=>
 A.cl Ny Nz (A.mkX .poly (A.fL .sym 3 .mono x.1,()),()) fun x3=>
 A.l1 .i x3.1 fun x4=>
 A.l1 .b x3.2.1 fun x5=>
 A.cl Ny Nz (A.mkX .poly (A.fL .sym 4 .mono x.1,()),()) fun x6=>
 A.l1 .i x6.1 fun x7=>
 A.l1 .b x6.2.1 fun x8=>
 A.l1 .i (A.arith .add .i64 (A.arith .sub .i64 (A.fI .sym 2 x.1) (A.lit 3)) (A.lit 1)) fun x9=>
 A.l1 .b (A.ak (A.cmp .eql (A.fI .sym 2 x.1) (A.lit 2)) x5.1 (A.bl false)) fun x10=>
 A.bind [.i,.i,.i,.i,.l .ev,.l .poly,.l .mono,.l .mono] (A.cond x10.1 (A.l1 .i (A.lit 1) fun x11=>
 A.l1 .i x4.1 fun x12=>
 A.ret _ (A.lit 0,A.lit 0,x11.1,x12.1,x2.2.2.1,x2.2.2.2.1,A.bV .mono,A.bV .mono,()))<|
 A.l1 .b (A.ak (A.cmp .neq (A.fI .sym 2 x.1) (A.lit 3)) (A.cmp .neq (A.fI .sym 2 x.1) (A.lit 4)) (A.bl false)) fun x11=>
 A.bind [.i,.i,.i,.i,.l .ev,.l .poly,.l .mono,.l .mono] (A.cond x11.1 (A.ret _ (A.lit 0,A.lit 0,x2.1,x2.2.1,x2.2.2.1,x2.2.2.2.1,x2.q.1,x2.q.2.1,()))<|
 A.cl lH lI (A.mkX .poly (A.fL .sym 3 .mono x.1,()),A.mkX .poly (A.fL .sym 4 .mono x.1,()),()) fun x12=>
 A.l1 .b (A.ak x12.1 (A.bl true) (A.ak x5.1 x8.1 (A.bl false))) fun x13=>
 A.bind [.i,.i,.i,.i,.l .ev,.l .poly,.l .mono,.l .mono] (A.cond x13.1 (A.cl lH lI (A.mkX .poly (A.fL .sym 3 .mono x.1,()),A.mkX .poly (A.fL .sym 4 .mono x.1,()),()) fun x14=>
 A.cg (A.jQ (A.aA (A.ak x14.1 (A.cmp .eql (A.fI .sym 2 x.1) (A.lit 3)) (A.bl false))) (A.ak x5.1 x8.1 (A.bl false))) amd ame (x9.1,x4.1,x7.1,()) fun x15=>
 A.l1 .b (A.ak (A.ak x14.1 (A.cmp .eql (A.fI .sym 2 x.1) (A.lit 3)) (A.bl false)) (A.bl true) (A.ak (A.ak x5.1 x8.1 (A.bl false)) x15.1 (A.bl false))) fun x16=>
 A.l1 .i (A.lit 1) fun x17=>
 A.bind [.i,.i,.i,.i,.l .ev,.l .poly] (A.cond (A.aA x16.1) (A.l1 .i x.2.1 fun x18=>
 A.ret _ (A.lit 0,A.lit 0,x17.1,x18.1,x2.2.2.1,x2.2.2.2.1,()))<|
 A.ret _ (A.lit 0,A.lit 0,x17.1,x2.2.1,x2.2.2.1,x2.2.2.2.1,())) fun x18=>
 A.ret _ (x18.1,x18.2.1,x18.2.2.1,x18.2.2.2.1,x18.q.1,x18.q.2.1,A.bV .mono,A.bV .mono,()))<|
 A.cg (A.cmp .eql (A.fI .sym 2 x.1) (A.lit 3)) Nr Ns (A.mkX .poly (A.fL .sym 3 .mono x.1,()),A.mkX .poly (A.fL .sym 4 .mono x.1,()),()) fun x14=>
 A.l1 .b (A.ak (A.cmp .eql (A.fI .sym 2 x.1) (A.lit 3)) (A.cmp .gtr x14.1 (A.lit 0)) (A.bl false)) fun x15=>
 A.bind [.i,.i,.i,.i,.l .ev,.l .poly,.l .mono,.l .mono] (A.cond x15.1 (A.ret _ (A.lit 0,A.lit 0,x2.1,x2.2.1,x2.2.2.1,x2.2.2.2.1,x2.q.2.1,x2.q.1,()))<|
 A.ret _ (A.lit 0,A.lit 0,x2.1,x2.2.1,x2.2.2.1,x2.2.2.2.1,x2.q.1,x2.q.2.1,())) fun x16=>
 A.ret _ (x16.1,x16.2.1,x16.2.2.1,x16.2.2.2.1,x16.q.1,x16.q.2.1,x16.q.2.2.1,x16.q.2.2.2.1,())) fun x14=>
 A.ret _ (x14.1,x14.2.1,x14.2.2.1,x14.2.2.2.1,x14.q.1,x14.q.2.1,x14.q.2.2.1,x14.q.2.2.2.1,())) fun x12=>
 A.ret _ (x12.1,x12.2.1,x12.2.2.1,x12.2.2.2.1,x12.q.1,x12.q.2.1,x12.q.2.2.1,x12.q.2.2.2.1,())) fun x11=>
 A.ret _ (A.mkX .sym (x11.q.1,x11.q.2.1,x11.2.2.1,x11.q.2.2.1,x11.q.2.2.2.1,x11.2.2.2.1,()),())
def Zd (A:Alg) (X3:Pt A Bj) (X4:Ft A Bj) (UE:Pt A Bn) (UF:Ft A Bn) (amf:Pt A M0) (amg:Ft A M0) (XU:Pt A Bd) (XV:Ft A Bd) (Nv:Pt A uw) (Nw:Ft A uw) (amh:Pt A Ni) (ami:Ft A Ni) (amj:Pt A M4) (amk:Ft A M4) (YJ:Pt A BF) (YK:Ft A BF) (aml:Pt A Nb) (amm:Ft A Nb) (UC:Pt A Bz) (UD:Ft A Bz) (YL:Pt A BA) (YM:Ft A BA) (amn:Pt A M5) (amo:Ft A M5) (x:Tup A.ah [.x .tab,.x .blk]):Ot A Nj:=
 A.cl amj amk (x.1,()) fun x0=>
 A.cg (A.aA (A.ak (A.aA x0.1) (A.bl true) (A.cmp .gtr (A.len .atom (A.fL .tab 0 .atom x.1)) (A.lit 100)))) UE UF (x.2.1,()) fun x1=>
 A.cond (A.ak (A.ak (A.aA x0.1) (A.bl true) (A.cmp .gtr (A.len .atom (A.fL .tab 0 .atom x.1)) (A.lit 100))) (A.bl true) (A.aA x1.1)) (A.ret _ (A.mkX .tab (A.bV .atom,()),A.mkX .sym (A.bV .ev,A.bV .poly,A.lit 0,A.bV .mono,A.bV .mono,A.lit 0,()),()))<|
 A.cl YL YM (A.fL .tab 0 .atom x.1,A.bl false,()) fun x2=>
 A.chk (A.cmp .eql (A.len .iop (A.fL .blk 2 .iop x.2.1)) (A.len .iop (A.fL .blk 2 .iop x.2.1)))<|
 A.chk (A.cmp .leq (A.lit 0) (A.len .iop (A.fL .blk 2 .iop x.2.1)))<|
 A.chk (A.cmp .leq (A.len .iop (A.fL .blk 2 .iop x.2.1)) (A.lit 1073741824))<|
 A.l1 (.l .poly) (A.rep .poly (A.len .iop (A.fL .blk 2 .iop x.2.1)) (A.mkX .poly (A.bV .mono,()))) fun x3=>
 A.l1 .i (A.lit 0) fun x4=>
 A.l1 .i (A.lit 0) fun x5=>
 A.iter [.i,.i,.l .iop,.i,.i,.x .blk,.i,.i,.l .atom,.b,.i,.i,.l .poly,.l .ev,.l .poly] (fun x6=>
 A.cond (A.cmp .lss x6.q.1 x6.2.2.2.1) (A.bd .iop x6.2.2.1 x6.q.1<|
 A.l1 .i x6.q.1 fun x7=>
 A.l1 (.x .iop) (A.get .iop x6.2.2.1 x6.q.1) fun x8=>
 A.cl XU XV (x8.1,()) fun x9=>
 A.l1 .b x9.1 fun x10=>
 A.l1 .b x9.2.1 fun x11=>
 A.l1 .b x9.2.2.1 fun x12=>
 A.l1 .b x9.2.2.2.1 fun x13=>
 A.bind [.i,.i,.i,.b,.l .iop,.i,.i,.x .blk,.i,.i,.l .atom,.b,.i,.i,.l .poly,.x .iop,.x .poly,.l .ev,.l .poly] (A.cond x10.1 (A.bd .poly x6.o.q.1 (A.fI .iop 1 x8.1)<|
 A.bd .poly x6.o.q.1 (A.fI .iop 1 x8.1)<|
 A.l1 (.x .poly) (A.get .poly x6.o.q.1 (A.fI .iop 1 x8.1)) fun x14=>
 A.ret _ (x6.1,x6.2.1,x7.1,x11.1,x6.2.2.1,x6.2.2.2.1,x6.q.1,x6.q.2.1,x6.q.2.2.1,x6.q.2.2.2.1,x6.o.1,x6.o.2.1,x6.o.2.2.1,x6.o.2.2.2.1,x6.o.q.1,x8.1,x14.1,x6.o.q.2.1,x6.o.q.2.2.1,()))<|
 A.ret _ (x6.1,x6.2.1,x7.1,x11.1,x6.2.2.1,x6.2.2.2.1,x6.q.1,x6.q.2.1,x6.q.2.2.1,x6.q.2.2.2.1,x6.o.1,x6.o.2.1,x6.o.2.2.1,x6.o.2.2.2.1,x6.o.q.1,x8.1,A.mkX .poly (A.bV .mono,()),x6.o.q.2.1,x6.o.q.2.2.1,())) fun x14=>
 A.bind [.i,.i,.i,.l .iop,.i,.i,.x .blk,.i,.i,.l .atom,.b,.i,.i,.l .poly,.x .iop,.x .poly,.x .poly,.l .ev,.l .poly] (A.cond x14.2.2.2.1 (A.bd .poly x14.o.q.2.2.1 (A.fI .iop 2 x14.o.q.2.2.2.1)<|
 A.bd .poly x14.o.q.2.2.1 (A.fI .iop 2 x14.o.q.2.2.2.1)<|
 A.l1 (.x .poly) (A.get .poly x14.o.q.2.2.1 (A.fI .iop 2 x14.o.q.2.2.2.1)) fun x15=>
 A.ret _ (x14.1,x14.2.1,x14.2.2.1,x14.q.1,x14.q.2.1,x14.q.2.2.1,x14.q.2.2.2.1,x14.o.1,x14.o.2.1,x14.o.2.2.1,x14.o.2.2.2.1,x14.o.q.1,x14.o.q.2.1,x14.o.q.2.2.1,x14.o.q.2.2.2.1,x14.o.o.1,x15.1,x14.o.o.2.1,x14.o.o.2.2.1,()))<|
 A.ret _ (x14.1,x14.2.1,x14.2.2.1,x14.q.1,x14.q.2.1,x14.q.2.2.1,x14.q.2.2.2.1,x14.o.1,x14.o.2.1,x14.o.2.2.1,x14.o.2.2.2.1,x14.o.q.1,x14.o.q.2.1,x14.o.q.2.2.1,x14.o.q.2.2.2.1,x14.o.o.1,A.mkX .poly (A.bV .mono,()),x14.o.o.2.1,x14.o.o.2.2.1,())) fun x15=>
 A.cl amf amg (x15.o.q.2.2.1,()) fun x16=>
 A.bind [.i,.i,.i,.l .iop,.i,.i,.x .blk,.i,.i,.l .atom,.b,.i,.i,.l .poly,.x .iop,.x .poly,.x .poly,.l .ev,.l .poly] (A.cond x16.1 (A.bind [.i,.i,.i,.l .iop,.i,.i,.x .blk,.i,.i,.l .atom,.b,.i,.i,.l .poly,.x .iop,.x .poly,.x .poly,.i,.i,.l .mono,.l .mono,.l .ev,.l .poly,.l .poly] (A.cond (A.ak (A.cmp .eql (A.fI .iop 0 x15.o.q.2.2.1) (A.lit 4)) (A.bl true) (A.cmp .eql (A.fI .iop 0 x15.o.q.2.2.1) (A.lit 5))) (A.cl amn amo (x15.o.o.2.2.1,()) fun x17=>
 A.ret _ (x15.1,x15.2.1,x15.2.2.1,x15.2.2.2.1,x15.q.1,x15.q.2.1,x15.q.2.2.1,x15.q.2.2.2.1,x15.o.1,x15.o.2.1,x15.o.2.2.1,x15.o.2.2.2.1,x15.o.q.1,x15.o.q.2.1,x15.o.q.2.2.1,x15.o.q.2.2.2.1,x15.o.o.1,A.fI .iop 0 x15.o.q.2.2.1,A.fI .iop 4 x15.o.q.2.2.1,A.fL .poly 0 .mono x15.o.q.2.2.2.1,A.fL .poly 0 .mono x15.o.o.1,x15.o.o.2.1,x17.1,x17.2.1,()))<|
 A.ret _ (x15.1,x15.2.1,x15.2.2.1,x15.2.2.2.1,x15.q.1,x15.q.2.1,x15.q.2.2.1,x15.q.2.2.2.1,x15.o.1,x15.o.2.1,x15.o.2.2.1,x15.o.2.2.2.1,x15.o.q.1,x15.o.q.2.1,x15.o.q.2.2.1,x15.o.q.2.2.2.1,x15.o.o.1,A.fI .iop 0 x15.o.q.2.2.1,A.fI .iop 4 x15.o.q.2.2.1,A.fL .poly 0 .mono x15.o.q.2.2.2.1,A.fL .poly 0 .mono x15.o.o.1,x15.o.o.2.1,x15.o.o.2.2.1,A.bV .poly,())) fun x17=>
 A.l1 (.l .ev) (A.lst .ev [A.mkX .ev (x17.o.o.2.1,x17.o.o.2.2.1,x17.o.o.2.2.2.1,x17.o.o.q.1,x17.o.o.q.2.2.2.1,())]) fun x18=>
 A.chk (A.cmp .leq (A.addN (A.len .ev x17.o.o.q.2.1) (A.len .ev x18.1)) (A.lit 1073741824))<|
 A.l1 (.l .ev) (A.app .ev x17.o.o.q.2.1 x18.1) fun x19=>
 A.ret _ (x17.1,x17.2.1,x17.2.2.1,x17.2.2.2.1,x17.q.1,x17.q.2.1,x17.q.2.2.1,x17.q.2.2.2.1,x17.o.1,x17.o.2.1,x17.o.2.2.1,x17.o.2.2.2.1,x17.o.q.1,x17.o.q.2.1,x17.o.q.2.2.1,x17.o.q.2.2.2.1,x17.o.o.1,x19.1,x17.o.o.q.2.2.1,()))<|
 A.ret _ (x15.1,x15.2.1,x15.2.2.1,x15.2.2.2.1,x15.q.1,x15.q.2.1,x15.q.2.2.1,x15.q.2.2.2.1,x15.o.1,x15.o.2.1,x15.o.2.2.1,x15.o.2.2.2.1,x15.o.q.1,x15.o.q.2.1,x15.o.q.2.2.1,x15.o.q.2.2.2.1,x15.o.o.1,x15.o.o.2.1,x15.o.o.2.2.1,())) fun x17=>
 A.l1 .b (A.cmp .eql (A.fI .iop 0 x17.o.q.2.2.1) (A.lit 1)) fun x18=>
 A.kI [.i,.i,.l .iop,.i,.i,.x .blk,.i,.i,.l .atom,.b,.i,.i,.l .poly,.l .ev,.l .poly] (A.cond x18.1 (A.cl Nv Nw (A.fI .iop 3 x17.o.q.2.2.1,()) fun x19=>
 A.bd .poly x17.o.q.2.1 x17.2.2.1<|
 A.bd .poly x17.o.q.2.1 x17.2.2.1<|
 A.inl _ (x17.1,x17.2.1,x17.2.2.2.1,x17.q.1,x17.q.2.1,x17.q.2.2.1,x17.q.2.2.2.1,x17.o.1,x17.o.2.1,x17.o.2.2.1,x17.o.2.2.2.1,x17.o.q.1,A.set .poly x17.o.q.2.1 x17.2.2.1 (A.mkX .poly (x19.1,())),x17.o.o.2.1,x17.o.o.2.2.1,()))<|
 A.l1 .b (A.cmp .eql (A.fI .iop 0 x17.o.q.2.2.1) (A.lit 2)) fun x19=>
 A.kI [.i,.i,.l .iop,.i,.i,.x .blk,.i,.i,.l .atom,.b,.i,.i,.l .poly,.l .ev,.l .poly] (A.cond x19.1 (A.bd .poly x17.o.o.2.2.1 (A.fI .iop 3 x17.o.q.2.2.1)<|
 A.bd .poly x17.o.o.2.2.1 (A.fI .iop 3 x17.o.q.2.2.1)<|
 A.bd .poly x17.o.q.2.1 x17.2.2.1<|
 A.bd .poly x17.o.q.2.1 x17.2.2.1<|
 A.l1 (.x .poly) (A.get .poly x17.o.o.2.2.1 (A.fI .iop 3 x17.o.q.2.2.1)) fun x20=>
 A.inl _ (x17.1,x17.2.1,x17.2.2.2.1,x17.q.1,x17.q.2.1,x17.q.2.2.1,x17.q.2.2.2.1,x17.o.1,x17.o.2.1,x17.o.2.2.1,x17.o.2.2.2.1,x17.o.q.1,A.set .poly x17.o.q.2.1 x17.2.2.1 x20.1,x17.o.o.2.1,x17.o.o.2.2.1,()))<|
 A.l1 .b (A.cmp .eql (A.fI .iop 0 x17.o.q.2.2.1) (A.lit 3)) fun x20=>
 A.kI [.i,.i,.l .iop,.i,.i,.x .blk,.i,.i,.l .atom,.b,.i,.i,.l .poly,.l .ev,.l .poly] (A.cond x20.1 (A.cl aml amm (A.mkX .tab (x17.o.2.1,()),A.fI .iop 3 x17.o.q.2.2.1,x17.o.q.2.2.2.1,x17.o.o.1,()) fun x21=>
 A.l1 (.x .tab) x21.1 fun x22=>
 A.l1 (.x .poly) x21.2.1 fun x23=>
 A.l1 .b x21.2.2.1 fun x24=>
 A.cond (A.aA x24.1) (A.inr _<|A.inr _<|A.inr _<|A.inr _<|A.ret _ (A.mkX .tab (A.bV .atom,()),A.mkX .sym (A.bV .ev,A.bV .poly,A.lit 0,A.bV .mono,A.bV .mono,A.lit 0,()),()))<|
 A.l1 (.x .tab) x22.1 fun x25=>
 A.bd .poly x17.o.q.2.1 x17.2.2.1<|
 A.bd .poly x17.o.q.2.1 x17.2.2.1<|
 A.l1 (.x .poly) x23.1 fun x26=>
 A.inl _ (x17.1,x17.2.1,x17.2.2.2.1,x17.q.1,x17.q.2.1,x17.q.2.2.1,x17.q.2.2.2.1,x17.o.1,A.fL .tab 0 .atom x25.1,x17.o.2.2.1,x17.o.2.2.2.1,x17.o.q.1,A.set .poly x17.o.q.2.1 x17.2.2.1 x26.1,x17.o.o.2.1,x17.o.o.2.2.1,()))<|
 A.l1 .b (A.cmp .eql (A.fI .iop 0 x17.o.q.2.2.1) (A.lit 4)) fun x21=>
 A.bind [.i,.i,.l .iop,.i,.i,.x .blk,.i,.i,.l .atom,.b,.i,.i,.l .poly,.l .ev,.l .poly] (A.cond x21.1 (A.cl UC UD (A.lit 2,x17.1,x17.o.2.1,x17.o.2.2.1,()) fun x22=>
 A.bd .poly x17.o.q.2.1 x17.2.2.1<|
 A.bd .poly x17.o.q.2.1 x17.2.2.1<|
 A.l1 (.x .poly) x22.1 fun x23=>
 A.l1 .i (A.arith .add .i64 x17.1 (A.lit 1)) fun x24=>
 A.ret _ (x24.1,x17.2.1,x17.2.2.2.1,x17.q.1,x17.q.2.1,x17.q.2.2.1,x17.q.2.2.2.1,x17.o.1,x22.2.1,x22.2.2.1,x17.o.2.2.2.1,x17.o.q.1,A.set .poly x17.o.q.2.1 x17.2.2.1 x23.1,x17.o.o.2.1,x17.o.o.2.2.1,()))<|
 A.l1 .b (A.cmp .eql (A.fI .iop 0 x17.o.q.2.2.1) (A.lit 6)) fun x22=>
 A.bind [.i,.i,.l .iop,.i,.i,.x .blk,.i,.i,.l .atom,.b,.i,.i,.l .poly,.l .ev,.l .poly] (A.cond x22.1 (A.cl UC UD (A.lit 3,x17.2.1,x17.o.2.1,x17.o.2.2.1,()) fun x23=>
 A.bd .poly x17.o.q.2.1 x17.2.2.1<|
 A.bd .poly x17.o.q.2.1 x17.2.2.1<|
 A.l1 (.x .poly) x23.1 fun x24=>
 A.l1 .i (A.arith .add .i64 x17.2.1 (A.lit 1)) fun x25=>
 A.ret _ (x17.1,x25.1,x17.2.2.2.1,x17.q.1,x17.q.2.1,x17.q.2.2.1,x17.q.2.2.2.1,x17.o.1,x23.2.1,x23.2.2.1,x17.o.2.2.2.1,x17.o.q.1,A.set .poly x17.o.q.2.1 x17.2.2.1 x24.1,x17.o.o.2.1,x17.o.o.2.2.1,()))<|
 A.l1 .b (A.cmp .eql (A.fI .iop 0 x17.o.q.2.2.1) (A.lit 8)) fun x23=>
 A.bind [.i,.i,.l .iop,.i,.i,.x .blk,.i,.i,.l .atom,.b,.i,.i,.l .poly,.l .ev,.l .poly] (A.cond x23.1 (A.bd .poly x17.o.o.2.2.1 (A.fI .iop 3 x17.o.q.2.2.1)<|
 A.bd .poly x17.o.o.2.2.1 (A.fI .iop 3 x17.o.q.2.2.1)<|
 A.l1 (.x .poly) x17.o.q.2.2.2.1 fun x24=>
 A.ret _ (x17.1,x17.2.1,x17.2.2.2.1,x17.q.1,x17.q.2.1,x17.q.2.2.1,x17.q.2.2.2.1,x17.o.1,x17.o.2.1,x17.o.2.2.1,x17.o.2.2.2.1,x17.o.q.1,x17.o.q.2.1,x17.o.o.2.1,A.set .poly x17.o.o.2.2.1 (A.fI .iop 3 x17.o.q.2.2.1) x24.1,()))<|
 A.ret _ (x17.1,x17.2.1,x17.2.2.2.1,x17.q.1,x17.q.2.1,x17.q.2.2.1,x17.q.2.2.2.1,x17.o.1,x17.o.2.1,x17.o.2.2.1,x17.o.2.2.2.1,x17.o.q.1,x17.o.q.2.1,x17.o.o.2.1,x17.o.o.2.2.1,())) fun x24=>
 A.ret _ (x24.1,x24.2.1,x24.2.2.1,x24.2.2.2.1,x24.q.1,x24.q.2.1,x24.q.2.2.1,x24.q.2.2.2.1,x24.o.1,x24.o.2.1,x24.o.2.2.1,x24.o.2.2.2.1,x24.o.q.1,x24.o.q.2.1,x24.o.q.2.2.1,())) fun x23=>
 A.ret _ (x23.1,x23.2.1,x23.2.2.1,x23.2.2.2.1,x23.q.1,x23.q.2.1,x23.q.2.2.1,x23.q.2.2.2.1,x23.o.1,x23.o.2.1,x23.o.2.2.1,x23.o.2.2.2.1,x23.o.q.1,x23.o.q.2.1,x23.o.q.2.2.1,())) fun x22=>
 A.inl _ (x22.1,x22.2.1,x22.2.2.1,x22.2.2.2.1,x22.q.1,x22.q.2.1,x22.q.2.2.1,x22.q.2.2.2.1,x22.o.1,x22.o.2.1,x22.o.2.2.1,x22.o.2.2.2.1,x22.o.q.1,x22.o.q.2.1,x22.o.q.2.2.1,())) fun x21=>
 A.inl _ (x21.1,x21.2.1,x21.2.2.1,x21.2.2.2.1,x21.q.1,x21.q.2.1,x21.q.2.2.1,x21.q.2.2.2.1,x21.o.1,x21.o.2.1,x21.o.2.2.1,x21.o.2.2.2.1,x21.o.q.1,x21.o.q.2.1,x21.o.q.2.2.1,())) fun x20=>
 A.inl _ (x20.1,x20.2.1,x20.2.2.1,x20.2.2.2.1,x20.q.1,x20.q.2.1,x20.q.2.2.1,x20.q.2.2.2.1,x20.o.1,x20.o.2.1,x20.o.2.2.1,x20.o.2.2.2.1,x20.o.q.1,x20.o.q.2.1,x20.o.q.2.2.1,())) fun x19=>
 A.inl _ (x19.1,x19.2.1,x19.2.2.1,x19.2.2.2.1,A.arith .add .i64 x19.q.1 (A.lit 1),x19.q.2.1,x19.q.2.2.1,x19.q.2.2.2.1,x19.o.1,x19.o.2.1,x19.o.2.2.1,x19.o.2.2.2.1,x19.o.q.1,x19.o.q.2.1,x19.o.q.2.2.1,()))<|
 A.inr _<|A.cl X3 X4 (x6.q.2.1,()) fun x7=>
 A.l1 .b x7.1 fun x8=>
 A.l1 .b x7.2.1 fun x9=>
 A.l1 .b x7.2.2.1 fun x10=>
 A.bind [.b,.x .blk,.i,.i,.l .atom,.b,.i,.l .mono,.i,.l .poly,.l .ev,.l .poly] (A.cond x8.1 (A.bd .poly x6.o.q.1 (A.fI .blk 4 x6.q.2.1)<|
 A.bd .poly x6.o.q.1 (A.fI .blk 4 x6.q.2.1)<|
 A.l1 (.x .poly) (A.get .poly x6.o.q.1 (A.fI .blk 4 x6.q.2.1)) fun x11=>
 A.ret _ (x9.1,x6.q.2.1,x6.q.2.2.1,x6.q.2.2.2.1,x6.o.1,x6.o.2.1,x6.o.2.2.1,A.fL .poly 0 .mono x11.1,x6.o.2.2.2.1,x6.o.q.1,x6.o.q.2.1,x6.o.q.2.2.1,()))<|
 A.ret _ (x9.1,x6.q.2.1,x6.q.2.2.1,x6.q.2.2.2.1,x6.o.1,x6.o.2.1,x6.o.2.2.1,A.bV .mono,x6.o.2.2.2.1,x6.o.q.1,x6.o.q.2.1,x6.o.q.2.2.1,())) fun x11=>
 A.bind [.x .blk,.i,.i,.l .atom,.b,.i,.l .mono,.l .mono,.i,.l .ev,.l .poly] (A.cond x11.1 (A.bd .poly x11.o.2.1 (A.fI .blk 5 x11.2.1)<|
 A.bd .poly x11.o.2.1 (A.fI .blk 5 x11.2.1)<|
 A.l1 (.x .poly) (A.get .poly x11.o.2.1 (A.fI .blk 5 x11.2.1)) fun x12=>
 A.ret _ (x11.2.1,x11.2.2.1,x11.2.2.2.1,x11.q.1,x11.q.2.1,x11.q.2.2.1,x11.q.2.2.2.1,A.fL .poly 0 .mono x12.1,x11.o.1,x11.o.2.2.1,x11.o.2.2.2.1,()))<|
 A.ret _ (x11.2.1,x11.2.2.1,x11.2.2.2.1,x11.q.1,x11.q.2.1,x11.q.2.2.1,x11.q.2.2.2.1,A.bV .mono,x11.o.1,x11.o.2.2.1,x11.o.2.2.2.1,())) fun x12=>
 A.cond x12.q.1 (A.ret _ (A.mkX .tab (A.bV .atom,()),A.mkX .sym (A.bV .ev,A.bV .poly,A.lit 0,A.bV .mono,A.bV .mono,A.lit 0,()),()))<|
 A.cl YJ YK (A.mkX .tab (x12.2.2.2.1,()),()) fun x13=>
 A.cl amh ami (A.mkX .sym (x12.o.2.1,x12.o.2.2.1,x12.q.2.1,x12.q.2.2.1,x12.q.2.2.2.1,x12.o.1,()),A.arith .add .i64 (A.fI .blk 0 x12.1) (A.fI .blk 1 x12.1),()) fun x14=>
 A.l1 (.x .sym) x14.1 fun x15=>
 A.ret _ (A.mkX .tab (x13.1,()),x15.1,())) (x4.1,x5.1,A.fL .blk 2 .iop x.2.1,A.len .iop (A.fL .blk 2 .iop x.2.1),A.lit 0,x.2.1,A.lit 0,A.lit 0,x2.1,x2.2.1,A.fI .blk 3 x.2.1,A.fI .blk 6 x.2.1,x3.1,A.bV .ev,x2.2.2.1,())
def Ze (A:Alg) (lH:Pt A jv) (lI:Ft A jv) (x:Tup A.ah [.x .poly,.x .poly]):Ot A Nk:=
 A.l1 .b (A.bl false) fun x0=>
 A.cl lH lI (x.1,x.2.1,()) fun x1=>
 A.rb x1.1
def Rw (A:Alg) (amq:Pt A Nk) (amr:Ft A Nk) (x:Tup A.ah [.l .poly,.l .poly]):Ot A Fj:=
 A.l1 .b (A.bl false) fun x0=>
 A.cond (A.cmp .neq (A.len .poly x.1) (A.len .poly x.2.1)) (A.rb (A.bl false))<|
 A.iter [.l .poly,.l .poly,.i,.i] (fun x1=>
 A.cond (A.cmp .lss x1.2.2.2.1 x1.2.2.1) (A.bd .poly x1.2.1 x1.2.2.2.1<|
 A.l1 .i x1.2.2.2.1 fun x2=>
 A.l1 (.x .poly) (A.get .poly x1.2.1 x1.2.2.2.1) fun x3=>
 A.bd .poly x1.1 x2.1<|
 A.l1 (.x .poly) (A.get .poly x1.1 x2.1) fun x4=>
 A.cl amq amr (x3.1,x4.1,()) fun x5=>
 A.cond (A.aA x5.1) (A.l1 .b (A.bl false) fun x6=>
 A.inr _<|A.ret _ (x6.1,()))<|
 A.inl _ (x1.1,x1.2.1,x1.2.2.1,A.arith .add .i64 x1.2.2.2.1 (A.lit 1),()))<|
 A.inr _<|A.rb (A.bl true)) (x.2.1,x.1,A.len .poly x.1,A.lit 0,())
def Zf (A:Alg) (afU:Pt A Fj) (afV:Ft A Fj) (x:Tup A.ah [.l .poly,.l .poly]):Ot A BK:=
 A.l1 .b (A.bl false) fun x0=>
 A.cl afU afV (x.1,x.2.1,()) fun x1=>
 A.rb x1.1
def Zg (A:Alg) (lH:Pt A jv) (lI:Ft A jv) (Zh:Pt A BK) (Zi:Ft A BK) (x:Tup A.ah [.x .ev,.x .ev]):Ot A Nl:=
 A.l1 .b (A.bl false) fun x0=>
 A.cg (A.ak (A.cmp .eql (A.fI .ev 0 x.1) (A.fI .ev 0 x.2.1)) (A.cmp .eql (A.fI .ev 1 x.1) (A.fI .ev 1 x.2.1)) (A.bl false)) lH lI (A.mkX .poly (A.fL .ev 2 .mono x.1,()),A.mkX .poly (A.fL .ev 2 .mono x.2.1,()),()) fun x1=>
 A.cg (A.ak (A.ak (A.cmp .eql (A.fI .ev 0 x.1) (A.fI .ev 0 x.2.1)) (A.cmp .eql (A.fI .ev 1 x.1) (A.fI .ev 1 x.2.1)) (A.bl false)) x1.1 (A.bl false)) lH lI (A.mkX .poly (A.fL .ev 3 .mono x.1,()),A.mkX .poly (A.fL .ev 3 .mono x.2.1,()),()) fun x2=>
 A.cg (A.ak (A.ak (A.ak (A.cmp .eql (A.fI .ev 0 x.1) (A.fI .ev 0 x.2.1)) (A.cmp .eql (A.fI .ev 1 x.1) (A.fI .ev 1 x.2.1)) (A.bl false)) x1.1 (A.bl false)) x2.1 (A.bl false)) Zh Zi (A.fL .ev 4 .poly x.1,A.fL .ev 4 .poly x.2.1,()) fun x3=>
 A.rb (A.ak (A.ak (A.ak (A.ak (A.cmp .eql (A.fI .ev 0 x.1) (A.fI .ev 0 x.2.1)) (A.cmp .eql (A.fI .ev 1 x.1) (A.fI .ev 1 x.2.1)) (A.bl false)) x1.1 (A.bl false)) x2.1 (A.bl false)) x3.1 (A.bl false))
def Rx (A:Alg) (ams:Pt A Nl) (amt:Ft A Nl) (x:Tup A.ah [.l .ev,.l .ev]):Ot A Fp:=
 A.l1 .b (A.bl false) fun x0=>
 A.cond (A.cmp .neq (A.len .ev x.1) (A.len .ev x.2.1)) (A.rb (A.bl false))<|
 A.iter [.l .ev,.l .ev,.i,.i] (fun x1=>
 A.cond (A.cmp .lss x1.2.2.2.1 x1.2.2.1) (A.bd .ev x1.2.1 x1.2.2.2.1<|
 A.l1 .i x1.2.2.2.1 fun x2=>
 A.l1 (.x .ev) (A.get .ev x1.2.1 x1.2.2.2.1) fun x3=>
 A.bd .ev x1.1 x2.1<|
 A.l1 (.x .ev) (A.get .ev x1.1 x2.1) fun x4=>
 A.cl ams amt (x3.1,x4.1,()) fun x5=>
 A.cond (A.aA x5.1) (A.l1 .b (A.bl false) fun x6=>
 A.inr _<|A.ret _ (x6.1,()))<|
 A.inl _ (x1.1,x1.2.1,x1.2.2.1,A.arith .add .i64 x1.2.2.2.1 (A.lit 1),()))<|
 A.inr _<|A.rb (A.bl true)) (x.2.1,x.1,A.len .ev x.1,A.lit 0,())
def Zj (A:Alg) (lH:Pt A jv) (lI:Ft A jv) (Zh:Pt A BK) (Zi:Ft A BK) (afW:Pt A Fp) (afX:Ft A Fp) (x:Tup A.ah [.x .sym,.x .sym]):Ot A Nn:=
 A.l1 .b (A.bl false) fun x0=>
 A.cl afW afX (A.fL .sym 0 .ev x.1,A.fL .sym 0 .ev x.2.1,()) fun x1=>
 A.l1 .b x1.1 fun x2=>
 A.cg x2.1 Zh Zi (A.fL .sym 1 .poly x.1,A.fL .sym 1 .poly x.2.1,()) fun x3=>
 A.cg (A.ak (A.ak x2.1 x3.1 (A.bl false)) (A.cmp .eql (A.fI .sym 2 x.1) (A.fI .sym 2 x.2.1)) (A.bl false)) lH lI (A.mkX .poly (A.fL .sym 3 .mono x.1,()),A.mkX .poly (A.fL .sym 3 .mono x.2.1,()),()) fun x4=>
 A.cg (A.ak (A.ak (A.ak x2.1 x3.1 (A.bl false)) (A.cmp .eql (A.fI .sym 2 x.1) (A.fI .sym 2 x.2.1)) (A.bl false)) x4.1 (A.bl false)) lH lI (A.mkX .poly (A.fL .sym 4 .mono x.1,()),A.mkX .poly (A.fL .sym 4 .mono x.2.1,()),()) fun x5=>
 A.rb (A.ak (A.ak (A.ak (A.ak (A.ak x2.1 x3.1 (A.bl false)) (A.cmp .eql (A.fI .sym 2 x.1) (A.fI .sym 2 x.2.1)) (A.bl false)) x4.1 (A.bl false)) x5.1 (A.bl false)) (A.cmp .eql (A.fI .sym 5 x.1) (A.fI .sym 5 x.2.1)) (A.bl false))
def Zk (A:Alg) (UE:Pt A Bn) (UF:Ft A Bn) (UG:Pt A Bo) (UH:Ft A Bo) (amu:Pt A MZ) (amv:Ft A MZ) (acP:Pt A Nj) (acQ:Ft A Nj) (amw:Pt A Nn) (amx:Ft A Nn) (x:Tup A.ah [.x .blk,.x .blk]):Ot A BL:=
 A.l1 .b (A.bl false) fun x0=>
 A.cl UE UF (x.1,()) fun x1=>
 A.cg (A.aA (A.aA x1.1)) UE UF (x.2.1,()) fun x2=>
 A.cond (A.ak (A.ak (A.ak (A.aA x1.1) (A.bl true) (A.aA x2.1)) (A.bl true) (A.cmp .neq (A.fI .blk 0 x.1) (A.fI .blk 0 x.2.1))) (A.bl true) (A.cmp .neq (A.fI .blk 1 x.1) (A.fI .blk 1 x.2.1))) (A.rb (A.bl false))<|
 A.cl UG UH (x.1,x.2.1,()) fun x3=>
 A.cond x3.1 (A.rb (A.bl true))<|
 A.cl amu amv () fun x4=>
 A.l1 (.x .tab) x4.1 fun x5=>
 A.l1 (.l .poly) x4.2.1 fun x6=>
 A.cl acP acQ (x5.1,x.1,()) fun x7=>
 A.l1 (.x .tab) x7.1 fun x8=>
 A.l1 (.x .sym) x7.2.1 fun x9=>
 A.cl acP acQ (x8.1,x.2.1,()) fun x10=>
 A.l1 (.x .tab) x10.1 fun x11=>
 A.l1 (.x .sym) x10.2.1 fun x12=>
 A.cl amw amx (x9.1,x12.1,()) fun x13=>
 A.rb x13.1
def Ry (A:Alg) (uD:Pt A mK) (uE:Ft A mK) (Q0:Pt A tO) (Q5:Ft A tO) (aO:Pt A bO) (aP:Ft A bO) (Ag:Pt A mM) (Ah:Ft A mM) (Kn:Pt A uj) (Ko:Ft A uj) (x:Tup A.ah [.i,.l .u8,.i]):Ot A Fq:=
 A.l1 (.l .cer) (A.lst .cer []) fun x0=>
 A.cl aO aP (A.lit 4,x.2.1,x.2.2.1,()) fun x1=>
 A.l1 .i x1.1 fun x2=>
 A.iter [.i,.i,.l .u8,.i,.l .cer] (fun x3=>
 A.cond (A.cmp .gtr x3.2.1 (A.lit 0)) (A.cl Kn Ko (x3.2.2.1,x3.2.2.2.1,()) fun x4=>
 A.cl uD uE (A.mkX .blk (x4.1,x4.2.1,x4.o.1,x4.2.2.1,x4.2.2.2.1,x4.q.1,x4.q.2.1,()),()) fun x5=>
 A.l1 (.l .cer) (A.lst .cer [A.mkX .cer (x4.1,x4.2.1,x4.o.1,x4.2.2.1,x4.2.2.2.1,x4.q.1,x4.q.2.1,x5.1,x5.2.1,x5.q.2.2.1,x5.2.2.1,x5.2.2.2.1,x5.q.1,x5.q.2.1,())]) fun x6=>
 A.chk (A.cmp .leq (A.addN (A.len .cer x3.q.1) (A.len .cer x6.1)) (A.lit 1073741824))<|
 A.l1 (.l .cer) (A.app .cer x3.q.1 x6.1) fun x7=>
 A.l1 .i (A.arith .sub .i64 x3.2.1 (A.lit 1)) fun x8=>
 A.inl _ (x3.1,x8.1,x4.q.2.2.1,x4.q.2.2.2.1,x7.1,()))<|
 A.inr _<|A.cl Q0 Q5 (x3.1,x3.2.2.1,x3.2.2.2.1,()) fun x4=>
 A.bind [.l .u8,.i,.l .cer] (A.cond x4.1 (A.cl Kn Ko (x4.2.1,x4.2.2.1,()) fun x5=>
 A.cl Ag Ah (A.mkX .blk (x5.1,x5.2.1,x5.o.1,x5.2.2.1,x5.2.2.2.1,x5.q.1,x5.q.2.1,()),x5.q.2.2.1,x5.q.2.2.2.1,()) fun x6=>
 A.l1 (.l .cer) (A.lst .cer [A.mkX .cer (x5.1,x5.2.1,x5.o.1,x5.2.2.1,x5.2.2.2.1,x5.q.1,x5.q.2.1,x6.1,x6.2.1,x6.o.1,x6.2.2.1,x6.2.2.2.1,x6.q.1,x6.q.2.1,())]) fun x7=>
 A.chk (A.cmp .leq (A.addN (A.len .cer x3.q.1) (A.len .cer x7.1)) (A.lit 1073741824))<|
 A.l1 (.l .cer) (A.app .cer x3.q.1 x7.1) fun x8=>
 A.ret _ (x6.q.2.2.1,x6.q.2.2.2.1,x8.1,()))<|
 A.ret _ (x4.2.1,x4.2.2.1,x3.q.1,())) fun x5=>
 A.ret _ (x5.2.2.1,x5.1,x5.2.1,())) (x.1,x2.1,x1.2.1,x1.2.2.1,x0.1,())
def Rz (A:Alg) (aO:Pt A bO) (aP:Ft A bO) (xZ:Pt A jJ) (yc:Ft A jJ) (x:Tup A.ah [.x .blk,.l .u8,.i]):Ot A Fu:=
 A.cl xZ yc (x.1,()) fun x0=>
 A.l1 .i (A.lit 0) fun x1=>
 A.iter [.i,.l .u8,.i,.i,.i,.i,.i,.i,.i,.i,.i,.i,.i,.i,.i,.l .iop] (fun x2=>
 A.cond (A.cmp .lss x2.1 (A.len .iop x2.o.q.2.2.2.1)) (A.bd .iop x2.o.q.2.2.2.1 x2.1<|
 A.bd .iop x2.o.q.2.2.2.1 x2.1<|
 A.l1 (.x .iop) (A.get .iop x2.o.q.2.2.2.1 x2.1) fun x3=>
 A.bind [.i,.b,.l .u8,.i,.i,.i,.i,.i,.i,.i,.i,.i,.i,.i,.i,.i,.x .iop,.l .iop] (A.cond (A.ak (A.cmp .eql (A.fI .iop 0 x3.1) (A.lit 3)) (A.cmp .neq (A.fI .iop 3 x3.1) (A.lit 2)) (A.bl false)) (A.cl aO aP (A.lit 2,x2.2.1,x2.2.2.1,()) fun x4=>
 A.ret _ (x2.1,A.ak (A.ak (A.cmp .eql (A.fI .iop 0 x3.1) (A.lit 3)) (A.cmp .neq (A.fI .iop 3 x3.1) (A.lit 2)) (A.bl false)) (A.cmp .eql x4.1 (A.lit 0)) (A.bl false),x4.2.1,x4.2.2.1,x2.2.2.2.1,x2.q.1,x2.q.2.1,x2.q.2.2.1,x2.q.2.2.2.1,x2.o.1,x2.o.2.1,x2.o.2.2.1,x2.o.2.2.2.1,x2.o.q.1,x2.o.q.2.1,x2.o.q.2.2.1,x3.1,x2.o.q.2.2.2.1,()))<|
 A.chk (A.aA (A.ak (A.cmp .eql (A.fI .iop 0 x3.1) (A.lit 3)) (A.cmp .neq (A.fI .iop 3 x3.1) (A.lit 2)) (A.bl false)))<|
 A.ret _ (x2.1,A.bl false,x2.2.1,x2.2.2.1,x2.2.2.2.1,x2.q.1,x2.q.2.1,x2.q.2.2.1,x2.q.2.2.2.1,x2.o.1,x2.o.2.1,x2.o.2.2.1,x2.o.2.2.2.1,x2.o.q.1,x2.o.q.2.1,x2.o.q.2.2.1,x3.1,x2.o.q.2.2.2.1,())) fun x4=>
 A.bind [.i,.l .u8,.i,.i,.i,.i,.i,.i,.i,.i,.i,.i,.i,.i,.i,.x .iop,.l .iop] (A.cond x4.2.1 (A.bd .iop x4.o.o.2.1 x4.1<|
 A.bd .iop x4.o.o.2.1 x4.1<|
 A.l1 .i (A.fI .iop 2 x4.o.o.1) fun x5=>
 A.bd .iop (A.set .iop x4.o.o.2.1 x4.1 (A.mkX .iop (A.fI .iop 0 (A.get .iop x4.o.o.2.1 x4.1),x5.1,A.fI .iop 2 (A.get .iop x4.o.o.2.1 x4.1),A.fI .iop 3 (A.get .iop x4.o.o.2.1 x4.1),A.fI .iop 4 (A.get .iop x4.o.o.2.1 x4.1),()))) x4.1<|
 A.bd .iop (A.set .iop x4.o.o.2.1 x4.1 (A.mkX .iop (A.fI .iop 0 (A.get .iop x4.o.o.2.1 x4.1),x5.1,A.fI .iop 2 (A.get .iop x4.o.o.2.1 x4.1),A.fI .iop 3 (A.get .iop x4.o.o.2.1 x4.1),A.fI .iop 4 (A.get .iop x4.o.o.2.1 x4.1),()))) x4.1<|
 A.l1 .i (A.fI .iop 1 x4.o.o.1) fun x6=>
 A.ret _ (x4.1,x4.2.2.1,x4.2.2.2.1,x4.q.1,x4.q.2.1,x4.q.2.2.1,x4.q.2.2.2.1,x4.o.1,x4.o.2.1,x4.o.2.2.1,x4.o.2.2.2.1,x4.o.q.1,x4.o.q.2.1,x4.o.q.2.2.1,x4.o.q.2.2.2.1,x4.o.o.1,A.set .iop (A.set .iop x4.o.o.2.1 x4.1 (A.mkX .iop (A.fI .iop 0 (A.get .iop x4.o.o.2.1 x4.1),x5.1,A.fI .iop 2 (A.get .iop x4.o.o.2.1 x4.1),A.fI .iop 3 (A.get .iop x4.o.o.2.1 x4.1),A.fI .iop 4 (A.get .iop x4.o.o.2.1 x4.1),()))) x4.1 (A.mkX .iop (A.fI .iop 0 (A.get .iop (A.set .iop x4.o.o.2.1 x4.1 (A.mkX .iop (A.fI .iop 0 (A.get .iop x4.o.o.2.1 x4.1),x5.1,A.fI .iop 2 (A.get .iop x4.o.o.2.1 x4.1),A.fI .iop 3 (A.get .iop x4.o.o.2.1 x4.1),A.fI .iop 4 (A.get .iop x4.o.o.2.1 x4.1),()))) x4.1),A.fI .iop 1 (A.get .iop (A.set .iop x4.o.o.2.1 x4.1 (A.mkX .iop (A.fI .iop 0 (A.get .iop x4.o.o.2.1 x4.1),x5.1,A.fI .iop 2 (A.get .iop x4.o.o.2.1 x4.1),A.fI .iop 3 (A.get .iop x4.o.o.2.1 x4.1),A.fI .iop 4 (A.get .iop x4.o.o.2.1 x4.1),()))) x4.1),x6.1,A.fI .iop 3 (A.get .iop (A.set .iop x4.o.o.2.1 x4.1 (A.mkX .iop (A.fI .iop 0 (A.get .iop x4.o.o.2.1 x4.1),x5.1,A.fI .iop 2 (A.get .iop x4.o.o.2.1 x4.1),A.fI .iop 3 (A.get .iop x4.o.o.2.1 x4.1),A.fI .iop 4 (A.get .iop x4.o.o.2.1 x4.1),()))) x4.1),A.fI .iop 4 (A.get .iop (A.set .iop x4.o.o.2.1 x4.1 (A.mkX .iop (A.fI .iop 0 (A.get .iop x4.o.o.2.1 x4.1),x5.1,A.fI .iop 2 (A.get .iop x4.o.o.2.1 x4.1),A.fI .iop 3 (A.get .iop x4.o.o.2.1 x4.1),A.fI .iop 4 (A.get .iop x4.o.o.2.1 x4.1),()))) x4.1),())),()))<|
 A.ret _ (x4.1,x4.2.2.1,x4.2.2.2.1,x4.q.1,x4.q.2.1,x4.q.2.2.1,x4.q.2.2.2.1,x4.o.1,x4.o.2.1,x4.o.2.2.1,x4.o.2.2.2.1,x4.o.q.1,x4.o.q.2.1,x4.o.q.2.2.1,x4.o.q.2.2.2.1,x4.o.o.1,x4.o.o.2.1,())) fun x5=>
 A.bind [.i,.l .u8,.i,.i,.i,.i,.i,.i,.i,.i,.i,.i,.i,.i,.i,.x .iop,.l .iop] (A.cond (A.ak (A.ak (A.cmp .eql (A.fI .iop 0 x5.o.q.2.2.2.1) (A.lit 3)) (A.cmp .eql (A.fI .iop 1 x5.o.q.2.2.2.1) (A.fI .iop 2 x5.o.q.2.2.2.1)) (A.bl false)) (A.ak (A.cmp .eql (A.fI .iop 3 x5.o.q.2.2.2.1) (A.lit 2)) (A.bl true) (A.cmp .eql (A.fI .iop 3 x5.o.q.2.2.2.1) (A.lit 5))) (A.bl false)) (A.bd .iop x5.o.o.1 x5.1<|
 A.bd .iop x5.o.o.1 x5.1<|
 A.ret _ (x5.1,x5.2.1,x5.2.2.1,x5.2.2.2.1,x5.q.1,x5.q.2.1,x5.q.2.2.1,x5.q.2.2.2.1,x5.o.1,x5.o.2.1,x5.o.2.2.1,x5.o.2.2.2.1,x5.o.q.1,x5.o.q.2.1,x5.o.q.2.2.1,x5.o.q.2.2.2.1,A.set .iop x5.o.o.1 x5.1 (A.mkX .iop (A.lit 1,A.lit 0,A.lit 0,A.lit 0,A.lit 0,())),()))<|
 A.ret _ (x5.1,x5.2.1,x5.2.2.1,x5.2.2.2.1,x5.q.1,x5.q.2.1,x5.q.2.2.1,x5.q.2.2.2.1,x5.o.1,x5.o.2.1,x5.o.2.2.1,x5.o.2.2.2.1,x5.o.q.1,x5.o.q.2.1,x5.o.q.2.2.1,x5.o.q.2.2.2.1,x5.o.o.1,())) fun x6=>
 A.chk (A.orB (A.aA (A.ak (A.cmp .eql (A.fI .iop 0 x6.o.q.2.2.2.1) (A.lit 3)) (A.cmp .eql (A.fI .iop 3 x6.o.q.2.2.2.1) (A.lit 3)) (A.bl false))) (A.cmp .leq (A.lit 0) (A.fI .iop 2 x6.o.q.2.2.2.1)))<|
 A.chk (A.orB (A.aA (A.ak (A.cmp .eql (A.fI .iop 0 x6.o.q.2.2.2.1) (A.lit 3)) (A.cmp .eql (A.fI .iop 3 x6.o.q.2.2.2.1) (A.lit 3)) (A.bl false))) (A.cmp .lss (A.fI .iop 2 x6.o.q.2.2.2.1) (A.len .iop x6.o.o.1)))<|
 A.chk (A.orB (A.aA (A.ak (A.cmp .eql (A.fI .iop 0 x6.o.q.2.2.2.1) (A.lit 3)) (A.cmp .eql (A.fI .iop 3 x6.o.q.2.2.2.1) (A.lit 3)) (A.bl false))) (A.cmp .leq (A.lit 0) (A.fI .iop 2 x6.o.q.2.2.2.1)))<|
 A.chk (A.orB (A.aA (A.ak (A.cmp .eql (A.fI .iop 0 x6.o.q.2.2.2.1) (A.lit 3)) (A.cmp .eql (A.fI .iop 3 x6.o.q.2.2.2.1) (A.lit 3)) (A.bl false))) (A.cmp .lss (A.fI .iop 2 x6.o.q.2.2.2.1) (A.len .iop x6.o.o.1)))<|
 A.chk (A.orB (A.aA (A.ak (A.ak (A.cmp .eql (A.fI .iop 0 x6.o.q.2.2.2.1) (A.lit 3)) (A.cmp .eql (A.fI .iop 3 x6.o.q.2.2.2.1) (A.lit 3)) (A.bl false)) (A.cmp .eql (A.fI .iop 0 (A.get .iop x6.o.o.1 (A.fI .iop 2 x6.o.q.2.2.2.1))) (A.lit 1)) (A.bl false))) (A.cmp .leq (A.lit 0) (A.fI .iop 2 x6.o.q.2.2.2.1)))<|
 A.chk (A.orB (A.aA (A.ak (A.ak (A.cmp .eql (A.fI .iop 0 x6.o.q.2.2.2.1) (A.lit 3)) (A.cmp .eql (A.fI .iop 3 x6.o.q.2.2.2.1) (A.lit 3)) (A.bl false)) (A.cmp .eql (A.fI .iop 0 (A.get .iop x6.o.o.1 (A.fI .iop 2 x6.o.q.2.2.2.1))) (A.lit 1)) (A.bl false))) (A.cmp .lss (A.fI .iop 2 x6.o.q.2.2.2.1) (A.len .iop x6.o.o.1)))<|
 A.chk (A.orB (A.aA (A.ak (A.ak (A.cmp .eql (A.fI .iop 0 x6.o.q.2.2.2.1) (A.lit 3)) (A.cmp .eql (A.fI .iop 3 x6.o.q.2.2.2.1) (A.lit 3)) (A.bl false)) (A.cmp .eql (A.fI .iop 0 (A.get .iop x6.o.o.1 (A.fI .iop 2 x6.o.q.2.2.2.1))) (A.lit 1)) (A.bl false))) (A.cmp .leq (A.lit 0) (A.fI .iop 2 x6.o.q.2.2.2.1)))<|
 A.chk (A.orB (A.aA (A.ak (A.ak (A.cmp .eql (A.fI .iop 0 x6.o.q.2.2.2.1) (A.lit 3)) (A.cmp .eql (A.fI .iop 3 x6.o.q.2.2.2.1) (A.lit 3)) (A.bl false)) (A.cmp .eql (A.fI .iop 0 (A.get .iop x6.o.o.1 (A.fI .iop 2 x6.o.q.2.2.2.1))) (A.lit 1)) (A.bl false))) (A.cmp .lss (A.fI .iop 2 x6.o.q.2.2.2.1) (A.len .iop x6.o.o.1)))<|
 A.bind [.i,.l .u8,.i,.i,.i,.i,.i,.i,.i,.i,.i,.i,.i,.i,.i,.l .iop] (A.cond (A.ak (A.ak (A.ak (A.cmp .eql (A.fI .iop 0 x6.o.q.2.2.2.1) (A.lit 3)) (A.cmp .eql (A.fI .iop 3 x6.o.q.2.2.2.1) (A.lit 3)) (A.bl false)) (A.cmp .eql (A.fI .iop 0 (A.get .iop x6.o.o.1 (A.fI .iop 2 x6.o.q.2.2.2.1))) (A.lit 1)) (A.bl false)) (A.cmp .eql (A.fI .iop 3 (A.get .iop x6.o.o.1 (A.fI .iop 2 x6.o.q.2.2.2.1))) (A.lit 2)) (A.bl false)) (A.bd .iop x6.o.o.1 x6.1<|
 A.bd .iop x6.o.o.1 x6.1<|
 A.ret _ (x6.1,x6.2.1,x6.2.2.1,x6.2.2.2.1,x6.q.1,x6.q.2.1,x6.q.2.2.1,x6.q.2.2.2.1,x6.o.1,x6.o.2.1,x6.o.2.2.1,x6.o.2.2.2.1,x6.o.q.1,x6.o.q.2.1,x6.o.q.2.2.1,A.set .iop x6.o.o.1 x6.1 (A.mkX .iop (A.lit 3,A.fI .iop 1 x6.o.q.2.2.2.1,A.fI .iop 1 x6.o.q.2.2.2.1,A.lit 1,A.lit 0,())),()))<|
 A.ret _ (x6.1,x6.2.1,x6.2.2.1,x6.2.2.2.1,x6.q.1,x6.q.2.1,x6.q.2.2.1,x6.q.2.2.2.1,x6.o.1,x6.o.2.1,x6.o.2.2.1,x6.o.2.2.2.1,x6.o.q.1,x6.o.q.2.1,x6.o.q.2.2.1,x6.o.o.1,())) fun x7=>
 A.l1 .i (A.arith .add .i64 x7.1 (A.lit 1)) fun x8=>
 A.inl _ (x8.1,x7.2.1,x7.2.2.1,x7.2.2.2.1,x7.q.1,x7.q.2.1,x7.q.2.2.1,x7.q.2.2.2.1,x7.o.1,x7.o.2.1,x7.o.2.2.1,x7.o.2.2.2.1,x7.o.q.1,x7.o.q.2.1,x7.o.q.2.2.1,x7.o.q.2.2.2.1,()))<|
 A.inr _<|A.ret _ (x2.o.2.1,x2.o.2.2.1,x2.o.2.2.2.1,x2.o.q.1,x2.o.q.2.1,x2.o.q.2.2.1,x2.2.1,x2.2.2.1,x2.o.q.2.2.2.1,())) (x1.1,x.2.1,x.2.2.1,A.lit 0,A.lit 0,A.lit 0,A.lit 0,A.lit 0,A.lit 0,x0.1,x0.2.1,x0.2.2.1,x0.2.2.2.1,x0.q.1,x0.q.2.1,x0.q.2.2.1,())
def RA (A:Alg) (mP:Pt A gJ) (mQ:Ft A gJ) (uD:Pt A mK) (uE:Ft A mK) (FK:Pt A mJ) (FL:Ft A mJ) (aO:Pt A bO) (aP:Ft A bO) (Ag:Pt A mM) (Ah:Ft A mM) (Zl:Pt A EC) (Zm:Ft A EC) (Zn:Pt A Fu) (Zo:Ft A Fu) (x:Tup A.ah [.i,.l .u8,.i]):Ot A Fv:=
 A.cl Zl Zm (x.1,x.2.1,x.2.2.1,()) fun x0=>
 A.l1 (.x .blk) x0.1 fun x1=>
 A.cl mP mQ (x1.1,()) fun x2=>
 A.cond (A.aA x2.1) (A.l1 (.x .blk) x1.1 fun x3=>
 A.l1 (.x .blk) x1.1 fun x4=>
 A.ret _ (x3.1,x4.1,x0.2.1,x0.2.2.1,()))<|
 A.cl aO aP (A.lit 9,x0.2.1,x0.2.2.1,()) fun x3=>
 A.l1 .b (A.cmp .eql x3.1 (A.lit 0)) fun x4=>
 A.cond x4.1 (A.cl Zn Zo (x1.1,x3.2.1,x3.2.2.1,()) fun x5=>
 A.l1 (.x .blk) x1.1 fun x6=>
 A.ret _ (x6.1,A.mkX .blk (x5.1,x5.2.1,x5.o.1,x5.2.2.1,x5.2.2.2.1,x5.q.1,x5.q.2.1,()),x5.q.2.2.1,x5.q.2.2.2.1,()))<|
 A.l1 .b (A.cmp .eql x3.1 (A.lit 1)) fun x5=>
 A.cond x5.1 (A.cl uD uE (x1.1,()) fun x6=>
 A.l1 (.x .blk) x1.1 fun x7=>
 A.ret _ (x7.1,A.mkX .blk (x6.1,x6.2.1,x6.q.2.2.1,x6.2.2.1,x6.2.2.2.1,x6.q.1,x6.q.2.1,()),x3.2.1,x3.2.2.1,()))<|
 A.l1 .b (A.cmp .eql x3.1 (A.lit 2)) fun x6=>
 A.cond x6.1 (A.cl Zn Zo (x1.1,x3.2.1,x3.2.2.1,()) fun x7=>
 A.cl uD uE (A.mkX .blk (x7.1,x7.2.1,x7.o.1,x7.2.2.1,x7.2.2.2.1,x7.q.1,x7.q.2.1,()),()) fun x8=>
 A.l1 (.x .blk) x1.1 fun x9=>
 A.ret _ (x9.1,A.mkX .blk (x8.1,x8.2.1,x8.q.2.2.1,x8.2.2.1,x8.2.2.2.1,x8.q.1,x8.q.2.1,()),x7.q.2.2.1,x7.q.2.2.2.1,()))<|
 A.l1 .b (A.cmp .eql x3.1 (A.lit 3)) fun x7=>
 A.cond x7.1 (A.cl Ag Ah (x1.1,x3.2.1,x3.2.2.1,()) fun x8=>
 A.l1 (.x .blk) x1.1 fun x9=>
 A.ret _ (x9.1,A.mkX .blk (x8.1,x8.2.1,x8.o.1,x8.2.2.1,x8.2.2.2.1,x8.q.1,x8.q.2.1,()),x8.q.2.2.1,x8.q.2.2.2.1,()))<|
 A.l1 .b (A.cmp .eql x3.1 (A.lit 4)) fun x8=>
 A.cond x8.1 (A.cl uD uE (x1.1,()) fun x9=>
 A.cl Ag Ah (A.mkX .blk (x9.1,x9.2.1,x9.q.2.2.1,x9.2.2.1,x9.2.2.2.1,x9.q.1,x9.q.2.1,()),x3.2.1,x3.2.2.1,()) fun x10=>
 A.l1 (.x .blk) x1.1 fun x11=>
 A.ret _ (x11.1,A.mkX .blk (x10.1,x10.2.1,x10.o.1,x10.2.2.1,x10.2.2.2.1,x10.q.1,x10.q.2.1,()),x10.q.2.2.1,x10.q.2.2.2.1,()))<|
 A.l1 .b (A.cmp .eql x3.1 (A.lit 5)) fun x9=>
 A.cond x9.1 (A.cl uD uE (x1.1,()) fun x10=>
 A.l1 (.x .blk) x1.1 fun x11=>
 A.ret _ (A.mkX .blk (x10.1,x10.2.1,x10.q.2.2.1,x10.2.2.1,x10.2.2.2.1,x10.q.1,x10.q.2.1,()),x11.1,x3.2.1,x3.2.2.1,()))<|
 A.l1 .b (A.cmp .eql x3.1 (A.lit 6)) fun x10=>
 A.cond x10.1 (A.cl Zl Zm (x.1,x3.2.1,x3.2.2.1,()) fun x11=>
 A.l1 (.x .blk) x1.1 fun x12=>
 A.l1 (.x .blk) x11.1 fun x13=>
 A.ret _ (x12.1,x13.1,x11.2.1,x11.2.2.1,()))<|
 A.l1 .b (A.cmp .eql x3.1 (A.lit 7)) fun x11=>
 A.cond x11.1 (A.cl FK FL (x1.1,()) fun x12=>
 A.l1 (.x .blk) x1.1 fun x13=>
 A.ret _ (x13.1,A.mkX .blk (x12.1,x12.2.1,x12.q.2.2.1,x12.2.2.1,x12.2.2.2.1,x12.q.1,x12.q.2.1,()),x3.2.1,x3.2.2.1,()))<|
 A.l1 (.x .blk) x1.1 fun x12=>
 A.l1 (.x .blk) x1.1 fun x13=>
 A.ret _ (x12.1,x13.1,x3.2.1,x3.2.2.1,())
def RD (A:Alg) (afY:Pt A ED) (afZ:Ft A ED) (aO:Pt A bO) (aP:Ft A bO) (af0:Pt A Fv) (af2:Ft A Fv) (af3:Pt A Fq) (af4:Ft A Fq) (x:Tup A.ah [.l .u8]):Ot A Fw:=
 A.cl afY afZ (x.1,()) fun x0=>
 A.cl af3 af4 (A.lit 9,x0.1,x0.2.1,()) fun x1=>
 A.l1 (.l .cer) x1.1 fun x2=>
 A.bind [.l .cer,.b,.i,.i,.i,.i,.i,.i,.i,.i,.i,.i,.i,.i,.l .u8,.i] (A.cond (A.cmp .gtr (A.len .cer x2.1) (A.lit 0)) (A.cl aO aP (A.lit 2,x1.2.1,x1.2.2.1,()) fun x3=>
 A.ret _ (x2.1,A.ak (A.cmp .gtr (A.len .cer x2.1) (A.lit 0)) (A.cmp .eql x3.1 (A.lit 0)) (A.bl false),A.lit 0,A.lit 0,A.lit 0,A.lit 0,A.lit 0,A.lit 0,A.lit 0,A.lit 0,A.lit 0,A.lit 0,A.lit 0,A.lit 0,x3.2.1,x3.2.2.1,()))<|
 A.chk (A.aA (A.cmp .gtr (A.len .cer x2.1) (A.lit 0)))<|
 A.ret _ (x2.1,A.bl false,A.lit 0,A.lit 0,A.lit 0,A.lit 0,A.lit 0,A.lit 0,A.lit 0,A.lit 0,A.lit 0,A.lit 0,A.lit 0,A.lit 0,x1.2.1,x1.2.2.1,())) fun x3=>
 A.cond x3.2.1 (A.cl aO aP (A.len .cer x3.1,x3.o.q.2.2.1,x3.o.q.2.2.2.1,()) fun x4=>
 A.bd .cer x3.1 x4.1<|
 A.l1 (.x .cer) (A.get .cer x3.1 x4.1) fun x5=>
 A.l1 (.l .cer) x3.1 fun x6=>
 A.ret _ (x6.1,A.mkX .blk (A.fI .cer 0 x5.1,A.fI .cer 1 x5.1,A.fL .cer 2 .iop x5.1,A.fI .cer 3 x5.1,A.fI .cer 4 x5.1,A.fI .cer 5 x5.1,A.fI .cer 6 x5.1,()),A.mkX .blk (A.fI .cer 7 x5.1,A.fI .cer 8 x5.1,A.fL .cer 9 .iop x5.1,A.fI .cer 10 x5.1,A.fI .cer 11 x5.1,A.fI .cer 12 x5.1,A.fI .cer 13 x5.1,()),()))<|
 A.cl af0 af2 (A.lit 9,x3.o.q.2.2.1,x3.o.q.2.2.2.1,()) fun x4=>
 A.l1 (.x .blk) x4.1 fun x5=>
 A.l1 (.x .blk) x4.2.1 fun x6=>
 A.l1 (.l .cer) x3.1 fun x7=>
 A.l1 (.x .blk) x5.1 fun x8=>
 A.l1 (.x .blk) x6.1 fun x9=>
 A.ret _ (x7.1,x8.1,x9.1,())
def af5 (A:Alg) (UG:Pt A Bo) (UH:Ft A Bo) (x:Tup A.ah [.x .cer,.x .blk,.x .blk]):Ot A XB:=
 A.l1 .b (A.bl false) fun x0=>
 A.cl UG UH (A.mkX .blk (A.fI .cer 0 x.1,A.fI .cer 1 x.1,A.fL .cer 2 .iop x.1,A.fI .cer 3 x.1,A.fI .cer 4 x.1,A.fI .cer 5 x.1,A.fI .cer 6 x.1,()),x.2.1,()) fun x1=>
 A.cg x1.1 UG UH (A.mkX .blk (A.fI .cer 7 x.1,A.fI .cer 8 x.1,A.fL .cer 9 .iop x.1,A.fI .cer 10 x.1,A.fI .cer 11 x.1,A.fI .cer 12 x.1,A.fI .cer 13 x.1,()),x.2.2.1,()) fun x2=>
 A.l1 .b (A.ak x1.1 x2.1 (A.bl false)) fun x3=>
 A.ret _ (x3.1,x.2.1,x.2.2.1,())
def af6 (A:Alg) (Zp:Pt A BL) (Zq:Ft A BL) (x:Tup A.ah [.x .cer]):Ot A XC:=
 A.l1 .b (A.bl false) fun x0=>
 A.cl Zp Zq (A.mkX .blk (A.fI .cer 0 x.1,A.fI .cer 1 x.1,A.fL .cer 2 .iop x.1,A.fI .cer 3 x.1,A.fI .cer 4 x.1,A.fI .cer 5 x.1,A.fI .cer 6 x.1,()),A.mkX .blk (A.fI .cer 7 x.1,A.fI .cer 8 x.1,A.fL .cer 9 .iop x.1,A.fI .cer 10 x.1,A.fI .cer 11 x.1,A.fI .cer 12 x.1,A.fI .cer 13 x.1,()),()) fun x1=>
 A.rb (A.aA x1.1)
def RF (A:Alg) (aqU:Pt A XB) (aqV:Ft A XB) (x:Tup A.ah [.l .cer,.x .blk,.x .blk]):Ot A Fx:=
 A.l1 .i (A.lit 0) fun x0=>
 A.iter [.l .cer,.i,.i,.x .blk,.x .blk] (fun x1=>
 A.cond (A.cmp .lss x1.2.2.1 x1.2.1) (A.l1 .i x1.2.2.1 fun x2=>
 A.bd .cer x1.1 x2.1<|
 A.cl aqU aqV (A.get .cer x1.1 x2.1,x1.2.2.2.1,x1.q.1,()) fun x3=>
 A.cond x3.1 (A.l1 .i x2.1 fun x4=>
 A.inr _<|A.ret _ (x4.1,x3.2.1,x3.2.2.1,()))<|
 A.inl _ (x1.1,x1.2.1,A.arith .add .i64 x1.2.2.1 (A.lit 1),x3.2.1,x3.2.2.1,()))<|
 A.inr _<|A.l1 .i (A.lit (-1)) fun x2=>
 A.ret _ (x2.1,x1.2.2.2.1,x1.q.1,())) (x.1,A.len .cer x.1,A.lit 0,x.2.1,x.2.2.1,())
def RG (A:Alg) (aqW:Pt A XC) (aqX:Ft A XC) (x:Tup A.ah [.l .cer]):Ot A Fy:=
 A.l1 .i (A.lit 0) fun x0=>
 A.iter [.l .cer,.i,.i] (fun x1=>
 A.cond (A.cmp .lss x1.2.2.1 x1.2.1) (A.l1 .i x1.2.2.1 fun x2=>
 A.bd .cer x1.1 x2.1<|
 A.cl aqW aqX (A.get .cer x1.1 x2.1,()) fun x3=>
 A.cond x3.1 (A.l1 .i x2.1 fun x4=>
 A.inr _<|A.ret _ (x4.1,()))<|
 A.inl _ (x1.1,x1.2.1,A.arith .add .i64 x1.2.2.1 (A.lit 1),()))<|
 A.inr _<|A.l1 .i (A.lit (-1)) fun x2=>
 A.ret _ (x2.1,())) (x.1,A.len .cer x.1,A.lit 0,())
def RH (A:Alg) (af7:Pt A Fx) (af8:Ft A Fx) (x:Tup A.ah [.l .cer,.x .blk,.x .blk]):Ot A Fz:=
 A.l1 .b (A.bl false) fun x0=>
 A.cl af7 af8 (x.1,x.2.1,x.2.2.1,()) fun x1=>
 A.l1 .b (A.cmp .geq x1.1 (A.lit 0)) fun x2=>
 A.ret _ (x2.1,x1.2.1,x1.2.2.1,())
def RJ (A:Alg) (af9:Pt A Fy) (aga:Ft A Fy) (x:Tup A.ah [.l .cer]):Ot A FB:=
 A.l1 .b (A.bl false) fun x0=>
 A.cl af9 aga (x.1,()) fun x1=>
 A.rb (A.cmp .geq x1.1 (A.lit 0))
def agb (A:Alg) (agc:Pt A Fz) (agd:Ft A Fz) (x:Tup A.ah [.l .cer,.x .blk,.x .blk]):Ot A XD:=
 A.l1 .b (A.bl false) fun x0=>
 A.cl agc agd (x.1,x.2.1,x.2.2.1,()) fun x1=>
 A.rb x1.1
def RL (A:Alg) (x:Tup A.ah [.x .blk,.x .blk]):Ot A FC:=
 A.l1 .b (A.bl false) fun x0=>
 A.cond (A.ak (A.ak (A.ak (A.ak (A.ak (A.ak (A.cmp .neq (A.fI .blk 0 x.1) (A.fI .blk 0 x.2.1)) (A.bl true) (A.cmp .neq (A.fI .blk 1 x.1) (A.fI .blk 1 x.2.1))) (A.bl true) (A.cmp .neq (A.fI .blk 3 x.1) (A.fI .blk 3 x.2.1))) (A.bl true) (A.cmp .neq (A.fI .blk 4 x.1) (A.fI .blk 4 x.2.1))) (A.bl true) (A.cmp .neq (A.fI .blk 5 x.1) (A.fI .blk 5 x.2.1))) (A.bl true) (A.cmp .neq (A.fI .blk 6 x.1) (A.fI .blk 6 x.2.1))) (A.bl true) (A.cmp .neq (A.len .iop (A.fL .blk 2 .iop x.1)) (A.len .iop (A.fL .blk 2 .iop x.2.1)))) (A.rb (A.bl false))<|
 A.l1 .i (A.lit 0) fun x1=>
 A.iter [.i,.x .blk,.x .blk] (fun x2=>
 A.cond (A.cmp .lss x2.1 (A.len .iop (A.fL .blk 2 .iop x2.2.1))) (A.bd .iop (A.fL .blk 2 .iop x2.2.1) x2.1<|
 A.bd .iop (A.fL .blk 2 .iop x2.2.2.1) x2.1<|
 A.cond (A.aA (A.eqX .iop (A.get .iop (A.fL .blk 2 .iop x2.2.1) x2.1) (A.get .iop (A.fL .blk 2 .iop x2.2.2.1) x2.1))) (A.l1 .b (A.bl false) fun x3=>
 A.inr _<|A.ret _ (x3.1,()))<|
 A.l1 .i (A.arith .add .i64 x2.1 (A.lit 1)) fun x3=>
 A.inl _ (x3.1,x2.2.1,x2.2.2.1,()))<|
 A.inr _<|A.rb (A.bl true)) (x1.1,x.1,x.2.1,())
def RN (A:Alg) (Zr:Pt A FC) (Zt:Ft A FC) (x:Tup A.ah [.l .cer,.x .blk,.x .blk]):Ot A FD:=
 A.l1 .b (A.bl false) fun x0=>
 A.l1 .i (A.lit 0) fun x1=>
 A.iter [.l .cer,.i,.x .blk,.x .blk] (fun x2=>
 A.cond (A.cmp .lss x2.2.1 (A.len .cer x2.1)) (A.bd .cer x2.1 x2.2.1<|
 A.cl Zr Zt (A.mkX .blk (A.fI .cer 0 (A.get .cer x2.1 x2.2.1),A.fI .cer 1 (A.get .cer x2.1 x2.2.1),A.fL .cer 2 .iop (A.get .cer x2.1 x2.2.1),A.fI .cer 3 (A.get .cer x2.1 x2.2.1),A.fI .cer 4 (A.get .cer x2.1 x2.2.1),A.fI .cer 5 (A.get .cer x2.1 x2.2.1),A.fI .cer 6 (A.get .cer x2.1 x2.2.1),()),x2.2.2.1,()) fun x3=>
 A.chk (A.orB (A.aA x3.1) (A.cmp .leq (A.lit 0) x2.2.1))<|
 A.chk (A.orB (A.aA x3.1) (A.cmp .lss x2.2.1 (A.len .cer x2.1)))<|
 A.cg x3.1 Zr Zt (A.mkX .blk (A.fI .cer 7 (A.get .cer x2.1 x2.2.1),A.fI .cer 8 (A.get .cer x2.1 x2.2.1),A.fL .cer 9 .iop (A.get .cer x2.1 x2.2.1),A.fI .cer 10 (A.get .cer x2.1 x2.2.1),A.fI .cer 11 (A.get .cer x2.1 x2.2.1),A.fI .cer 12 (A.get .cer x2.1 x2.2.1),A.fI .cer 13 (A.get .cer x2.1 x2.2.1),()),x2.2.2.2.1,()) fun x4=>
 A.cond (A.ak x3.1 x4.1 (A.bl false)) (A.l1 .b (A.bl true) fun x5=>
 A.inr _<|A.ret _ (x5.1,()))<|
 A.l1 .i (A.arith .add .i64 x2.2.1 (A.lit 1)) fun x5=>
 A.inl _ (x2.1,x5.1,x2.2.2.1,x2.2.2.2.1,()))<|
 A.inr _<|A.rb (A.bl false)) (x.1,x1.1,x.2.1,x.2.2.1,())
def agf (A:Alg) (agh:Pt A FB) (agi:Ft A FB) (x:Tup A.ah [.l .cer]):Ot A XE:=
 A.l1 .b (A.bl false) fun x0=>
 A.cg (A.cmp .leq (A.len .cer x.1) (A.lit 3)) agh agi (x.1,()) fun x1=>
 A.rb (A.ak (A.cmp .leq (A.len .cer x.1) (A.lit 3)) (A.aA x1.1) (A.bl false))
def Zu (A:Alg) (aqY:Pt A XD) (aqZ:Ft A XD) (aq0:Pt A XE) (aq1:Ft A XE) (Zp:Pt A BL) (Zq:Ft A BL) (acR:Pt A ML) (acS:Ft A ML) (amy:Pt A MN) (amA:Ft A MN) (agj:Pt A FD) (agk:Ft A FD) (agl:Pt A Fw) (agm:Ft A Fw) (x:Tup A.ah [.l .u8]):Ot A acK:=
 A.l1 .b (A.bl false) fun x0=>
 A.cond (A.cmp .gtr (A.len .u8 x.1) (A.lit 1048576)) (A.rb (A.bl true))<|
 A.cl agl agm (x.1,()) fun x1=>
 A.l1 (.l .cer) x1.1 fun x2=>
 A.l1 (.x .blk) x1.2.1 fun x3=>
 A.l1 (.x .blk) x1.2.2.1 fun x4=>
 A.cl aqY aqZ (x2.1,x3.1,x4.1,()) fun x5=>
 A.l1 .b x5.1 fun x6=>
 A.cl agj agk (x2.1,x3.1,x4.1,()) fun x7=>
 A.cond (A.aA (A.eqB x6.1 x7.1)) (A.rb (A.bl false))<|
 A.l1 .b (A.bl false) fun x8=>
 A.l1 .i (A.lit 0) fun x9=>
 A.iter [.l .cer,.b,.b,.i,.x .blk,.x .blk] (fun x10=>
 A.cond (A.cmp .lss x10.2.2.2.1 (A.len .cer x10.1)) (A.chk (A.orB (A.aA (A.aA x10.2.2.1)) (A.cmp .leq (A.lit 0) x10.2.2.2.1))<|
 A.chk (A.orB (A.aA (A.aA x10.2.2.1)) (A.cmp .lss x10.2.2.2.1 (A.len .cer x10.1)))<|
 A.cg (A.aA x10.2.2.1) acR acS (A.mkX .blk (A.fI .cer 0 (A.get .cer x10.1 x10.2.2.2.1),A.fI .cer 1 (A.get .cer x10.1 x10.2.2.2.1),A.fL .cer 2 .iop (A.get .cer x10.1 x10.2.2.2.1),A.fI .cer 3 (A.get .cer x10.1 x10.2.2.2.1),A.fI .cer 4 (A.get .cer x10.1 x10.2.2.2.1),A.fI .cer 5 (A.get .cer x10.1 x10.2.2.2.1),A.fI .cer 6 (A.get .cer x10.1 x10.2.2.2.1),()),x10.q.1,()) fun x11=>
 A.chk (A.orB (A.aA (A.jQ (A.aA x10.2.2.1) x11.1)) (A.cmp .leq (A.lit 0) x10.2.2.2.1))<|
 A.chk (A.orB (A.aA (A.jQ (A.aA x10.2.2.1) x11.1)) (A.cmp .lss x10.2.2.2.1 (A.len .cer x10.1)))<|
 A.cg (A.jQ (A.aA x10.2.2.1) x11.1) acR acS (A.mkX .blk (A.fI .cer 7 (A.get .cer x10.1 x10.2.2.2.1),A.fI .cer 8 (A.get .cer x10.1 x10.2.2.2.1),A.fL .cer 9 .iop (A.get .cer x10.1 x10.2.2.2.1),A.fI .cer 10 (A.get .cer x10.1 x10.2.2.2.1),A.fI .cer 11 (A.get .cer x10.1 x10.2.2.2.1),A.fI .cer 12 (A.get .cer x10.1 x10.2.2.2.1),A.fI .cer 13 (A.get .cer x10.1 x10.2.2.2.1),()),x10.q.2.1,()) fun x12=>
 A.l1 .b (A.ak x10.2.2.1 (A.bl true) (A.ak x11.1 x12.1 (A.bl false))) fun x13=>
 A.l1 .i (A.arith .add .i64 x10.2.2.2.1 (A.lit 1)) fun x14=>
 A.inl _ (x10.1,x10.2.1,x13.1,x14.1,x10.q.1,x10.q.2.1,()))<|
 A.inr _<|A.cg (A.jQ (A.eqB x10.2.2.1 x10.2.1) (A.aA (A.aA x10.2.1))) aq0 aq1 (x10.1,()) fun x11=>
 A.cg (A.jQ (A.eqB x10.2.2.1 x10.2.1) (A.aA (A.ak (A.aA x10.2.1) (A.bl true) (A.aA x11.1)))) Zp Zq (x10.q.1,x10.q.2.1,()) fun x12=>
 A.cg (A.ak (A.eqB x10.2.2.1 x10.2.1) (A.ak (A.ak (A.aA x10.2.1) (A.bl true) (A.aA x11.1)) (A.bl true) x12.1) (A.bl false)) amy amA () fun x13=>
 A.rb (A.ak (A.ak (A.eqB x10.2.2.1 x10.2.1) (A.ak (A.ak (A.aA x10.2.1) (A.bl true) (A.aA x11.1)) (A.bl true) x12.1) (A.bl false)) x13.1 (A.bl false))) (x2.1,x6.1,x8.1,x9.1,x3.1,x4.1,())
end Go.TX.F
namespace Go.TX.Seat
open Go Go.AE Go.TX Go.Proofs
set_option maxRecDepth 100000
def ty:TypeId→Option TY
 | 2=>some ⟨(.int .i64),1,8,[.d true (.int .i64 0)]⟩
 | 3=>some ⟨(.int .i64),1,8,[.d true (.int .i64 0)]⟩
 | 4=>some ⟨.bool,1,1,[.d true (.bool false)]⟩
 | 5=>some ⟨(.int .u8),1,1,[.d true (.int .u8 0)]⟩
 | 6=>some ⟨(.int .u8),1,1,[.d true (.int .u8 0)]⟩
 | 7=>some ⟨(.struct [(0,2),(1,3),(2,4),(3,6)]),4,24,[.d true (.int .i64 0),.d true (.int .i64 0),.d true (.bool false),.d true (.int .u8 0)]⟩
 | 8=>some ⟨(.struct [(0,2),(1,3),(2,4),(3,6)]),4,24,[.d true (.int .i64 0),.d true (.int .i64 0),.d true (.bool false),.d true (.int .u8 0)]⟩
 | 9=>some ⟨.scalar,1,16,[.d true (.str ⟨#[]⟩)]⟩
 | 10=>some ⟨.scalar,1,16,[.d true (.str ⟨#[]⟩)]⟩
 | 11=>some ⟨.scalar,1,16,[.d true (.str ⟨#[]⟩)]⟩
 | 12=>some ⟨(.int .u64),1,8,[.d true (.int .u64 0)]⟩
 | 13=>some ⟨(.struct [(0,9),(1,12)]),2,24,[.d true (.str ⟨#[]⟩),.d true (.int .u64 0)]⟩
 | 14=>some ⟨(.struct [(0,9),(1,12)]),2,24,[.d true (.str ⟨#[]⟩),.d true (.int .u64 0)]⟩
 | 15=>some ⟨.scalar,1,8,[.np]⟩
 | 16=>some ⟨.scalar,1,8,[.np]⟩
 | 17=>some ⟨.scalar,1,8,[.np]⟩
 | 18=>some ⟨(.struct [(0,17)]),1,8,[.np]⟩
 | 19=>some ⟨(.struct [(0,17)]),1,8,[.np]⟩
 | 21=>some ⟨(.int .i32),1,4,[.d true (.int .i32 0)]⟩
 | 22=>some ⟨(.slice 5),1,24,[.nil]⟩
 | 23=>some ⟨(.slice 34),1,24,[.nil]⟩
 | 24=>some ⟨(.struct [(0,3),(1,3),(2,23),(3,3),(4,3),(5,3),(6,3)]),7,72,[.d true (.int .i64 0),.d true (.int .i64 0),.nil,.d true (.int .i64 0),.d true (.int .i64 0),.d true (.int .i64 0),.d true (.int .i64 0)]⟩
 | 25=>some ⟨(.struct [(0,3),(1,3),(2,23),(3,3),(4,3),(5,3),(6,3)]),7,72,[.d true (.int .i64 0),.d true (.int .i64 0),.nil,.d true (.int .i64 0),.d true (.int .i64 0),.d true (.int .i64 0),.d true (.int .i64 0)]⟩
 | 31=>some ⟨(.slice 4),1,24,[.nil]⟩
 | 33=>some ⟨(.struct [(0,3),(1,3),(2,3),(3,3),(4,3)]),5,40,[.d true (.int .i64 0),.d true (.int .i64 0),.d true (.int .i64 0),.d true (.int .i64 0),.d true (.int .i64 0)]⟩
 | 34=>some ⟨(.struct [(0,3),(1,3),(2,3),(3,3),(4,3)]),5,40,[.d true (.int .i64 0),.d true (.int .i64 0),.d true (.int .i64 0),.d true (.int .i64 0),.d true (.int .i64 0)]⟩
 | 37=>some ⟨(.slice 42),1,24,[.nil]⟩
 | 41=>some ⟨(.struct [(0,25),(7,25)]),14,144,[.d true (.int .i64 0),.d true (.int .i64 0),.nil,.d true (.int .i64 0),.d true (.int .i64 0),.d true (.int .i64 0),.d true (.int .i64 0),.d true (.int .i64 0),.d true (.int .i64 0),.nil,.d true (.int .i64 0),.d true (.int .i64 0),.d true (.int .i64 0),.d true (.int .i64 0)]⟩
 | 42=>some ⟨(.struct [(0,25),(7,25)]),14,144,[.d true (.int .i64 0),.d true (.int .i64 0),.nil,.d true (.int .i64 0),.d true (.int .i64 0),.d true (.int .i64 0),.d true (.int .i64 0),.d true (.int .i64 0),.d true (.int .i64 0),.nil,.d true (.int .i64 0),.d true (.int .i64 0),.d true (.int .i64 0),.d true (.int .i64 0)]⟩
 | 46=>some ⟨(.slice 52),1,24,[.nil]⟩
 | 50=>some ⟨(.slice 3),1,24,[.nil]⟩
 | 51=>some ⟨(.struct [(0,50),(1,25)]),8,96,[.nil,.d true (.int .i64 0),.d true (.int .i64 0),.nil,.d true (.int .i64 0),.d true (.int .i64 0),.d true (.int .i64 0),.d true (.int .i64 0)]⟩
 | 52=>some ⟨(.struct [(0,50),(1,25)]),8,96,[.nil,.d true (.int .i64 0),.d true (.int .i64 0),.nil,.d true (.int .i64 0),.d true (.int .i64 0),.d true (.int .i64 0),.d true (.int .i64 0)]⟩
 | 61=>some ⟨(.struct [(0,50),(1,3),(2,50),(3,3),(4,4),(5,4),(6,3),(7,50),(8,50),(9,3)]),10,136,[.nil,.d true (.int .i64 0),.nil,.d true (.int .i64 0),.d true (.bool false),.d true (.bool false),.d true (.int .i64 0),.nil,.nil,.d true (.int .i64 0)]⟩
 | 62=>some ⟨(.struct [(0,50),(1,3),(2,50),(3,3),(4,4),(5,4),(6,3),(7,50),(8,50),(9,3)]),10,136,[.nil,.d true (.int .i64 0),.nil,.d true (.int .i64 0),.d true (.bool false),.d true (.bool false),.d true (.int .i64 0),.nil,.nil,.d true (.int .i64 0)]⟩
 | 63=>some ⟨(.struct [(0,62),(10,46),(11,37)]),12,184,[.nil,.d true (.int .i64 0),.nil,.d true (.int .i64 0),.d true (.bool false),.d true (.bool false),.d true (.int .i64 0),.nil,.nil,.d true (.int .i64 0),.nil,.nil]⟩
 | 64=>some ⟨(.struct [(0,62),(10,46),(11,37)]),12,184,[.nil,.d true (.int .i64 0),.nil,.d true (.int .i64 0),.d true (.bool false),.d true (.bool false),.d true (.int .i64 0),.nil,.nil,.d true (.int .i64 0),.nil,.nil]⟩
 | 72=>some ⟨.scalar,1,8,[.np]⟩
 | 81=>some ⟨(.slice 169),1,24,[.nil]⟩
 | 82=>some ⟨(.struct [(0,81)]),1,24,[.nil]⟩
 | 83=>some ⟨(.struct [(0,81)]),1,24,[.nil]⟩
 | 84=>some ⟨(.slice 90),1,24,[.nil]⟩
 | 87=>some ⟨(.slice 140),1,24,[.nil]⟩
 | 88=>some ⟨(.slice 173),1,24,[.nil]⟩
 | 89=>some ⟨(.struct [(0,88)]),1,24,[.nil]⟩
 | 90=>some ⟨(.struct [(0,88)]),1,24,[.nil]⟩
 | 91=>some ⟨(.struct [(0,87),(1,84),(2,3),(3,90),(4,90),(5,3)]),6,112,[.nil,.nil,.d true (.int .i64 0),.nil,.nil,.d true (.int .i64 0)]⟩
 | 92=>some ⟨(.struct [(0,87),(1,84),(2,3),(3,90),(4,90),(5,3)]),6,112,[.nil,.nil,.d true (.int .i64 0),.nil,.nil,.d true (.int .i64 0)]⟩
 | 106=>some ⟨(.slice 160),1,24,[.nil]⟩
 | 125=>some ⟨(.struct [(0,22),(1,3)]),2,32,[.nil,.d true (.int .i64 0)]⟩
 | 126=>some ⟨(.struct [(0,22),(1,3)]),2,32,[.nil,.d true (.int .i64 0)]⟩
 | 127=>some ⟨.scalar,1,8,[.np]⟩
 | 133=>some ⟨.scalar,1,8,[.np]⟩
 | 134=>some ⟨(.struct [(0,83),(1,4)]),2,32,[.nil,.d true (.bool false)]⟩
 | 135=>some ⟨(.struct [(0,83),(1,4)]),2,32,[.nil,.d true (.bool false)]⟩
 | 139=>some ⟨(.struct [(0,3),(1,3),(2,90),(3,90),(4,84)]),5,88,[.d true (.int .i64 0),.d true (.int .i64 0),.nil,.nil,.nil]⟩
 | 140=>some ⟨(.struct [(0,3),(1,3),(2,90),(3,90),(4,84)]),5,88,[.d true (.int .i64 0),.d true (.int .i64 0),.nil,.nil,.nil]⟩
 | 159=>some ⟨(.struct [(0,3),(1,3),(2,3),(3,3)]),4,32,[.d true (.int .i64 0),.d true (.int .i64 0),.d true (.int .i64 0),.d true (.int .i64 0)]⟩
 | 160=>some ⟨(.struct [(0,3),(1,3),(2,3),(3,3)]),4,32,[.d true (.int .i64 0),.d true (.int .i64 0),.d true (.int .i64 0),.d true (.int .i64 0)]⟩
 | 168=>some ⟨(.struct [(0,3),(1,3),(2,90),(3,90)]),4,64,[.d true (.int .i64 0),.d true (.int .i64 0),.nil,.nil]⟩
 | 169=>some ⟨(.struct [(0,3),(1,3),(2,90),(3,90)]),4,64,[.d true (.int .i64 0),.d true (.int .i64 0),.nil,.nil]⟩
 | 172=>some ⟨(.struct [(0,3),(1,50)]),2,32,[.d true (.int .i64 0),.nil]⟩
 | 173=>some ⟨(.struct [(0,3),(1,50)]),2,32,[.d true (.int .i64 0),.nil]⟩
 | 190=>some ⟨(.struct [(0,4),(1,22)]),2,32,[.d true (.bool false),.nil]⟩
 | 191=>some ⟨(.struct [(0,4),(1,22)]),2,32,[.d true (.bool false),.nil]⟩
 | 260=>some ⟨(.slice 88),1,24,[.nil]⟩
 | 262=>some ⟨(.slice 50),1,24,[.nil]⟩
 | 266=>some ⟨(.int .u64),1,8,[.d true (.int .u64 0)]⟩
 | 277=>some ⟨(.int .i64),1,8,[.d true (.int .i64 0)]⟩
 | 284=>some ⟨(.int .u32),1,4,[.d true (.int .u32 0)]⟩
 | 286=>some ⟨(.int .u64),1,8,[.d true (.int .u64 0)]⟩
 | 291=>some ⟨(.int .u64),1,8,[.d true (.int .u64 0)]⟩
 | 295=>some ⟨.scalar,1,8,[.np]⟩
 | 298=>some ⟨.scalar,1,8,[.np]⟩
 | 302=>some ⟨(.struct [(0,17),(1,17),(2,17),(3,9)]),4,40,[.np,.np,.np,.d true (.str ⟨#[]⟩)]⟩
 | 303=>some ⟨(.struct [(0,17),(1,17),(2,17),(3,9)]),4,40,[.np,.np,.np,.d true (.str ⟨#[]⟩)]⟩
 | 308=>some ⟨(.int .u8),1,1,[.d true (.int .u8 0)]⟩
 | 309=>some ⟨(.int .u8),1,1,[.d true (.int .u8 0)]⟩
 | 311=>some ⟨.scalar,1,8,[.np]⟩
 | 312=>some ⟨(.int .i32),1,4,[.d true (.int .i32 0)]⟩
 | 313=>some ⟨(.int .i32),1,4,[.d true (.int .i32 0)]⟩
 | _=>none
theorem ok2:bG Tryz.prog 2 ⟨(.int .i64),1,8,[.d true (.int .i64 0)]⟩:=⟨⟨Tryz.t2,by kernel_rfl,rfl,rfl,_,rfl,fun c w=>aB (by rfl)⟩,Tryz.underlying2,rfl⟩
theorem ok3:bG Tryz.prog 3 ⟨(.int .i64),1,8,[.d true (.int .i64 0)]⟩:=⟨⟨Tryz.t3,by kernel_rfl,rfl,rfl,_,rfl,fun c w=>aB (by rfl)⟩,Tryz.underlying3,rfl⟩
theorem ok4:bG Tryz.prog 4 ⟨.bool,1,1,[.d true (.bool false)]⟩:=⟨⟨Tryz.t4,by kernel_rfl,rfl,rfl,_,rfl,fun c w=>aB (by rfl)⟩,Tryz.underlying4,rfl⟩
theorem ok5:bG Tryz.prog 5 ⟨(.int .u8),1,1,[.d true (.int .u8 0)]⟩:=⟨⟨Tryz.t5,by kernel_rfl,rfl,rfl,_,rfl,fun c w=>aB (by rfl)⟩,Tryz.underlying5,rfl⟩
theorem ok6:bG Tryz.prog 6 ⟨(.int .u8),1,1,[.d true (.int .u8 0)]⟩:=⟨⟨Tryz.t6,by kernel_rfl,rfl,rfl,_,rfl,fun c w=>aB (by rfl)⟩,Tryz.underlying6,rfl⟩
theorem ok7:bG Tryz.prog 7 ⟨(.struct [(0,2),(1,3),(2,4),(3,6)]),4,24,[.d true (.int .i64 0),.d true (.int .i64 0),.d true (.bool false),.d true (.int .u8 0)]⟩:=⟨⟨Tryz.t7,by kernel_rfl,rfl,rfl,_,rfl,fun c w=>aB (by rfl)⟩,⟨_,Tryz.underlying7,by rfl⟩,rfl⟩
theorem ok8:bG Tryz.prog 8 ⟨(.struct [(0,2),(1,3),(2,4),(3,6)]),4,24,[.d true (.int .i64 0),.d true (.int .i64 0),.d true (.bool false),.d true (.int .u8 0)]⟩:=⟨⟨Tryz.t8,by kernel_rfl,rfl,rfl,_,rfl,fun c w=>aB (by rfl)⟩,⟨_,Tryz.underlying8,by rfl⟩,rfl⟩
theorem ok9:bG Tryz.prog 9 ⟨.scalar,1,16,[.d true (.str ⟨#[]⟩)]⟩:=⟨⟨Tryz.t9,by kernel_rfl,rfl,rfl,_,rfl,fun c w=>aB (by rfl)⟩,⟨_,Tryz.underlying9,(fun _ h=>by cases h),(fun _ _ h=>by cases h)⟩,rfl⟩
theorem aq2:bG Tryz.prog 10 ⟨.scalar,1,16,[.d true (.str ⟨#[]⟩)]⟩:=⟨⟨Tryz.t10,by kernel_rfl,rfl,rfl,_,rfl,fun c w=>aB (by rfl)⟩,⟨_,Tryz.underlying10,(fun _ h=>by cases h),(fun _ _ h=>by cases h)⟩,rfl⟩
theorem aq3:bG Tryz.prog 11 ⟨.scalar,1,16,[.d true (.str ⟨#[]⟩)]⟩:=⟨⟨Tryz.t11,by kernel_rfl,rfl,rfl,_,rfl,fun c w=>aB (by rfl)⟩,⟨_,Tryz.underlying11,(fun _ h=>by cases h),(fun _ _ h=>by cases h)⟩,rfl⟩
theorem aq4:bG Tryz.prog 12 ⟨(.int .u64),1,8,[.d true (.int .u64 0)]⟩:=⟨⟨Tryz.t12,by kernel_rfl,rfl,rfl,_,rfl,fun c w=>aB (by rfl)⟩,Tryz.underlying12,rfl⟩
theorem aq5:bG Tryz.prog 13 ⟨(.struct [(0,9),(1,12)]),2,24,[.d true (.str ⟨#[]⟩),.d true (.int .u64 0)]⟩:=⟨⟨Tryz.t13,by kernel_rfl,rfl,rfl,_,rfl,fun c w=>aB (by rfl)⟩,⟨_,Tryz.underlying13,by rfl⟩,rfl⟩
theorem aq6:bG Tryz.prog 14 ⟨(.struct [(0,9),(1,12)]),2,24,[.d true (.str ⟨#[]⟩),.d true (.int .u64 0)]⟩:=⟨⟨Tryz.t14,by kernel_rfl,rfl,rfl,_,rfl,fun c w=>aB (by rfl)⟩,⟨_,Tryz.underlying14,by rfl⟩,rfl⟩
theorem aq7:bG Tryz.prog 15 ⟨.scalar,1,8,[.np]⟩:=⟨⟨Tryz.t15,by kernel_rfl,rfl,rfl,_,rfl,fun c w=>aB (by rfl)⟩,⟨_,Tryz.underlying15,(fun _ h=>by cases h),(fun _ _ h=>by cases h)⟩,rfl⟩
theorem ok16:bG Tryz.prog 16 ⟨.scalar,1,8,[.np]⟩:=⟨⟨Tryz.t16,by kernel_rfl,rfl,rfl,_,rfl,fun c w=>aB (by rfl)⟩,⟨_,Tryz.underlying16,(fun _ h=>by cases h),(fun _ _ h=>by cases h)⟩,rfl⟩
theorem aq8:bG Tryz.prog 17 ⟨.scalar,1,8,[.np]⟩:=⟨⟨Tryz.t17,by kernel_rfl,rfl,rfl,_,rfl,fun c w=>aB (by rfl)⟩,⟨_,Tryz.underlying17,(fun _ h=>by cases h),(fun _ _ h=>by cases h)⟩,rfl⟩
theorem aq9:bG Tryz.prog 18 ⟨(.struct [(0,17)]),1,8,[.np]⟩:=⟨⟨Tryz.t18,by kernel_rfl,rfl,rfl,_,rfl,fun c w=>aB (by rfl)⟩,⟨_,Tryz.underlying18,by rfl⟩,rfl⟩
theorem ara:bG Tryz.prog 19 ⟨(.struct [(0,17)]),1,8,[.np]⟩:=⟨⟨Tryz.t19,by kernel_rfl,rfl,rfl,_,rfl,fun c w=>aB (by rfl)⟩,⟨_,Tryz.underlying19,by rfl⟩,rfl⟩
theorem arb:bG Tryz.prog 21 ⟨(.int .i32),1,4,[.d true (.int .i32 0)]⟩:=⟨⟨Tryz.t21,by kernel_rfl,rfl,rfl,_,rfl,fun c w=>aB (by rfl)⟩,Tryz.underlying21,rfl⟩
theorem ard:bG Tryz.prog 22 ⟨(.slice 5),1,24,[.nil]⟩:=⟨⟨Tryz.t22,by kernel_rfl,rfl,rfl,_,rfl,fun c w=>aB (by rfl)⟩,Tryz.underlying22,rfl⟩
theorem arf:bG Tryz.prog 23 ⟨(.slice 34),1,24,[.nil]⟩:=⟨⟨Tryz.t23,by kernel_rfl,rfl,rfl,_,rfl,fun c w=>aB (by rfl)⟩,Tryz.underlying23,rfl⟩
theorem arh:bG Tryz.prog 24 ⟨(.struct [(0,3),(1,3),(2,23),(3,3),(4,3),(5,3),(6,3)]),7,72,[.d true (.int .i64 0),.d true (.int .i64 0),.nil,.d true (.int .i64 0),.d true (.int .i64 0),.d true (.int .i64 0),.d true (.int .i64 0)]⟩:=⟨⟨Tryz.t24,by kernel_rfl,rfl,rfl,_,rfl,fun c w=>aB (by rfl)⟩,⟨_,Tryz.underlying24,by rfl⟩,rfl⟩
theorem ari:bG Tryz.prog 25 ⟨(.struct [(0,3),(1,3),(2,23),(3,3),(4,3),(5,3),(6,3)]),7,72,[.d true (.int .i64 0),.d true (.int .i64 0),.nil,.d true (.int .i64 0),.d true (.int .i64 0),.d true (.int .i64 0),.d true (.int .i64 0)]⟩:=⟨⟨Tryz.t25,by kernel_rfl,rfl,rfl,_,rfl,fun c w=>aB (by rfl)⟩,⟨_,Tryz.underlying25,by rfl⟩,rfl⟩
theorem arj:bG Tryz.prog 31 ⟨(.slice 4),1,24,[.nil]⟩:=⟨⟨Tryz.t31,by kernel_rfl,rfl,rfl,_,rfl,fun c w=>aB (by rfl)⟩,Tryz.underlying31,rfl⟩
theorem ark:bG Tryz.prog 33 ⟨(.struct [(0,3),(1,3),(2,3),(3,3),(4,3)]),5,40,[.d true (.int .i64 0),.d true (.int .i64 0),.d true (.int .i64 0),.d true (.int .i64 0),.d true (.int .i64 0)]⟩:=⟨⟨Tryz.t33,by kernel_rfl,rfl,rfl,_,rfl,fun c w=>aB (by rfl)⟩,⟨_,Tryz.underlying33,by rfl⟩,rfl⟩
theorem arl:bG Tryz.prog 34 ⟨(.struct [(0,3),(1,3),(2,3),(3,3),(4,3)]),5,40,[.d true (.int .i64 0),.d true (.int .i64 0),.d true (.int .i64 0),.d true (.int .i64 0),.d true (.int .i64 0)]⟩:=⟨⟨Tryz.t34,by kernel_rfl,rfl,rfl,_,rfl,fun c w=>aB (by rfl)⟩,⟨_,Tryz.underlying34,by rfl⟩,rfl⟩
theorem arn:bG Tryz.prog 37 ⟨(.slice 42),1,24,[.nil]⟩:=⟨⟨Tryz.t37,by kernel_rfl,rfl,rfl,_,rfl,fun c w=>aB (by rfl)⟩,Tryz.underlying37,rfl⟩
theorem aro:bG Tryz.prog 41 ⟨(.struct [(0,25),(7,25)]),14,144,[.d true (.int .i64 0),.d true (.int .i64 0),.nil,.d true (.int .i64 0),.d true (.int .i64 0),.d true (.int .i64 0),.d true (.int .i64 0),.d true (.int .i64 0),.d true (.int .i64 0),.nil,.d true (.int .i64 0),.d true (.int .i64 0),.d true (.int .i64 0),.d true (.int .i64 0)]⟩:=⟨⟨Tryz.t41,by kernel_rfl,rfl,rfl,_,rfl,fun c w=>aB (by rfl)⟩,⟨_,Tryz.underlying41,by rfl⟩,rfl⟩
theorem arp:bG Tryz.prog 42 ⟨(.struct [(0,25),(7,25)]),14,144,[.d true (.int .i64 0),.d true (.int .i64 0),.nil,.d true (.int .i64 0),.d true (.int .i64 0),.d true (.int .i64 0),.d true (.int .i64 0),.d true (.int .i64 0),.d true (.int .i64 0),.nil,.d true (.int .i64 0),.d true (.int .i64 0),.d true (.int .i64 0),.d true (.int .i64 0)]⟩:=⟨⟨Tryz.t42,by kernel_rfl,rfl,rfl,_,rfl,fun c w=>aB (by rfl)⟩,⟨_,Tryz.underlying42,by rfl⟩,rfl⟩
theorem arq:bG Tryz.prog 46 ⟨(.slice 52),1,24,[.nil]⟩:=⟨⟨Tryz.t46,by kernel_rfl,rfl,rfl,_,rfl,fun c w=>aB (by rfl)⟩,Tryz.underlying46,rfl⟩
theorem ars:bG Tryz.prog 50 ⟨(.slice 3),1,24,[.nil]⟩:=⟨⟨Tryz.t50,by kernel_rfl,rfl,rfl,_,rfl,fun c w=>aB (by rfl)⟩,Tryz.underlying50,rfl⟩
theorem aru:bG Tryz.prog 51 ⟨(.struct [(0,50),(1,25)]),8,96,[.nil,.d true (.int .i64 0),.d true (.int .i64 0),.nil,.d true (.int .i64 0),.d true (.int .i64 0),.d true (.int .i64 0),.d true (.int .i64 0)]⟩:=⟨⟨Tryz.t51,by kernel_rfl,rfl,rfl,_,rfl,fun c w=>aB (by rfl)⟩,⟨_,Tryz.underlying51,by rfl⟩,rfl⟩
theorem arv:bG Tryz.prog 52 ⟨(.struct [(0,50),(1,25)]),8,96,[.nil,.d true (.int .i64 0),.d true (.int .i64 0),.nil,.d true (.int .i64 0),.d true (.int .i64 0),.d true (.int .i64 0),.d true (.int .i64 0)]⟩:=⟨⟨Tryz.t52,by kernel_rfl,rfl,rfl,_,rfl,fun c w=>aB (by rfl)⟩,⟨_,Tryz.underlying52,by rfl⟩,rfl⟩
theorem arw:bG Tryz.prog 61 ⟨(.struct [(0,50),(1,3),(2,50),(3,3),(4,4),(5,4),(6,3),(7,50),(8,50),(9,3)]),10,136,[.nil,.d true (.int .i64 0),.nil,.d true (.int .i64 0),.d true (.bool false),.d true (.bool false),.d true (.int .i64 0),.nil,.nil,.d true (.int .i64 0)]⟩:=⟨⟨Tryz.t61,by kernel_rfl,rfl,rfl,_,rfl,fun c w=>aB (by rfl)⟩,⟨_,Tryz.underlying61,by rfl⟩,rfl⟩
theorem arx:bG Tryz.prog 62 ⟨(.struct [(0,50),(1,3),(2,50),(3,3),(4,4),(5,4),(6,3),(7,50),(8,50),(9,3)]),10,136,[.nil,.d true (.int .i64 0),.nil,.d true (.int .i64 0),.d true (.bool false),.d true (.bool false),.d true (.int .i64 0),.nil,.nil,.d true (.int .i64 0)]⟩:=⟨⟨Tryz.t62,by kernel_rfl,rfl,rfl,_,rfl,fun c w=>aB (by rfl)⟩,⟨_,Tryz.underlying62,by rfl⟩,rfl⟩
theorem arz:bG Tryz.prog 63 ⟨(.struct [(0,62),(10,46),(11,37)]),12,184,[.nil,.d true (.int .i64 0),.nil,.d true (.int .i64 0),.d true (.bool false),.d true (.bool false),.d true (.int .i64 0),.nil,.nil,.d true (.int .i64 0),.nil,.nil]⟩:=⟨⟨Tryz.t63,by kernel_rfl,rfl,rfl,_,rfl,fun c w=>aB (by rfl)⟩,⟨_,Tryz.underlying63,by rfl⟩,rfl⟩
theorem arA:bG Tryz.prog 64 ⟨(.struct [(0,62),(10,46),(11,37)]),12,184,[.nil,.d true (.int .i64 0),.nil,.d true (.int .i64 0),.d true (.bool false),.d true (.bool false),.d true (.int .i64 0),.nil,.nil,.d true (.int .i64 0),.nil,.nil]⟩:=⟨⟨Tryz.t64,by kernel_rfl,rfl,rfl,_,rfl,fun c w=>aB (by rfl)⟩,⟨_,Tryz.underlying64,by rfl⟩,rfl⟩
theorem arB:bG Tryz.prog 72 ⟨.scalar,1,8,[.np]⟩:=⟨⟨Tryz.t72,by kernel_rfl,rfl,rfl,_,rfl,fun c w=>aB (by rfl)⟩,⟨_,Tryz.underlying72,(fun _ h=>by cases h),(fun _ _ h=>by cases h)⟩,rfl⟩
theorem arC:bG Tryz.prog 81 ⟨(.slice 169),1,24,[.nil]⟩:=⟨⟨Tryz.t81,by kernel_rfl,rfl,rfl,_,rfl,fun c w=>aB (by rfl)⟩,Tryz.underlying81,rfl⟩
theorem arD:bG Tryz.prog 82 ⟨(.struct [(0,81)]),1,24,[.nil]⟩:=⟨⟨Tryz.t82,by kernel_rfl,rfl,rfl,_,rfl,fun c w=>aB (by rfl)⟩,⟨_,Tryz.underlying82,by rfl⟩,rfl⟩
theorem arE:bG Tryz.prog 83 ⟨(.struct [(0,81)]),1,24,[.nil]⟩:=⟨⟨Tryz.t83,by kernel_rfl,rfl,rfl,_,rfl,fun c w=>aB (by rfl)⟩,⟨_,Tryz.underlying83,by rfl⟩,rfl⟩
theorem arF:bG Tryz.prog 84 ⟨(.slice 90),1,24,[.nil]⟩:=⟨⟨Tryz.t84,by kernel_rfl,rfl,rfl,_,rfl,fun c w=>aB (by rfl)⟩,Tryz.underlying84,rfl⟩
theorem arG:bG Tryz.prog 87 ⟨(.slice 140),1,24,[.nil]⟩:=⟨⟨Tryz.t87,by kernel_rfl,rfl,rfl,_,rfl,fun c w=>aB (by rfl)⟩,Tryz.underlying87,rfl⟩
theorem arH:bG Tryz.prog 88 ⟨(.slice 173),1,24,[.nil]⟩:=⟨⟨Tryz.t88,by kernel_rfl,rfl,rfl,_,rfl,fun c w=>aB (by rfl)⟩,Tryz.underlying88,rfl⟩
theorem arI:bG Tryz.prog 89 ⟨(.struct [(0,88)]),1,24,[.nil]⟩:=⟨⟨Tryz.t89,by kernel_rfl,rfl,rfl,_,rfl,fun c w=>aB (by rfl)⟩,⟨_,Tryz.underlying89,by rfl⟩,rfl⟩
theorem arJ:bG Tryz.prog 90 ⟨(.struct [(0,88)]),1,24,[.nil]⟩:=⟨⟨Tryz.t90,by kernel_rfl,rfl,rfl,_,rfl,fun c w=>aB (by rfl)⟩,⟨_,Tryz.underlying90,by rfl⟩,rfl⟩
theorem arK:bG Tryz.prog 91 ⟨(.struct [(0,87),(1,84),(2,3),(3,90),(4,90),(5,3)]),6,112,[.nil,.nil,.d true (.int .i64 0),.nil,.nil,.d true (.int .i64 0)]⟩:=⟨⟨Tryz.t91,by kernel_rfl,rfl,rfl,_,rfl,fun c w=>aB (by rfl)⟩,⟨_,Tryz.underlying91,by rfl⟩,rfl⟩
theorem arL:bG Tryz.prog 92 ⟨(.struct [(0,87),(1,84),(2,3),(3,90),(4,90),(5,3)]),6,112,[.nil,.nil,.d true (.int .i64 0),.nil,.nil,.d true (.int .i64 0)]⟩:=⟨⟨Tryz.t92,by kernel_rfl,rfl,rfl,_,rfl,fun c w=>aB (by rfl)⟩,⟨_,Tryz.underlying92,by rfl⟩,rfl⟩
theorem amB:bG Tryz.prog 106 ⟨(.slice 160),1,24,[.nil]⟩:=⟨⟨Tryz.t106,by kernel_rfl,rfl,rfl,_,rfl,fun c w=>aB (by rfl)⟩,Tryz.underlying106,rfl⟩
theorem amC:bG Tryz.prog 125 ⟨(.struct [(0,22),(1,3)]),2,32,[.nil,.d true (.int .i64 0)]⟩:=⟨⟨Tryz.t125,by kernel_rfl,rfl,rfl,_,rfl,fun c w=>aB (by rfl)⟩,⟨_,Tryz.underlying125,by rfl⟩,rfl⟩
theorem amD:bG Tryz.prog 126 ⟨(.struct [(0,22),(1,3)]),2,32,[.nil,.d true (.int .i64 0)]⟩:=⟨⟨Tryz.t126,by kernel_rfl,rfl,rfl,_,rfl,fun c w=>aB (by rfl)⟩,⟨_,Tryz.underlying126,by rfl⟩,rfl⟩
theorem amE:bG Tryz.prog 127 ⟨.scalar,1,8,[.np]⟩:=⟨⟨Tryz.t127,by kernel_rfl,rfl,rfl,_,rfl,fun c w=>aB (by rfl)⟩,⟨_,Tryz.underlying127,(fun _ h=>by cases h),(fun _ _ h=>by cases h)⟩,rfl⟩
theorem amF:bG Tryz.prog 133 ⟨.scalar,1,8,[.np]⟩:=⟨⟨Tryz.t133,by kernel_rfl,rfl,rfl,_,rfl,fun c w=>aB (by rfl)⟩,⟨_,Tryz.underlying133,(fun _ h=>by cases h),(fun _ _ h=>by cases h)⟩,rfl⟩
theorem amG:bG Tryz.prog 134 ⟨(.struct [(0,83),(1,4)]),2,32,[.nil,.d true (.bool false)]⟩:=⟨⟨Tryz.t134,by kernel_rfl,rfl,rfl,_,rfl,fun c w=>aB (by rfl)⟩,⟨_,Tryz.underlying134,by rfl⟩,rfl⟩
theorem amH:bG Tryz.prog 135 ⟨(.struct [(0,83),(1,4)]),2,32,[.nil,.d true (.bool false)]⟩:=⟨⟨Tryz.t135,by kernel_rfl,rfl,rfl,_,rfl,fun c w=>aB (by rfl)⟩,⟨_,Tryz.underlying135,by rfl⟩,rfl⟩
theorem amI:bG Tryz.prog 139 ⟨(.struct [(0,3),(1,3),(2,90),(3,90),(4,84)]),5,88,[.d true (.int .i64 0),.d true (.int .i64 0),.nil,.nil,.nil]⟩:=⟨⟨Tryz.t139,by kernel_rfl,rfl,rfl,_,rfl,fun c w=>aB (by rfl)⟩,⟨_,Tryz.underlying139,by rfl⟩,rfl⟩
theorem amJ:bG Tryz.prog 140 ⟨(.struct [(0,3),(1,3),(2,90),(3,90),(4,84)]),5,88,[.d true (.int .i64 0),.d true (.int .i64 0),.nil,.nil,.nil]⟩:=⟨⟨Tryz.t140,by kernel_rfl,rfl,rfl,_,rfl,fun c w=>aB (by rfl)⟩,⟨_,Tryz.underlying140,by rfl⟩,rfl⟩
theorem amK:bG Tryz.prog 159 ⟨(.struct [(0,3),(1,3),(2,3),(3,3)]),4,32,[.d true (.int .i64 0),.d true (.int .i64 0),.d true (.int .i64 0),.d true (.int .i64 0)]⟩:=⟨⟨Tryz.t159,by kernel_rfl,rfl,rfl,_,rfl,fun c w=>aB (by rfl)⟩,⟨_,Tryz.underlying159,by rfl⟩,rfl⟩
theorem amL:bG Tryz.prog 160 ⟨(.struct [(0,3),(1,3),(2,3),(3,3)]),4,32,[.d true (.int .i64 0),.d true (.int .i64 0),.d true (.int .i64 0),.d true (.int .i64 0)]⟩:=⟨⟨Tryz.t160,by kernel_rfl,rfl,rfl,_,rfl,fun c w=>aB (by rfl)⟩,⟨_,Tryz.underlying160,by rfl⟩,rfl⟩
theorem amM:bG Tryz.prog 168 ⟨(.struct [(0,3),(1,3),(2,90),(3,90)]),4,64,[.d true (.int .i64 0),.d true (.int .i64 0),.nil,.nil]⟩:=⟨⟨Tryz.t168,by kernel_rfl,rfl,rfl,_,rfl,fun c w=>aB (by rfl)⟩,⟨_,Tryz.underlying168,by rfl⟩,rfl⟩
theorem amN:bG Tryz.prog 169 ⟨(.struct [(0,3),(1,3),(2,90),(3,90)]),4,64,[.d true (.int .i64 0),.d true (.int .i64 0),.nil,.nil]⟩:=⟨⟨Tryz.t169,by kernel_rfl,rfl,rfl,_,rfl,fun c w=>aB (by rfl)⟩,⟨_,Tryz.underlying169,by rfl⟩,rfl⟩
theorem amO:bG Tryz.prog 172 ⟨(.struct [(0,3),(1,50)]),2,32,[.d true (.int .i64 0),.nil]⟩:=⟨⟨Tryz.t172,by kernel_rfl,rfl,rfl,_,rfl,fun c w=>aB (by rfl)⟩,⟨_,Tryz.underlying172,by rfl⟩,rfl⟩
theorem amP:bG Tryz.prog 173 ⟨(.struct [(0,3),(1,50)]),2,32,[.d true (.int .i64 0),.nil]⟩:=⟨⟨Tryz.t173,by kernel_rfl,rfl,rfl,_,rfl,fun c w=>aB (by rfl)⟩,⟨_,Tryz.underlying173,by rfl⟩,rfl⟩
theorem amQ:bG Tryz.prog 190 ⟨(.struct [(0,4),(1,22)]),2,32,[.d true (.bool false),.nil]⟩:=⟨⟨Tryz.t190,by kernel_rfl,rfl,rfl,_,rfl,fun c w=>aB (by rfl)⟩,⟨_,Tryz.underlying190,by rfl⟩,rfl⟩
theorem amR:bG Tryz.prog 191 ⟨(.struct [(0,4),(1,22)]),2,32,[.d true (.bool false),.nil]⟩:=⟨⟨Tryz.t191,by kernel_rfl,rfl,rfl,_,rfl,fun c w=>aB (by rfl)⟩,⟨_,Tryz.underlying191,by rfl⟩,rfl⟩
theorem amS:bG Tryz.prog 260 ⟨(.slice 88),1,24,[.nil]⟩:=⟨⟨Tryz.t260,by kernel_rfl,rfl,rfl,_,rfl,fun c w=>aB (by rfl)⟩,Tryz.underlying260,rfl⟩
theorem amT:bG Tryz.prog 262 ⟨(.slice 50),1,24,[.nil]⟩:=⟨⟨Tryz.t262,by kernel_rfl,rfl,rfl,_,rfl,fun c w=>aB (by rfl)⟩,Tryz.underlying262,rfl⟩
theorem amU:bG Tryz.prog 266 ⟨(.int .u64),1,8,[.d true (.int .u64 0)]⟩:=⟨⟨Tryz.t266,by kernel_rfl,rfl,rfl,_,rfl,fun c w=>aB (by rfl)⟩,Tryz.underlying266,rfl⟩
theorem amV:bG Tryz.prog 277 ⟨(.int .i64),1,8,[.d true (.int .i64 0)]⟩:=⟨⟨Tryz.t277,by kernel_rfl,rfl,rfl,_,rfl,fun c w=>aB (by rfl)⟩,Tryz.underlying277,rfl⟩
theorem amW:bG Tryz.prog 284 ⟨(.int .u32),1,4,[.d true (.int .u32 0)]⟩:=⟨⟨Tryz.t284,by kernel_rfl,rfl,rfl,_,rfl,fun c w=>aB (by rfl)⟩,Tryz.underlying284,rfl⟩
theorem amX:bG Tryz.prog 286 ⟨(.int .u64),1,8,[.d true (.int .u64 0)]⟩:=⟨⟨Tryz.t286,by kernel_rfl,rfl,rfl,_,rfl,fun c w=>aB (by rfl)⟩,Tryz.underlying286,rfl⟩
theorem amY:bG Tryz.prog 291 ⟨(.int .u64),1,8,[.d true (.int .u64 0)]⟩:=⟨⟨Tryz.t291,by kernel_rfl,rfl,rfl,_,rfl,fun c w=>aB (by rfl)⟩,Tryz.underlying291,rfl⟩
theorem amZ:bG Tryz.prog 295 ⟨.scalar,1,8,[.np]⟩:=⟨⟨Tryz.t295,by kernel_rfl,rfl,rfl,_,rfl,fun c w=>aB (by rfl)⟩,⟨_,Tryz.underlying295,(fun _ h=>by cases h),(fun _ _ h=>by cases h)⟩,rfl⟩
theorem am0:bG Tryz.prog 298 ⟨.scalar,1,8,[.np]⟩:=⟨⟨Tryz.t298,by kernel_rfl,rfl,rfl,_,rfl,fun c w=>aB (by rfl)⟩,⟨_,Tryz.underlying298,(fun _ h=>by cases h),(fun _ _ h=>by cases h)⟩,rfl⟩
theorem am1:bG Tryz.prog 302 ⟨(.struct [(0,17),(1,17),(2,17),(3,9)]),4,40,[.np,.np,.np,.d true (.str ⟨#[]⟩)]⟩:=⟨⟨Tryz.t302,by kernel_rfl,rfl,rfl,_,rfl,fun c w=>aB (by rfl)⟩,⟨_,Tryz.underlying302,by rfl⟩,rfl⟩
theorem am2:bG Tryz.prog 303 ⟨(.struct [(0,17),(1,17),(2,17),(3,9)]),4,40,[.np,.np,.np,.d true (.str ⟨#[]⟩)]⟩:=⟨⟨Tryz.t303,by kernel_rfl,rfl,rfl,_,rfl,fun c w=>aB (by rfl)⟩,⟨_,Tryz.underlying303,by rfl⟩,rfl⟩
theorem am3:bG Tryz.prog 308 ⟨(.int .u8),1,1,[.d true (.int .u8 0)]⟩:=⟨⟨Tryz.t308,by kernel_rfl,rfl,rfl,_,rfl,fun c w=>aB (by rfl)⟩,Tryz.underlying308,rfl⟩
theorem am4:bG Tryz.prog 309 ⟨(.int .u8),1,1,[.d true (.int .u8 0)]⟩:=⟨⟨Tryz.t309,by kernel_rfl,rfl,rfl,_,rfl,fun c w=>aB (by rfl)⟩,Tryz.underlying309,rfl⟩
theorem am5:bG Tryz.prog 311 ⟨.scalar,1,8,[.np]⟩:=⟨⟨Tryz.t311,by kernel_rfl,rfl,rfl,_,rfl,fun c w=>aB (by rfl)⟩,⟨_,Tryz.underlying311,(fun _ h=>by cases h),(fun _ _ h=>by cases h)⟩,rfl⟩
theorem am6:bG Tryz.prog 312 ⟨(.int .i32),1,4,[.d true (.int .i32 0)]⟩:=⟨⟨Tryz.t312,by kernel_rfl,rfl,rfl,_,rfl,fun c w=>aB (by rfl)⟩,Tryz.underlying312,rfl⟩
theorem am7:bG Tryz.prog 313 ⟨(.int .i32),1,4,[.d true (.int .i32 0)]⟩:=⟨⟨Tryz.t313,by kernel_rfl,rfl,rfl,_,rfl,fun c w=>aB (by rfl)⟩,Tryz.underlying313,rfl⟩
theorem arM:∀t y,ty t=some y→bG Tryz.prog t y:=by
 intro t y h
 unfold ty at h
 split at h<;>first | (cases h;done) | skip
 ·cases h;exact ok2
 ·cases h;exact ok3
 ·cases h;exact ok4
 ·cases h;exact ok5
 ·cases h;exact ok6
 ·cases h;exact ok7
 ·cases h;exact ok8
 ·cases h;exact ok9
 ·cases h;exact aq2
 ·cases h;exact aq3
 ·cases h;exact aq4
 ·cases h;exact aq5
 ·cases h;exact aq6
 ·cases h;exact aq7
 ·cases h;exact ok16
 ·cases h;exact aq8
 ·cases h;exact aq9
 ·cases h;exact ara
 ·cases h;exact arb
 ·cases h;exact ard
 ·cases h;exact arf
 ·cases h;exact arh
 ·cases h;exact ari
 ·cases h;exact arj
 ·cases h;exact ark
 ·cases h;exact arl
 ·cases h;exact arn
 ·cases h;exact aro
 ·cases h;exact arp
 ·cases h;exact arq
 ·cases h;exact ars
 ·cases h;exact aru
 ·cases h;exact arv
 ·cases h;exact arw
 ·cases h;exact arx
 ·cases h;exact arz
 ·cases h;exact arA
 ·cases h;exact arB
 ·cases h;exact arC
 ·cases h;exact arD
 ·cases h;exact arE
 ·cases h;exact arF
 ·cases h;exact arG
 ·cases h;exact arH
 ·cases h;exact arI
 ·cases h;exact arJ
 ·cases h;exact arK
 ·cases h;exact arL
 ·cases h;exact amB
 ·cases h;exact amC
 ·cases h;exact amD
 ·cases h;exact amE
 ·cases h;exact amF
 ·cases h;exact amG
 ·cases h;exact amH
 ·cases h;exact amI
 ·cases h;exact amJ
 ·cases h;exact amK
 ·cases h;exact amL
 ·cases h;exact amM
 ·cases h;exact amN
 ·cases h;exact amO
 ·cases h;exact amP
 ·cases h;exact amQ
 ·cases h;exact amR
 ·cases h;exact amS
 ·cases h;exact amT
 ·cases h;exact amU
 ·cases h;exact amV
 ·cases h;exact amW
 ·cases h;exact amX
 ·cases h;exact amY
 ·cases h;exact amZ
 ·cases h;exact am0
 ·cases h;exact am1
 ·cases h;exact am2
 ·cases h;exact am3
 ·cases h;exact am4
 ·cases h;exact am5
 ·cases h;exact am6
 ·cases h;exact am7
def co:TypeId→Option Co
 | 3=>some .i64
 | 4=>some .bool
 | 5=>some .u8
 | 9=>some .str
 | 25=>some .blk
 | 34=>some .iop
 | 42=>some .cer
 | 50=>some .ints
 | 52=>some .cac
 | 62=>some .Iq
 | 64=>some .eng
 | 83=>some .tab
 | 88=>some .poly
 | 90=>some .poly
 | 92=>some .sym
 | 140=>some .ev
 | 160=>some .ins
 | 169=>some .atom
 | 173=>some .mono
 | 191=>some .ask
 | _=>none
def ieq:TypeId→Option Co
 | 34=>some .iop
 | 160=>some .ins
 | _=>none
def X:XT:={ty:=ty,co:=co,glob:=fun g=>none,ieq:=ieq}
noncomputable def E:Tab:={P:=Tryz.prog,ty:=ty,glob:=fun g=>none,ieq:=fun t=>(ieq t).map fun c=>c.size}
end Go.TX.Seat
namespace Go.TX.Seat
open Go Go.AE Go.TX Go.TX.F Go.Proofs
set_option maxRecDepth 100000
theorem agn (A:Alg): @Ru aF.z X E A [(7,[(0,([0],[])),(1,([47],[])),(2,([48],[])),(3,([49],[])),(4,([5],[])),(5,([0],[])),(6,([52],[])),(7,([53],[])),(8,([54],[])),(9,([55],[])),(10,([51,56],[])),(11,([50,57],[])),(12,([58],[])),(13,([59],[])),(14,([60],[])),(15,([0],[])),(16,([62],[])),(17,([63],[])),(18,([64],[])),(19,([5],[])),(20,([66],[])),(21,([67],[])),(22,([0],[])),(23,([69],[])),(24,([70],[])),(25,([71],[])),(26,([72],[])),(27,([68,73],[])),(28,([65,74],[])),(29,([75],[])),(30,([76],[])),(31,([77],[])),(32,([61,78],[])),(33,([5],[])),(34,([80],[])),(35,([79,81],[])),(36,([5],[])),(37,([0],[])),(38,([84],[])),(39,([85],[])),(40,([86],[])),(41,([87],[])),(42,([83,88],[])),(43,([89],[])),(44,([82,90],[])),(45,([91],[]))])] .u bO Tryz.f78 [] (PX A):=fun _=>by kernel_rfl
theorem agp (A:Alg) (aR:Ct A.ah bO): @Ru aF.z X E A [] .u tO Tryz.f91 [(78,⟨_,aR⟩)] (PY A aR.pre aR.fn):=fun _=>by kernel_rfl
theorem agq (A:Alg): @Ru aF.z X E A [] .u fG Tryz.f61 [] (PZ A):=fun _=>by kernel_rfl
theorem agr (A:Alg): @Ru aF.z X E A [] .u mI Tryz.f115 [] (P5 A):=fun _=>by kernel_rfl
theorem ags (A:Alg) (bP:Ct A.ah fG): @Ru aF.z X E A [] .u Ea Tryz.f156 [(61,⟨_,bP⟩)] (P6 A bP.pre bP.fn):=fun _=>by kernel_rfl
theorem agt (A:Alg) (FW:Ct A.ah Ea): @Ru aF.z X E A [] .u tQ Tryz.f116 [(156,⟨_,FW⟩)] (P7 A FW.pre FW.fn):=fun _=>by kernel_rfl
theorem agu (A:Alg) (je:Ct A.ah mI) (bP:Ct A.ah fG) (oQ:Ct A.ah tQ): @Ru aF.z X E A [] (.seq .u (.seq .u (.seq (.seq .u (.block (.seq .u (.cond .u (.seq .u (.cond .u (.seq .u (.cond .u (.seq (.seq .u (.cut ⟨[(0,.c (.rows false .iop)),(1,.c (.int .i64)),(2,.c (.int .i64)),(7,.c (.pb 0 5 0)),(13,.c (.int .i64)),(78,.c (.bool))],[.box (.sv false .iop)]⟩ (.cond .u .u))) .u))))))))) .u))) Eb Tryz.f62 [(115,⟨_,je⟩),(61,⟨_,bP⟩),(116,⟨_,oQ⟩)] (P8 A je.pre je.fn bP.pre bP.fn oQ.pre oQ.fn):=fun _=>by kernel_rfl
theorem agv (A:Alg) (je:Ct A.ah mI) (oQ:Ct A.ah tQ): @Ru aF.z X E A [] (.seq .u (.seq .u (.seq (.seq .u (.block (.seq .u (.cond .u (.seq .u (.cond .u (.seq (.seq .u (.cut ⟨[(1,.c (.pb 0 7 0)),(3,.c (.int .i64)),(42,.c (.bool))],[.box (.sv false .blk)]⟩ (.cond .u .u))) .u))))))) .u))) Ec Tryz.f63 [(115,⟨_,je⟩),(116,⟨_,oQ⟩)] (P9 A je.pre je.fn oQ.pre oQ.fn):=fun _=>by kernel_rfl
theorem agw (A:Alg) (bP:Ct A.ah fG) (FX:Ct A.ah Ec) (FY:Ct A.ah Eb): @Ru aF.z X E A [] (.seq .u (.seq .u (.seq (.seq .u (.block (.loop ⟨[(1,.c (.pb 0 7 0)),(3,.c (.int .i64))],[.box (.sv false .blk)]⟩ .u))) .u))) gJ Tryz.f19 [(61,⟨_,bP⟩),(63,⟨_,FX⟩),(62,⟨_,FY⟩)] (Qa A bP.pre bP.fn FX.pre FX.fn FY.pre FY.fn):=fun _=>by kernel_rfl
theorem agx (A:Alg): @Ru aF.z X E A [] .u jJ Tryz.f59 [] (Qb A):=fun _=>by kernel_rfl
theorem agy (A:Alg) (bP:Ct A.ah fG): @Ru aF.z X E A [] (.seq .u (.seq .u (.seq (.seq .u (.cut ⟨[(1,.c (.rows false .i64)),(2,.c (.pb 0 5 0)),(4,.c (.pb 1 5 0)),(5,.c (.pb 2 5 0))],[.box (.sv false .iop),.box (.agg [.int .i64,.int .i64,.int .i64,.int .i64,.int .i64]),.box (.sv true .iop)]⟩ (.cond .u .u))) (.seq (.seq .u (.cut ⟨[(4,.c (.pb 0 5 0)),(5,.c (.pb 1 5 0))],[.box (.agg [.int .i64,.int .i64,.int .i64,.int .i64,.int .i64]),.box (.sv true .iop)]⟩ (.cond .u .u))) .u)))) tT Tryz.f60 [(61,⟨_,bP⟩)] (Qc A bP.pre bP.fn):=fun _=>by kernel_rfl
theorem agz (A:Alg) (dB:Ct A.ah gJ) (oU:Ct A.ah tT) (gK:Ct A.ah jJ): @Ru aF.z X E A [] (.seq .u (.seq .u (.seq .u (.seq .u (.seq .u (.seq (.seq .u (.block (.loop ⟨[(2,.c (.pb 0 7 0)),(3,.c (.pb 1 7 0)),(4,.c (.own 2)),(5,.c (.own 3)),(6,.c (.int .i64))],[.box (.agg [.int .i64,.int .i64,.nil,.int .i64,.int .i64,.int .i64,.int .i64]),.box (.agg [.int .i64,.int .i64,.own 4,.int .i64,.int .i64,.int .i64,.int .i64]),.rows true .i64,.rows true .i64,.rows true .iop]⟩ (.seq .u (.seq (.block (.seq .u (.seq .u (.seq .u (.seq (.seq .u (.cut ⟨[(2,.c (.pb 0 7 0)),(3,.c (.pb 1 7 0)),(4,.c (.own 2)),(5,.c (.own 3)),(6,.c (.int .i64)),(7,.c (.pb 4 5 0)),(8,.c (.int .i64))],[.box (.agg [.int .i64,.int .i64,.nil,.int .i64,.int .i64,.int .i64,.int .i64]),.box (.agg [.int .i64,.int .i64,.own 5,.int .i64,.int .i64,.int .i64,.int .i64]),.rows true .i64,.rows true .i64,.box (.sv true .iop),.rows true .iop]⟩ (.cond .u .u))) (.seq (.seq .u (.cut ⟨[(2,.c (.pb 0 7 0)),(3,.c (.pb 1 7 0)),(4,.c (.own 2)),(5,.c (.own 3)),(6,.c (.int .i64)),(7,.c (.pb 4 5 0)),(8,.c (.int .i64))],[.box (.agg [.int .i64,.int .i64,.nil,.int .i64,.int .i64,.int .i64,.int .i64]),.box (.agg [.int .i64,.int .i64,.own 5,.int .i64,.int .i64,.int .i64,.int .i64]),.rows true .i64,.rows true .i64,.box (.sv true .iop),.rows true .iop]⟩ (.cond .u .u))) (.seq (.seq .u (.cut ⟨[(2,.c (.pb 0 7 0)),(3,.c (.pb 1 7 0)),(4,.c (.own 2)),(5,.c (.own 3)),(6,.c (.int .i64)),(8,.c (.int .i64))],[.box (.agg [.int .i64,.int .i64,.nil,.int .i64,.int .i64,.int .i64,.int .i64]),.box (.agg [.int .i64,.int .i64,.own 4,.int .i64,.int .i64,.int .i64,.int .i64]),.rows true .i64,.rows true .i64,.rows true .iop]⟩ (.cond .u .u))) .u))))))) .u))))) (.seq (.seq .u (.cut ⟨[(2,.c (.pb 0 7 0)),(3,.c (.pb 1 7 0)),(4,.c (.own 2))],[.box (.agg [.int .i64,.int .i64,.nil,.int .i64,.int .i64,.int .i64,.int .i64]),.box (.agg [.int .i64,.int .i64,.own 3,.int .i64,.int .i64,.int .i64,.int .i64]),.rows true .i64,.rows true .iop]⟩ (.cond .u .u))) (.seq (.seq .u (.cut ⟨[(2,.c (.pb 0 7 0)),(3,.c (.pb 1 7 0))],[.box (.agg [.int .i64,.int .i64,.nil,.int .i64,.int .i64,.int .i64,.int .i64]),.box (.agg [.int .i64,.int .i64,.own 2,.int .i64,.int .i64,.int .i64,.int .i64]),.rows true .iop]⟩ (.cond .u .u))) .u)))))))) mJ Tryz.f18 [(19,⟨_,dB⟩),(60,⟨_,oU⟩),(59,⟨_,gK⟩)] (Qd A dB.pre dB.fn oU.pre oU.fn gK.pre gK.fn):=fun _=>by kernel_rfl
theorem agA (A:Alg) (oU:Ct A.ah tT): @Ru aF.z X E A [] (.seq .u (.seq .u (.seq .u (.seq (.seq .u (.block (.loop ⟨[(1,.c (.rows false .bool)),(2,.c (.pb 0 7 0)),(4,.c (.pb 1 7 0)),(5,.c (.own 2)),(6,.c (.own 3)),(7,.c (.int .i64))],[.box (.sv false .blk),.box (.agg [.int .i64,.int .i64,.nil,.int .i64,.int .i64,.int .i64,.int .i64]),.rows true .iop,.rows true .i64]⟩ (.seq .u (.seq (.block (.seq .u (.seq .u (.cut ⟨[(1,.c (.rows false .bool)),(2,.c (.pb 0 7 0)),(4,.c (.pb 1 7 0)),(5,.c (.own 2)),(6,.c (.own 3)),(7,.c (.int .i64))],[.box (.sv false .blk),.box (.agg [.int .i64,.int .i64,.nil,.int .i64,.int .i64,.int .i64,.int .i64]),.rows true .iop,.rows true .i64]⟩ (.cond .u .u))))) .u))))) (.seq .u (.seq .u (.seq (.seq .u (.cut ⟨[(2,.c (.pb 0 7 0)),(4,.c (.pb 1 7 0)),(6,.c (.own 2)),(8,.c (.pb 3 7 0))],[.box (.sv false .blk),.box (.agg [.int .i64,.int .i64,.nil,.int .i64,.int .i64,.int .i64,.int .i64]),.rows true .i64,.box (.agg [.int .i64,.int .i64,.own 4,.int .i64,.int .i64,.int .i64,.int .i64]),.rows true .iop]⟩ (.cond .u .u))) (.seq (.seq .u (.cut ⟨[(4,.c (.pb 0 7 0)),(8,.c (.pb 1 7 0))],[.box (.agg [.int .i64,.int .i64,.nil,.int .i64,.int .i64,.int .i64,.int .i64]),.box (.agg [.int .i64,.int .i64,.own 2,.int .i64,.int .i64,.int .i64,.int .i64]),.rows true .iop]⟩ (.cond .u .u))) .u)))))))) tV Tryz.f130 [(60,⟨_,oU⟩)] (Qg A oU.pre oU.fn):=fun _=>by kernel_rfl
theorem agB (A:Alg) (dB:Ct A.ah gJ) (bP:Ct A.ah fG): @Ru aF.z X E A [] (.seq .u (.seq .u (.seq .u (.seq (.seq .u (.block (.loop ⟨[(1,.c (.pb 0 7 0)),(3,.c (.own 1)),(4,.c (.int .i64))],[.box (.sv false .blk),.rows true .bool]⟩ .u))) (.seq (.seq .u (.cut ⟨[(1,.c (.pb 0 7 0)),(3,.c (.own 1))],[.box (.sv false .blk),.rows true .bool]⟩ (.cond .u .u))) (.seq (.seq .u (.cut ⟨[(1,.c (.pb 0 7 0)),(3,.c (.own 1))],[.box (.sv false .blk),.rows true .bool]⟩ (.cond .u .u))) (.seq (.seq .u (.block (.loop ⟨[(1,.c (.pb 0 7 0)),(3,.c (.own 1)),(5,.c (.int .i64))],[.box (.sv false .blk),.rows true .bool]⟩ (.seq .u (.seq (.cut ⟨[(1,.c (.pb 0 7 0)),(3,.c (.own 1)),(5,.c (.int .i64))],[.box (.sv false .blk),.rows true .bool]⟩ (.block (.seq .u (.seq .u (.seq (.seq .u (.cut ⟨[(1,.c (.pb 0 7 0)),(3,.c (.own 1)),(5,.c (.int .i64)),(6,.c (.pb 2 5 0))],[.box (.sv false .blk),.rows true .bool,.box (.sv false .iop)]⟩ (.cond .u .u))) (.seq .u (.cut ⟨[(1,.c (.pb 0 7 0)),(3,.c (.own 1)),(5,.c (.int .i64))],[.box (.sv false .blk),.rows true .bool]⟩ (.cond .u .u)))))))) .u))))) .u))))))) Ed Tryz.f131 [(19,⟨_,dB⟩),(61,⟨_,bP⟩)] (Qh A dB.pre dB.fn bP.pre bP.fn):=fun _=>by kernel_rfl
theorem agC (A:Alg) (dB:Ct A.ah gJ) (FZ:Ct A.ah Ed) (oV:Ct A.ah tV): @Ru aF.z X E A [(3,[(0,([1],[])),(1,([1],[])),(2,([8],[0])),(3,([7,9],[])),(4,([2,10],[]))])] .u Ee Tryz.f70 [(19,⟨_,dB⟩),(131,⟨_,FZ⟩),(130,⟨_,oV⟩)] (Qi A dB.pre dB.fn FZ.pre FZ.fn oV.pre oV.fn):=fun _=>by kernel_rfl
theorem agD (A:Alg): @Ru aF.z X E A [(4,[(0,([0],[])),(1,([5],[])),(2,([14,15],[])),(3,([16],[])),(4,([17],[])),(5,([18],[])),(6,([19],[])),(7,([0,20],[])),(8,([5,20],[])),(9,([20,21,22],[])),(10,([20,23],[])),(11,([20,24],[])),(12,([20,25],[])),(13,([20,26],[])),(14,([27],[])),(15,([0,28],[])),(16,([5,28],[])),(17,([28,29,30],[])),(18,([28,31],[])),(19,([28,32],[])),(20,([28,33],[])),(21,([28,34],[])),(22,([0,35],[])),(23,([5,35],[])),(24,([35,36,37],[])),(25,([35,38],[])),(26,([35,39],[])),(27,([0,35],[])),(28,([1,35],[])),(29,([35,41,42],[])),(30,([35,43],[])),(31,([35,44],[])),(32,([35,40,45],[])),(33,([28,35,46],[])),(34,([28,47],[]))]),(6,[(0,([0],[])),(1,([5],[])),(2,([49,50],[])),(3,([51],[])),(4,([52],[])),(5,([53],[])),(6,([54],[])),(7,([0,55],[])),(8,([5,55],[])),(9,([55,56,57],[])),(10,([55,58],[])),(11,([55,59],[])),(12,([0,55],[])),(13,([1,55],[])),(14,([55,61,62],[])),(15,([55,63],[])),(16,([55,64],[])),(17,([55,60,65],[])),(18,([55,66],[]))])] (.seq .u (.seq (.seq .u (.block (.loop ⟨[(0,.c (.rows false .iop)),(1,.c (.int .i64)),(5,.c (.int .i64))],[]⟩ .u))) .u)) Ef Tryz.f132 [] (Ql A):=fun _=>by kernel_rfl
theorem agE (A:Alg) (dB:Ct A.ah gJ) (oV:Ct A.ah tV) (F3:Ct A.ah Ef): @Ru aF.z X E A [] (.seq .u (.seq .u (.seq .u (.seq (.seq .u (.block (.loop ⟨[(1,.c (.pb 0 7 0)),(2,.c (.pb 1 7 0)),(3,.c (.own 2)),(4,.c (.int .i64))],[.box (.sv false .blk),.box (.agg [.int .i64,.int .i64,.nil,.int .i64,.int .i64,.int .i64,.int .i64]),.rows true .bool]⟩ .u))) .u)))) Eh Tryz.f71 [(19,⟨_,dB⟩),(130,⟨_,oV⟩),(132,⟨_,F3⟩)] (Qm A dB.pre dB.fn oV.pre oV.fn F3.pre F3.fn):=fun _=>by kernel_rfl
theorem agF (A:Alg): @Ru aF.z X E A [] .u tX Tryz.f133 [] (Qn A):=fun _=>by kernel_rfl
theorem agG (A:Alg): @Ru aF.z X E A [] (.seq .u (.seq .u (.seq (.seq .u (.cut ⟨[(3,.c (.int .i64))],[]⟩ (.cond .u .u))) .u))) Ei Tryz.f169 [] (Qo A):=fun _=>by kernel_rfl
theorem agH (A:Alg) (F4:Ct A.ah Ei) (je:Ct A.ah mI): @Ru aF.z X E A [] .u Ej Tryz.f134 [(169,⟨_,F4⟩),(115,⟨_,je⟩)] (Qp A F4.pre F4.fn je.pre je.fn):=fun _=>by kernel_rfl
theorem agI (A:Alg): @Ru aF.z X E A [] .u El Tryz.f170 [] (Qs A):=fun _=>by kernel_rfl
theorem agJ (A:Alg) (F5:Ct A.ah El) (oW:Ct A.ah tX): @Ru aF.z X E A [] (.seq .u (.seq .u (.seq .u (.seq (.block (.seq .u (.cond .u (.seq (.seq .u (.cut ⟨[(1,.c (.pb 0 7 0)),(2,.c (.pb 1 7 0)),(4,.c (.bool)),(6,.c (.bool)),(33,.c (.bool))],[.box (.sv false .blk),.box (.agg [.int .i64,.int .i64,.nil,.int .i64,.int .i64,.int .i64,.int .i64])]⟩ (.cond .u .u))) .u)))) .u)))) Em Tryz.f135 [(170,⟨_,F5⟩),(133,⟨_,oW⟩)] (Qt A F5.pre F5.fn oW.pre oW.fn):=fun _=>by kernel_rfl
theorem agK (A:Alg) (dB:Ct A.ah gJ) (F6:Ct A.ah Ej) (F7:Ct A.ah Em) (oW:Ct A.ah tX) (gK:Ct A.ah jJ): @Ru aF.z X E A [(11,[(0,([3],[])),(1,([53],[])),(2,([4],[])),(3,([5],[])),(4,([56],[])),(5,([6],[])),(6,([8],[])),(7,([57,58,59],[1])),(8,([60],[])),(9,([54,55],[])),(10,([61,62],[]))])] (.seq .u (.seq .u (.seq .u (.seq (.seq .u (.block (.loop ⟨[(2,.c (.pb 0 7 0)),(3,.c (.pb 1 7 0)),(4,.c (.int .i64))],[.box (.agg [.int .i64,.int .i64,.nil,.int .i64,.int .i64,.int .i64,.int .i64]),.box (.agg [.int .i64,.int .i64,.own 2,.int .i64,.int .i64,.int .i64,.int .i64]),.rows true .iop]⟩ (.seq .u (.seq (.block (.seq .u (.seq .u (.seq .u (.seq .u (.cut ⟨[(2,.c (.pb 0 7 0)),(3,.c (.pb 1 7 0)),(4,.c (.int .i64))],[.box (.agg [.int .i64,.int .i64,.nil,.int .i64,.int .i64,.int .i64,.int .i64]),.box (.agg [.int .i64,.int .i64,.own 2,.int .i64,.int .i64,.int .i64,.int .i64]),.rows true .iop]⟩ (.cond .u .u))))))) .u))))) .u)))) En Tryz.f72 [(19,⟨_,dB⟩),(134,⟨_,F6⟩),(135,⟨_,F7⟩),(133,⟨_,oW⟩),(59,⟨_,gK⟩)] (Qw A dB.pre dB.fn F6.pre F6.fn F7.pre F7.fn oW.pre oW.fn gK.pre gK.fn):=fun _=>by kernel_rfl
theorem agL (A:Alg) (F8:Ct A.ah En) (jf:Ct A.ah mJ) (F9:Ct A.ah Ee) (Ga:Ct A.ah Eh): @Ru aF.z X E A [] .u mK Tryz.f25 [(72,⟨_,F8⟩),(18,⟨_,jf⟩),(70,⟨_,F9⟩),(71,⟨_,Ga⟩)] (Qx A F8.pre F8.fn jf.pre jf.fn F9.pre F9.fn Ga.pre Ga.fn):=fun _=>by kernel_rfl
theorem agM (A:Alg) (aR:Ct A.ah bO): @Ru aF.z X E A [] (.seq .u (.seq .u (.seq .u (.seq (.seq .u (.block (.seq (.seq .u (.cut ⟨[(0,.c (.pb 0 2 0)),(2,.c (.pb 1 4 0)),(3,.c (.int .i64)),(4,.c (.int .i64)),(10,.c (.int .i64)),(11,.c (.bool))],[.box (.agg [.rows true .u8,.int .i64]),.box (.agg [.int .i64,.int .i64,.int .i64,.int .i64])]⟩ (.cond .u .u))) (.cond .u (.seq .u (.cond .u (.seq (.seq .u (.cut ⟨[(0,.c (.pb 0 2 0)),(2,.c (.pb 1 4 0)),(3,.c (.int .i64)),(4,.c (.int .i64)),(10,.c (.int .i64)),(30,.c (.bool))],[.box (.agg [.rows true .u8,.int .i64]),.box (.agg [.int .i64,.int .i64,.int .i64,.int .i64])]⟩ (.cond .u (.seq .u (.cut ⟨[(0,.c (.pb 0 2 0)),(2,.c (.pb 1 4 0)),(3,.c (.int .i64)),(4,.c (.int .i64)),(10,.c (.int .i64)),(30,.c (.bool))],[.box (.agg [.rows true .u8,.int .i64]),.box (.agg [.int .i64,.int .i64,.int .i64,.int .i64])]⟩ (.cond .u .u)))))) (.cond .u (.seq .u (.cond .u (.seq (.seq .u (.cut ⟨[(0,.c (.pb 0 2 0)),(2,.c (.pb 1 4 0)),(3,.c (.int .i64)),(4,.c (.int .i64)),(10,.c (.int .i64)),(54,.c (.bool))],[.box (.agg [.rows true .u8,.int .i64]),.box (.agg [.int .i64,.int .i64,.int .i64,.int .i64])]⟩ (.cond .u .u))) .u))))))))))) .u)))) Eo Tryz.f179 [(78,⟨_,aR⟩)] (Qy A aR.pre aR.fn):=fun _=>by kernel_rfl
theorem agN (A:Alg): @Ru aF.z X E A [] (.seq .u (.seq (.seq .u (.block (.seq .u (.cond .u (.seq .u (.cond .u (.seq .u (.cond .u (.seq (.seq .u (.cut ⟨[(1,.c (.pb 0 4 0)),(4,.c (.int .i64)),(30,.c (.bool))],[.box (.sv false .ins)]⟩ (.cond .u (.seq .u (.cut ⟨[(1,.c (.pb 0 4 0)),(4,.c (.int .i64)),(30,.c (.bool))],[.box (.sv false .ins)]⟩ (.cond .u (.seq .u (.cut ⟨[(1,.c (.pb 0 4 0)),(4,.c (.int .i64)),(30,.c (.bool))],[.box (.sv false .ins)]⟩ (.cond .u (.seq .u (.cut ⟨[(1,.c (.pb 0 4 0)),(4,.c (.int .i64)),(30,.c (.bool))],[.box (.sv false .ins)]⟩ (.cond .u .u)))))))))))) (.cond .u (.seq .u (.cond .u (.seq .u (.cond .u (.seq (.seq .u (.cut ⟨[(1,.c (.pb 0 4 0)),(54,.c (.bool))],[.box (.sv false .ins)]⟩ (.cond .u .u))) .u))))))))))))))) .u)) Ep Tryz.f237 [] (Qz A):=fun _=>by kernel_rfl
theorem agO (A:Alg) (bP:Ct A.ah fG) (Gb:Ct A.ah Ep): @Ru aF.z X E A [] .u tY Tryz.f181 [(61,⟨_,bP⟩),(237,⟨_,Gb⟩)] (QA A bP.pre bP.fn Gb.pre Gb.fn):=fun _=>by kernel_rfl
theorem agP (A:Alg): @Ru aF.z X E A [] .u tZ Tryz.f182 [] (QB A):=fun _=>by kernel_rfl
theorem agQ (A:Alg) (oZ:Ct A.ah tZ) (o7:Ct A.ah tY): @Ru aF.z X E A [] .u uf Tryz.f180 [(182,⟨_,oZ⟩),(181,⟨_,o7⟩)] (QC A oZ.pre oZ.fn o7.pre o7.fn):=fun _=>by kernel_rfl
theorem agR (A:Alg) (Gc:Ct A.ah Eo) (aR:Ct A.ah bO) (o8:Ct A.ah uf): @Ru aF.z X E A [(3,[(0,([3],[])),(1,([9],[])),(2,([3],[])),(3,([11],[])),(4,([0],[])),(5,([13],[1,3])),(6,([10,12,14],[])),(7,([2,15],[]))])] .u Er Tryz.f143 [(179,⟨_,Gc⟩),(78,⟨_,aR⟩),(180,⟨_,o8⟩)] (QH A Gc.pre Gc.fn aR.pre aR.fn o8.pre o8.fn):=fun _=>by kernel_rfl
theorem agS (A:Alg) (Gd:Ct A.ah Er) (aR:Ct A.ah bO): @Ru aF.z X E A [] (.seq .u (.seq .u (.seq (.seq .u (.block (.loop ⟨[(0,.c (.pb 0 2 0)),(3,.c (.own 1)),(4,.c (.int .i64))],[.box (.agg [.rows true .u8,.int .i64]),.rows true .ins]⟩ .u))) .u))) Es Tryz.f92 [(143,⟨_,Gd⟩),(78,⟨_,aR⟩)] (QK A Gd.pre Gd.fn aR.pre aR.fn):=fun _=>by kernel_rfl
theorem agT (A:Alg) (oZ:Ct A.ah tZ) (o7:Ct A.ah tY) (bP:Ct A.ah fG) (o8:Ct A.ah uf): @Ru aF.z X E A [] (.seq .u (.seq .u (.seq (.seq .u (.block (.loop ⟨[(1,.c (.rows false .ins)),(5,.c (.int .i64))],[]⟩ .u))) .u))) Eu Tryz.f145 [(182,⟨_,oZ⟩),(181,⟨_,o7⟩),(61,⟨_,bP⟩),(180,⟨_,o8⟩)] (QL A oZ.pre oZ.fn o7.pre o7.fn bP.pre bP.fn o8.pre o8.fn):=fun _=>by kernel_rfl
theorem agU (A:Alg): @Ru aF.z X E A [(2,[(0,([2],[])),(1,([2],[])),(2,([13],[])),(3,([14],[])),(4,([15],[])),(5,([4,12],[2])),(6,([16],[]))])] .u iF Tryz.f183 [] (QM A):=fun _=>by kernel_rfl
theorem agV (A:Alg) (eP:Ct A.ah iF): @Ru aF.z X E A [] .u ug Tryz.f184 [(183,⟨_,eP⟩)] (QN A eP.pre eP.fn):=fun _=>by kernel_rfl
theorem agW (A:Alg) (eP:Ct A.ah iF): @Ru aF.z X E A [] .u jK Tryz.f185 [(183,⟨_,eP⟩)] (QO A eP.pre eP.fn):=fun _=>by kernel_rfl
theorem agX (A:Alg) (gL:Ct A.ah jK) (eP:Ct A.ah iF): @Ru aF.z X E A [] .u uh Tryz.f186 [(185,⟨_,gL⟩),(183,⟨_,eP⟩)] (QS A gL.pre gL.fn eP.pre eP.fn):=fun _=>by kernel_rfl
theorem agY (A:Alg): @Ru aF.z X E A [] (.seq .u (.seq .u (.seq (.seq .u (.block (.loop ⟨[(0,.c (.int .i64)),(3,.c (.int .i64)),(4,.c (.int .i64))],[]⟩ .u))) .u))) Ew Tryz.f187 [] (QT A):=fun _=>by kernel_rfl
theorem agZ (A:Alg) (gL:Ct A.ah jK) (eP:Ct A.ah iF) (o9:Ct A.ah uh) (pq:Ct A.ah ug): @Ru aF.z X E A [] .u Ey Tryz.f188 [(185,⟨_,gL⟩),(183,⟨_,eP⟩),(186,⟨_,o9⟩),(184,⟨_,pq⟩)] (QU A gL.pre gL.fn eP.pre eP.fn o9.pre o9.fn pq.pre pq.fn):=fun _=>by kernel_rfl
theorem ag0 (A:Alg) (gL:Ct A.ah jK): @Ru aF.z X E A [] (.seq .u (.seq .u (.seq .u (.seq .u (.seq .u (.seq (.seq .u (.cut ⟨[(3,.c (.pb 1 4 0)),(4,.c (.pb 2 7 0)),(8,.c (.int .i64)),(9,.c (.pb 3 7 0)),(10,.c (.int .i64))],[.gone,.box (.sv false .ins),.box (.agg [.int .i64,.int .i64,.nil,.int .i64,.int .i64,.int .i64,.int .i64]),.box (.agg [.int .i64,.int .i64,.own 4,.int .i64,.int .i64,.int .i64,.int .i64]),.rows true .iop]⟩ (.cond .u .u))) .u)))))) Ez Tryz.f189 [(185,⟨_,gL⟩)] (QV A gL.pre gL.fn):=fun _=>by kernel_rfl
theorem ag1 (A:Alg) (gL:Ct A.ah jK) (Gf:Ct A.ah Ez) (eP:Ct A.ah iF) (Gg:Ct A.ah Ey) (o9:Ct A.ah uh) (pq:Ct A.ah ug) (Gh:Ct A.ah Ew): @Ru aF.z X E A [(9,[(0,([3],[])),(1,([4],[])),(2,([56],[])),(3,([4],[])),(4,([58],[])),(5,([59],[0,2])),(6,([60],[])),(7,([55,57,61],[])),(8,([62],[])),(9,([54],[])),(10,([54],[])),(11,([],[])),(12,([11,63],[])),(13,([64],[]))])] (.seq .u (.seq (.seq .u (.block (.seq .u (.cond .u (.seq .u (.cond .u (.seq .u (.cond .u (.seq (.seq .u (.cut ⟨[(2,.c (.int .i64)),(3,.c (.pb 1 7 0)),(4,.c (.pb 2 4 0)),(6,.c (.pb 3 7 0)),(22,.c (.int .i64)),(70,.c (.bool))],[.rows true .iop,.box (.agg [.int .i64,.int .i64,.own 0,.int .i64,.int .i64,.int .i64,.int .i64]),.box (.sv false .ins),.box (.agg [.int .i64,.int .i64,.nil,.int .i64,.int .i64,.int .i64,.int .i64])]⟩ (.cond .u .u))) (.cond .u (.seq .u (.cond .u (.seq .u (.cond .u (.seq (.seq .u (.cut ⟨[(3,.c (.pb 1 7 0)),(4,.c (.pb 2 4 0)),(6,.c (.pb 3 7 0)),(109,.c (.bool))],[.rows true .iop,.box (.agg [.int .i64,.int .i64,.own 0,.int .i64,.int .i64,.int .i64,.int .i64]),.box (.sv false .ins),.box (.agg [.int .i64,.int .i64,.nil,.int .i64,.int .i64,.int .i64,.int .i64])]⟩ (.cond .u (.seq .u (.cut ⟨[(3,.c (.pb 1 7 0)),(4,.c (.pb 2 4 0)),(6,.c (.pb 3 7 0)),(109,.c (.bool))],[.rows true .iop,.box (.agg [.int .i64,.int .i64,.own 0,.int .i64,.int .i64,.int .i64,.int .i64]),.box (.sv false .ins),.box (.agg [.int .i64,.int .i64,.nil,.int .i64,.int .i64,.int .i64,.int .i64])]⟩ (.cond .u .u)))))) .u))))))))))))))) .u)) EA Tryz.f146 [(185,⟨_,gL⟩),(189,⟨_,Gf⟩),(183,⟨_,eP⟩),(188,⟨_,Gg⟩),(186,⟨_,o9⟩),(184,⟨_,pq⟩),(187,⟨_,Gh⟩)] (QW A gL.pre gL.fn Gf.pre Gf.fn eP.pre eP.fn Gg.pre Gg.fn o9.pre o9.fn pq.pre pq.fn Gh.pre Gh.fn):=fun _=>by kernel_rfl
theorem ag2 (A:Alg) (Gi:Ct A.ah Eu) (Gj:Ct A.ah EA): @Ru aF.z X E A [(7,[(0,([5],[])),(1,([1],[])),(2,([6],[])),(3,([27,28],[])),(4,([29],[])),(5,([6],[])),(6,([26,30,31],[])),(7,([5,32],[]))])] (.seq .u (.seq .u (.seq .u (.seq (.seq .u (.block (.loop ⟨[(1,.c (.rows false .ins)),(4,.c (.pb 0 7 0)),(5,.c (.pb 1 7 0)),(6,.c (.int .i64))],[.box (.agg [.int .i64,.int .i64,.nil,.int .i64,.int .i64,.int .i64,.int .i64]),.box (.agg [.int .i64,.int .i64,.own 2,.int .i64,.int .i64,.int .i64,.int .i64]),.rows true .iop]⟩ .u))) .u)))) EB Tryz.f94 [(145,⟨_,Gi⟩),(146,⟨_,Gj⟩)] (QX A Gi.pre Gi.fn Gj.pre Gj.fn):=fun _=>by kernel_rfl
theorem ag3 (A:Alg) (Gm:Ct A.ah EB) (jg:Ct A.ah mK) (jf:Ct A.ah mJ) (aR:Ct A.ah bO) (Gn:Ct A.ah Es): @Ru aF.z X E A [] .u uj Tryz.f111 [(94,⟨_,Gm⟩),(25,⟨_,jg⟩),(18,⟨_,jf⟩),(78,⟨_,aR⟩),(92,⟨_,Gn⟩)] (QY A Gm.pre Gm.fn jg.pre jg.fn jf.pre jf.fn aR.pre aR.fn Gn.pre Gn.fn):=fun _=>by kernel_rfl
theorem ag4 (A:Alg) (aR:Ct A.ah bO) (gK:Ct A.ah jJ): @Ru aF.z X E A [(9,[(0,([5],[])),(1,([33],[])),(2,([6],[])),(3,([5],[])),(4,([36],[])),(5,([6],[])),(6,([37,38],[])),(7,([39],[])),(8,([40],[])),(9,([41],[])),(10,([34,35],[])),(11,([43],[])),(12,([42,44],[]))]),(11,[(0,([5],[])),(1,([47],[])),(2,([6],[])),(3,([0],[])),(4,([6],[])),(5,([51],[])),(6,([50,52],[1])),(7,([48,49],[])),(8,([54],[])),(9,([53,55],[]))]),(13,[(0,([5],[])),(1,([58],[])),(2,([6],[])),(3,([0],[])),(4,([6],[])),(5,([62],[])),(6,([61,63],[1])),(7,([59,60],[])),(8,([65],[])),(9,([64,66],[]))]),(15,[(0,([5],[])),(1,([69],[])),(2,([6],[])),(3,([0],[])),(4,([5],[])),(5,([73],[])),(6,([74],[])),(7,([72,75],[1])),(8,([70,71],[])),(9,([77],[])),(10,([76,78],[]))]),(23,[(0,([5],[])),(1,([99],[])),(2,([6],[])),(3,([5],[])),(4,([102],[])),(5,([6],[])),(6,([104],[])),(7,([103,105],[])),(8,([106],[])),(9,([100,101],[])),(10,([107,108],[]))]),(26,[(0,([5],[])),(1,([117],[])),(2,([6],[])),(3,([0],[])),(4,([120],[1])),(5,([121],[])),(6,([118,119],[])),(7,([122,123],[]))])] (.seq .u (.seq .u (.seq .u (.seq .u (.seq (.seq .u (.block (.seq .u (.cut ⟨[(4,.c (.pb 1 7 0)),(5,.c (.pb 2 7 0))],[.box (.agg [.rows true .u8,.int .i64]),.box (.agg [.int .i64,.int .i64,.nil,.int .i64,.int .i64,.int .i64,.int .i64]),.box (.agg [.int .i64,.int .i64,.own 3,.int .i64,.int .i64,.int .i64,.int .i64]),.rows true .iop]⟩ (.cond .u (.seq .u (.cut ⟨[(4,.c (.pb 1 7 0)),(5,.c (.pb 2 7 0))],[.box (.agg [.rows true .u8,.int .i64]),.box (.agg [.int .i64,.int .i64,.nil,.int .i64,.int .i64,.int .i64,.int .i64]),.box (.agg [.int .i64,.int .i64,.own 3,.int .i64,.int .i64,.int .i64,.int .i64]),.rows true .iop]⟩ (.cond .u (.seq .u (.cut ⟨[(4,.c (.pb 1 7 0)),(5,.c (.pb 2 7 0))],[.box (.agg [.rows true .u8,.int .i64]),.box (.agg [.int .i64,.int .i64,.nil,.int .i64,.int .i64,.int .i64,.int .i64]),.box (.agg [.int .i64,.int .i64,.own 3,.int .i64,.int .i64,.int .i64,.int .i64]),.rows true .iop]⟩ (.cond .u (.seq .u (.cut ⟨[(4,.c (.pb 1 7 0)),(5,.c (.pb 2 7 0))],[.box (.agg [.rows true .u8,.int .i64]),.box (.agg [.int .i64,.int .i64,.nil,.int .i64,.int .i64,.int .i64,.int .i64]),.box (.agg [.int .i64,.int .i64,.own 3,.int .i64,.int .i64,.int .i64,.int .i64]),.rows true .iop]⟩ (.cond .u (.seq .u (.cut ⟨[(4,.c (.pb 1 7 0)),(5,.c (.pb 2 7 0))],[.box (.agg [.rows true .u8,.int .i64]),.box (.agg [.int .i64,.int .i64,.nil,.int .i64,.int .i64,.int .i64,.int .i64]),.box (.agg [.int .i64,.int .i64,.own 3,.int .i64,.int .i64,.int .i64,.int .i64]),.rows true .iop]⟩ (.cond .u (.seq .u (.cut ⟨[(4,.c (.pb 1 7 0)),(5,.c (.pb 2 7 0))],[.box (.agg [.rows true .u8,.int .i64]),.box (.agg [.int .i64,.int .i64,.nil,.int .i64,.int .i64,.int .i64,.int .i64]),.box (.agg [.int .i64,.int .i64,.own 3,.int .i64,.int .i64,.int .i64,.int .i64]),.rows true .iop]⟩ (.cond .u (.seq .u (.cut ⟨[(4,.c (.pb 1 7 0)),(5,.c (.pb 2 7 0))],[.box (.agg [.rows true .u8,.int .i64]),.box (.agg [.int .i64,.int .i64,.nil,.int .i64,.int .i64,.int .i64,.int .i64]),.box (.agg [.int .i64,.int .i64,.own 3,.int .i64,.int .i64,.int .i64,.int .i64]),.rows true .iop]⟩ (.cond (.seq .u (.cut ⟨[(4,.c (.pb 1 7 0)),(5,.c (.pb 2 7 0))],[.box (.agg [.rows true .u8,.int .i64]),.box (.agg [.int .i64,.int .i64,.nil,.int .i64,.int .i64,.int .i64,.int .i64]),.box (.agg [.int .i64,.int .i64,.own 3,.int .i64,.int .i64,.int .i64,.int .i64]),.rows true .iop]⟩ (.cond .u .u))) (.seq .u (.cut ⟨[(4,.c (.pb 1 7 0)),(5,.c (.pb 2 7 0))],[.box (.agg [.rows true .u8,.int .i64]),.box (.agg [.int .i64,.int .i64,.nil,.int .i64,.int .i64,.int .i64,.int .i64]),.box (.agg [.int .i64,.int .i64,.own 3,.int .i64,.int .i64,.int .i64,.int .i64]),.rows true .iop]⟩ (.cond .u .u)))))))))))))))))))))))))) .u))))) mM Tryz.f112 [(78,⟨_,aR⟩),(59,⟨_,gK⟩)] (Km A aR.pre aR.fn gK.pre gK.fn):=fun _=>by kernel_rfl
theorem ag5 (A:Alg) (pz:Ct A.ah tO) (aR:Ct A.ah bO) (jh:Ct A.ah mM) (pE:Ct A.ah uj): @Ru aF.z X E A [(15,[(0,([5],[])),(1,([54],[])),(2,([],[])),(3,([0],[])),(7,([5],[])),(8,([61],[])),(9,([62],[])),(4,([57],[1,8])),(5,([56,58],[])),(6,([59],[])),(10,([60,63],[])),(11,([64],[])),(12,([55,65],[])),(13,([5],[])),(14,([66,67],[]))])] (.seq .u (.seq .u (.seq (.seq .u (.cut ⟨[(4,.c (.pb 1 7 0)),(5,.c (.pb 2 7 0))],[.box (.agg [.rows true .u8,.int .i64]),.box (.agg [.int .i64,.int .i64,.nil,.int .i64,.int .i64,.int .i64,.int .i64]),.box (.agg [.int .i64,.int .i64,.own 3,.int .i64,.int .i64,.int .i64,.int .i64]),.rows true .iop]⟩ (.cond (.seq .u (.block (.seq .u (.cut ⟨[(4,.c (.pb 1 7 0)),(5,.c (.pb 2 7 0))],[.box (.agg [.rows true .u8,.int .i64]),.box (.agg [.int .i64,.int .i64,.nil,.int .i64,.int .i64,.int .i64,.int .i64]),.box (.agg [.int .i64,.int .i64,.own 3,.int .i64,.int .i64,.int .i64,.int .i64]),.rows true .iop]⟩ (.cond .u (.seq .u (.cut ⟨[(4,.c (.pb 1 7 0)),(5,.c (.pb 2 7 0))],[.box (.agg [.rows true .u8,.int .i64]),.box (.agg [.int .i64,.int .i64,.nil,.int .i64,.int .i64,.int .i64,.int .i64]),.box (.agg [.int .i64,.int .i64,.own 3,.int .i64,.int .i64,.int .i64,.int .i64]),.rows true .iop]⟩ (.cond .u (.seq .u (.cut ⟨[(4,.c (.pb 1 7 0)),(5,.c (.pb 2 7 0))],[.box (.agg [.rows true .u8,.int .i64]),.box (.agg [.int .i64,.int .i64,.nil,.int .i64,.int .i64,.int .i64,.int .i64]),.box (.agg [.int .i64,.int .i64,.own 3,.int .i64,.int .i64,.int .i64,.int .i64]),.rows true .iop]⟩ (.cond (.block (.loop ⟨[(4,.c (.pb 1 7 0)),(5,.c (.pb 2 7 0))],[.box (.agg [.rows true .u8,.int .i64]),.box (.agg [.int .i64,.int .i64,.nil,.int .i64,.int .i64,.int .i64,.int .i64]),.box (.agg [.int .i64,.int .i64,.own 3,.int .i64,.int .i64,.int .i64,.int .i64]),.rows true .iop]⟩ .u)) (.seq .u (.cut ⟨[(4,.c (.pb 1 7 0)),(5,.c (.pb 2 7 0))],[.box (.agg [.rows true .u8,.int .i64]),.box (.agg [.int .i64,.int .i64,.nil,.int .i64,.int .i64,.int .i64,.int .i64]),.box (.agg [.int .i64,.int .i64,.own 3,.int .i64,.int .i64,.int .i64,.int .i64]),.rows true .iop]⟩ (.cond .u .u)))))))))))))) .u))) .u))) EC Tryz.f55 [(91,⟨_,pz⟩),(78,⟨_,aR⟩),(112,⟨_,jh⟩),(111,⟨_,pE⟩)] (QZ A pz.pre pz.fn aR.pre aR.fn jh.pre jh.fn pE.pre pE.fn):=fun _=>by kernel_rfl
theorem ag6 (A:Alg): @Ru aF.z X E A [] (.seq .u (.seq (.seq .u (.cut ⟨[(0,.c (.rows true .u8))],[]⟩ (.cond .u .u))) .u)) ED Tryz.f56 [] (Q6 A):=fun _=>by kernel_rfl
theorem am8 (A:Alg): @Ru aF.z X E A [] .u bY Tryz.f73 [] (XJ A):=fun _=>by kernel_rfl
theorem am9 (A:Alg) (aX:Ct A.ah bY): @Ru aF.z X E A [] .u jr Tryz.f64 [(73,⟨_,aX⟩)] (XK A aX.pre aX.fn):=fun _=>by kernel_rfl
theorem ana (A:Alg) (aX:Ct A.ah bY): @Ru aF.z X E A [] .u Bd Tryz.f113 [(73,⟨_,aX⟩)] (XL A aX.pre aX.fn):=fun _=>by kernel_rfl
theorem anb (A:Alg) (aX:Ct A.ah bY): @Ru aF.z X E A [] .u Bf Tryz.f136 [(73,⟨_,aX⟩)] (XM A aX.pre aX.fn):=fun _=>by kernel_rfl
theorem ane (A:Alg) (aX:Ct A.ah bY): @Ru aF.z X E A [] .u Bg Tryz.f137 [(73,⟨_,aX⟩)] (XO A aX.pre aX.fn):=fun _=>by kernel_rfl
theorem anf (A:Alg) (aX:Ct A.ah bY): @Ru aF.z X E A [] .u MI Tryz.f171 [(73,⟨_,aX⟩)] (XP A aX.pre aX.fn):=fun _=>by kernel_rfl
theorem ang (A:Alg) (NA:Ct A.ah MI) (aX:Ct A.ah bY): @Ru aF.z X E A [] .u Bh Tryz.f138 [(171,⟨_,NA⟩),(73,⟨_,aX⟩)] (XQ A NA.pre NA.fn aX.pre aX.fn):=fun _=>by kernel_rfl
theorem anh (A:Alg) (wD:Ct A.ah Bh) (wE:Ct A.ah Bd) (fO:Ct A.ah jr) (aX:Ct A.ah bY) (wF:Ct A.ah Bg) (wG:Ct A.ah Bf): @Ru ⟨[],[27,40]⟩ X E A [(5,[(0,([],[])),(1,([5],[])),(2,([28],[])),(5,([5],[])),(6,([31],[])),(9,([5],[])),(10,([34],[])),(13,([5],[])),(14,([37],[])),(18,([5],[])),(19,([41],[])),(3,([29],[6,10,14,19])),(4,([27,30],[])),(7,([32],[10,14,19])),(8,([27,33],[])),(11,([35],[14,19])),(12,([27,36],[])),(15,([38],[19])),(16,([27,39],[])),(17,([27],[])),(20,([30,33,36,39,40,42],[])),(21,([43],[]))])] .u MJ Tryz.f74 [(138,⟨_,wD⟩),(113,⟨_,wE⟩),(64,⟨_,fO⟩),(73,⟨_,aX⟩),(137,⟨_,wF⟩),(136,⟨_,wG⟩)] (XR A wD.pre wD.fn wE.pre wE.fn fO.pre fO.fn aX.pre aX.fn wF.pre wF.fn wG.pre wG.fn):=fun _=>by kernel_rfl
theorem ani (A:Alg): @Ru aF.z X E A [(1,[(0,([1],[])),(1,([5],[])),(2,([6],[])),(3,([1],[])),(4,([8],[])),(5,([9],[])),(6,([1],[])),(7,([11],[])),(8,([12],[])),(9,([7],[])),(10,([10],[])),(11,([13],[]))])] .u Bj Tryz.f114 [] (XZ A):=fun _=>by kernel_rfl
theorem anj (A:Alg) (wH:Ct A.ah Bj) (wD:Ct A.ah Bh) (fO:Ct A.ah jr) (aX:Ct A.ah bY): @Ru aF.z X E A [] .u MK Tryz.f75 [(114,⟨_,wH⟩),(138,⟨_,wD⟩),(64,⟨_,fO⟩),(73,⟨_,aX⟩)] (X0 A wH.pre wH.fn wD.pre wD.fn fO.pre fO.fn aX.pre aX.fn):=fun _=>by kernel_rfl
theorem ank (A:Alg) (NC:Ct A.ah MK) (ND:Ct A.ah MJ) (aX:Ct A.ah bY): @Ru aF.z X E A [] (.seq .u (.seq .u (.seq (.seq .u (.block (.loop ⟨[(1,.c (.pb 0 7 0)),(25,.c (.int .i64)),(26,.c (.int .i64))],[.box (.sv false .blk)]⟩ .u))) .u))) Bn Tryz.f26 [(75,⟨_,NC⟩),(74,⟨_,ND⟩),(73,⟨_,aX⟩)] (X5 A NC.pre NC.fn ND.pre ND.fn aX.pre aX.fn):=fun _=>by kernel_rfl
theorem anl (A:Alg): @Ru aF.z X E A [(6,[(0,([2],[])),(1,([62],[])),(2,([5],[])),(3,([63,64],[])),(4,([65],[])),(5,([3],[])),(6,([67],[])),(7,([5],[])),(8,([68,69],[])),(9,([70],[])),(10,([66,71],[]))])] (.seq .u (.seq .u (.seq (.seq .u (.block (.loop ⟨[(2,.c (.pb 0 7 0)),(3,.c (.pb 1 7 0)),(5,.c (.int .i64))],[.box (.sv false .blk),.box (.sv false .blk)]⟩ .u))) .u))) ML Tryz.f17 [] (X6 A):=fun _=>by kernel_rfl
end Go.TX.Seat
