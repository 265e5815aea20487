/- Part 4 of a proof: what the last part needs. No condition. -/
import Derived.Test.YtkecklmejhogoaaGreatZc
import Derived.Test.YtkecklmejhogoaaGreatProg
import Derived.KernelRfl
set_option linter.all false
set_option linter.unusedSectionVars false
set_option linter.unusedVariables false
set_option linter.unusedSimpArgs false
namespace Go.TX.F
open Go Go.AE Go.TX
set_option maxRecDepth 100000
@[reducible] def fE : Sig := ⟨[.c (.pb 0 2 0), .c (.int .i64)], [.box (.agg [.rows true .u8, .int .i64])], [.c (.int .i64)], [.box (.agg [.rows true .u8, .int .i64])]⟩
@[reducible] def Ea : Sig := ⟨[.c (.pb 0 2 0), .c (.int .i64)], [.box (.agg [.rows true .u8, .int .i64])], [.c .bool], [.box (.agg [.rows true .u8, .int .i64])]⟩
@[reducible] def fF : Sig := ⟨[.c (.int .i64), .c (.int .i64), .c (.int .i64)], [], [.c .bool], []⟩
@[reducible] def mQ : Sig := ⟨[.c (.int .i64)], [], [.c .bool], []⟩
@[reducible] def Eb : Sig := ⟨[.c (.int .i64)], [], [.c .bool], []⟩
@[reducible] def tY : Sig := ⟨[.c (.rows false .iop), .c (.int .i64), .c (.int .i64)], [], [.c .bool], []⟩
@[reducible] def Ec : Sig := ⟨[.c (.rows false .iop), .c (.int .i64), .c (.int .i64)], [], [.c .bool], []⟩
@[reducible] def Ed : Sig := ⟨[.sv false .blk], [], [.c .bool], []⟩
@[reducible] def gI : Sig := ⟨[.sv false .blk], [], [.c .bool], []⟩
@[reducible] def mR : Sig := ⟨[.sv false .blk], [], [.agg [.int .i64, .int .i64, .own 0, .int .i64, .int .i64, .int .i64, .int .i64]], [.rows true .iop]⟩
@[reducible] def tZ : Sig := ⟨[.sv false .iop, .c (.rows false .i64)], [], [.sv true .iop], []⟩
@[reducible] def uf : Sig := ⟨[.sv false .blk], [], [.agg [.int .i64, .int .i64, .own 0, .int .i64, .int .i64, .int .i64, .int .i64]], [.rows true .iop]⟩
@[reducible] def ug : Sig := ⟨[.sv false .blk, .c (.rows false .bool)], [], [.agg [.int .i64, .int .i64, .own 0, .int .i64, .int .i64, .int .i64, .int .i64]], [.rows true .iop]⟩
@[reducible] def Ee : Sig := ⟨[.sv false .blk], [], [.c (.own 0)], [.rows true .bool]⟩
@[reducible] def Ef : Sig := ⟨[.sv false .blk], [], [.agg [.int .i64, .int .i64, .own 0, .int .i64, .int .i64, .int .i64, .int .i64]], [.rows true .iop]⟩
@[reducible] def Eh : Sig := ⟨[.c (.rows false .iop), .c (.int .i64)], [], [.c .bool], []⟩
@[reducible] def Ei : Sig := ⟨[.sv false .blk], [], [.agg [.int .i64, .int .i64, .own 0, .int .i64, .int .i64, .int .i64, .int .i64]], [.rows true .iop]⟩
@[reducible] def uh : Sig := ⟨[.c (.rows false .iop), .c (.int .i64)], [], [.c (.int .i64), .c .bool], []⟩
@[reducible] def Ej : Sig := ⟨[.c (.int .i64)], [], [.c (.int .i64)], []⟩
@[reducible] def El : Sig := ⟨[.c (.int .i64), .c (.int .i64), .c (.int .i64)], [], [.c (.int .i64)], []⟩
@[reducible] def Em : Sig := ⟨[.sv false .blk, .c (.int .i64)], [], [.agg [.int .i64, .int .i64, .rows false .iop, .int .i64, .int .i64, .int .i64, .int .i64]], []⟩
@[reducible] def En : Sig := ⟨[.sv false .blk], [], [.sv false .blk], []⟩
@[reducible] def Eo : Sig := ⟨[.sv false .blk], [], [.sv false .blk], []⟩
@[reducible] def Ep : Sig := ⟨[.sv false .blk], [], [.agg [.int .i64, .int .i64, .own 0, .int .i64, .int .i64, .int .i64, .int .i64]], [.rows true .iop]⟩
@[reducible] def Er : Sig := ⟨[.c (.pb 0 2 0)], [.box (.agg [.rows true .u8, .int .i64])], [.agg [.int .i64, .int .i64, .int .i64, .int .i64]], [.box (.agg [.rows true .u8, .int .i64])]⟩
@[reducible] def Es : Sig := ⟨[.sv false .ins], [], [.c .bool], []⟩
@[reducible] def uj : Sig := ⟨[.sv false .ins], [], [.c .bool], []⟩
@[reducible] def um : Sig := ⟨[.c (.int .i64)], [], [.c .bool], []⟩
@[reducible] def uo : Sig := ⟨[.sv false .ins], [], [.c .bool], []⟩
@[reducible] def Eu : Sig := ⟨[.c (.pb 0 2 0)], [.box (.agg [.rows true .u8, .int .i64])], [.agg [.int .i64, .int .i64, .int .i64, .int .i64]], [.box (.agg [.rows true .u8, .int .i64])]⟩
@[reducible] def Ew : Sig := ⟨[.c (.pb 0 2 0)], [.box (.agg [.rows true .u8, .int .i64])], [.c (.own 1)], [.box (.agg [.rows true .u8, .int .i64]), .rows true .ins]⟩
@[reducible] def Ey : Sig := ⟨[.c (.int .i64), .c (.rows false .ins)], [], [.c .bool], []⟩
@[reducible] def iF : Sig := ⟨[.agg [.int .i64, .int .i64, .own 0, .int .i64, .int .i64, .int .i64, .int .i64], .sv false .iop], [.rows true .iop], [.agg [.int .i64, .int .i64, .own 1, .int .i64, .int .i64, .int .i64, .int .i64], .c (.int .i64)], [.gone, .rows true .iop]⟩
@[reducible] def uw : Sig := ⟨[.agg [.int .i64, .int .i64, .own 0, .int .i64, .int .i64, .int .i64, .int .i64], .c (.int .i64), .c (.int .i64)], [.rows true .iop], [.agg [.int .i64, .int .i64, .own 1, .int .i64, .int .i64, .int .i64, .int .i64]], [.gone, .rows true .iop]⟩
@[reducible] def jK : Sig := ⟨[.agg [.int .i64, .int .i64, .own 0, .int .i64, .int .i64, .int .i64, .int .i64], .c (.int .i64)], [.rows true .iop], [.agg [.int .i64, .int .i64, .own 1, .int .i64, .int .i64, .int .i64, .int .i64], .c (.int .i64)], [.gone, .rows true .iop]⟩
@[reducible] def uz : Sig := ⟨[.agg [.int .i64, .int .i64, .own 0, .int .i64, .int .i64, .int .i64, .int .i64], .c (.int .i64), .c (.int .i64), .sv false .iop], [.rows true .iop], [.agg [.int .i64, .int .i64, .own 1, .int .i64, .int .i64, .int .i64, .int .i64], .c (.int .i64)], [.gone, .rows true .iop]⟩
@[reducible] def Ez : Sig := ⟨[.c (.int .i64)], [], [.c (.int .i64)], []⟩
@[reducible] def EA : Sig := ⟨[.agg [.int .i64, .int .i64, .own 0, .int .i64, .int .i64, .int .i64, .int .i64], .sv false .ins, .c (.int .i64)], [.rows true .iop], [.agg [.int .i64, .int .i64, .own 1, .int .i64, .int .i64, .int .i64, .int .i64]], [.gone, .rows true .iop]⟩
@[reducible] def EB : Sig := ⟨[.agg [.int .i64, .int .i64, .own 0, .int .i64, .int .i64, .int .i64, .int .i64], .sv false .ins], [.rows true .iop], [.agg [.int .i64, .int .i64, .own 1, .int .i64, .int .i64, .int .i64, .int .i64]], [.gone, .rows true .iop]⟩
@[reducible] def EC : Sig := ⟨[.agg [.int .i64, .int .i64, .own 0, .int .i64, .int .i64, .int .i64, .int .i64], .sv false .ins, .c (.int .i64)], [.rows true .iop], [.agg [.int .i64, .int .i64, .own 1, .int .i64, .int .i64, .int .i64, .int .i64]], [.gone, .rows true .iop]⟩
@[reducible] def ED : Sig := ⟨[.c (.int .i64), .c (.rows false .ins)], [], [.agg [.int .i64, .int .i64, .own 0, .int .i64, .int .i64, .int .i64, .int .i64]], [.rows true .iop]⟩
@[reducible] def EF : Sig := ⟨[.c (.pb 0 2 0)], [.box (.agg [.rows true .u8, .int .i64])], [.agg [.int .i64, .int .i64, .own 1, .int .i64, .int .i64, .int .i64, .int .i64]], [.box (.agg [.rows true .u8, .int .i64]), .rows true .iop]⟩
@[reducible] def EG : Sig := ⟨[.c (.pb 0 2 0), .sv false .blk], [.box (.agg [.rows true .u8, .int .i64])], [.agg [.int .i64, .int .i64, .own 1, .int .i64, .int .i64, .int .i64, .int .i64]], [.box (.agg [.rows true .u8, .int .i64]), .rows true .iop]⟩
@[reducible] def EH : Sig := ⟨[.c (.pb 0 2 0), .c (.int .i64)], [.box (.agg [.rows true .u8, .int .i64])], [.sv true .blk], [.box (.agg [.rows true .u8, .int .i64])]⟩
@[reducible] def EI : Sig := ⟨[.c (.rows true .u8)], [], [.c (.pb 0 2 0)], [.box (.agg [.rows true .u8, .int .i64])]⟩
@[reducible] def bZ : Sig := ⟨[.c (.int .i64), .c (.int .i64), .c (.int .i64)], [], [.c .bool], []⟩
@[reducible] def jo : Sig := ⟨[.c (.int .i64)], [], [.c .bool], []⟩
@[reducible] def nX : Sig := ⟨[.sv false .iop], [], [.c .bool, .c .bool, .c .bool, .c .bool], []⟩
@[reducible] def Bh : Sig := ⟨[.c (.int .i64)], [], [.c .bool], []⟩
@[reducible] def Bj : Sig := ⟨[.c (.int .i64)], [], [.c .bool], []⟩
@[reducible] def MF : Sig := ⟨[.sv false .iop], [], [.c .bool], []⟩
@[reducible] def Bn : Sig := ⟨[.sv false .blk, .c (.int .i64), .c (.int .i64)], [], [.c .bool], []⟩
@[reducible] def MG : Sig := ⟨[.sv false .blk, .c (.int .i64)], [], [.c .bool], []⟩
@[reducible] def nY : Sig := ⟨[.sv false .blk], [], [.c .bool, .c .bool, .c .bool], []⟩
@[reducible] def MH : Sig := ⟨[.sv false .blk], [], [.c .bool], []⟩
@[reducible] def jq : Sig := ⟨[.sv false .blk], [], [.c .bool], []⟩
@[reducible] def Bo : Sig := ⟨[.sv false .blk], [], [.agg [.int .i64, .int .i64, .own 0, .int .i64, .int .i64, .int .i64, .int .i64]], [.rows true .iop]⟩
@[reducible] def Bp : Sig := ⟨[.c (.pb 0 7 0), .c (.rows false .i64)], [.box (.agg [.int .i64, .int .i64, .own 1, .int .i64, .int .i64, .int .i64, .int .i64]), .rows true .iop], [], [.box (.agg [.int .i64, .int .i64, .own 1, .int .i64, .int .i64, .int .i64, .int .i64]), .rows true .iop]⟩
@[reducible] def MI : Sig := ⟨[.sv false .blk], [], [.sv false .blk], []⟩
@[reducible] def MJ : Sig := ⟨[], [], [.c .bool], []⟩
@[reducible] def MK : Sig := ⟨[.sv false .blk], [], [.c (.own 0)], [.rows true .bool]⟩
@[reducible] def EJ : Sig := ⟨[.c (.rows false .iop), .c (.rows false .iop)], [], [.c .bool], []⟩
@[reducible] def ML : Sig := ⟨[.sv false .blk, .sv false .blk], [], [.c .bool], []⟩
@[reducible] def MN : Sig := ⟨[.c (.int .i64), .c (.pb 0 1 0)], [.box (.c (.int .i64))], [.c .bool], [.box (.c (.int .i64))]⟩
@[reducible] def EK : Sig := ⟨[.c (.rows false .i64), .c (.fn 252 [(0, 1)])], [.box (.c (.int .i64))], [.c (.int .i64)], [.box (.c (.int .i64))]⟩
@[reducible] def EL : Sig := ⟨[.c (.rows false .i64), .c (.fn 252 [(0, 1)])], [.box (.c (.int .i64))], [.c .bool], [.box (.c (.int .i64))]⟩
@[reducible] def Bq : Sig := ⟨[.sv false .poly, .c (.int .i64)], [], [.c .bool], []⟩
@[reducible] def MO : Sig := ⟨[.c (.int .i64)], [], [.c .bool], []⟩
@[reducible] def EM : Sig := ⟨[.c (.int .i64), .c (.int .i64)], [], [.c (.int .i64)], []⟩
@[reducible] def MQ : Sig := ⟨[.c (.rows false .i64)], [], [.c (.int .i64)], []⟩
@[reducible] def MR : Sig := ⟨[.c (.rows false .i64), .c (.rows false .i64)], [], [.c (.int .i64)], []⟩
@[reducible] def nZ : Sig := ⟨[.c (.rows false .i64), .c (.rows false .i64)], [], [.c (.int .i64)], []⟩
@[reducible] def EN : Sig := ⟨[.c (.int .i64), .c (.int .i64)], [], [.c .bool], []⟩
@[reducible] def EO : Sig := ⟨[.c (.rows false .i64)], [], [.c .bool], []⟩
@[reducible] def MS : Sig := ⟨[.sv false .mono], [], [.c .bool], []⟩
@[reducible] def EP : Sig := ⟨[.c (.rows false .mono), .c (.fn 223 [])], [], [.c (.int .i64)], []⟩
@[reducible] def ER : Sig := ⟨[.c (.rows false .mono), .c (.fn 223 [])], [], [.c .bool], []⟩
@[reducible] def iG : Sig := ⟨[.sv false .poly], [], [.c .bool], []⟩
@[reducible] def Br : Sig := ⟨[.sv false .atom, .c (.int .i64)], [], [.c .bool], []⟩
@[reducible] def uD : Sig := ⟨[.sv false .poly, .sv false .poly], [], [.c (.int .i64)], []⟩
@[reducible] def jr : Sig := ⟨[.sv false .poly, .sv false .poly], [], [.c .bool], []⟩
@[reducible] def MU : Sig := ⟨[.sv false .atom, .sv false .atom], [], [.c .bool], []⟩
@[reducible] def MV : Sig := ⟨[.sv false .atom, .c (.pb 0 4 0)], [.box (.sv false .atom)], [.c .bool], [.box (.sv false .atom)]⟩
@[reducible] def ET : Sig := ⟨[.c (.rows false .atom), .c (.fn 212 [(0, 4)])], [.box (.sv false .atom)], [.c (.int .i64)], [.box (.sv false .atom)]⟩
@[reducible] def Bu : Sig := ⟨[.sv false .tab, .sv false .atom], [], [.c (.int .i64)], []⟩
@[reducible] def MW : Sig := ⟨[.c (.rows true .atom)], [], [.c (.clip true .atom)], []⟩
@[reducible] def Bv : Sig := ⟨[.sv true .tab, .sv true .atom], [], [.sv true .tab, .c (.int .i64)], []⟩
@[reducible] def Bw : Sig := ⟨[.c (.int .i64)], [], [.agg [.own 0]], [.rows true .mono]⟩
@[reducible] def Bz : Sig := ⟨[.c (.pb 0 2 0), .c (.int .i64), .c (.int .i64)], [.box (.agg [.rows true .atom, .bool])], [.sv true .poly], [.box (.agg [.rows true .atom, .bool])]⟩
@[reducible] def BA : Sig := ⟨[.c (.pb 0 2 0)], [.box (.agg [.rows true .atom, .bool])], [.c (.own 1)], [.box (.agg [.rows true .atom, .bool]), .rows true .poly]⟩
@[reducible] def BD : Sig := ⟨[.c (.rows false .i64)], [], [.c (.own 0)], [.rows true .i64]⟩
@[reducible] def uE : Sig := ⟨[.sv false .poly], [], [.agg [.own 0]], [.rows true .mono]⟩
@[reducible] def BF : Sig := ⟨[.sv false .tab], [], [.agg [.own 0]], [.rows true .atom]⟩
@[reducible] def MX : Sig := ⟨[], [], [.sv true .tab, .c (.rows true .poly)], []⟩
@[reducible] def MZ : Sig := ⟨[.sv false .iop], [], [.c .bool], []⟩
@[reducible] def M0 : Sig := ⟨[.sv false .tab], [], [.c .bool], []⟩
@[reducible] def M4 : Sig := ⟨[.c (.own 0)], [.rows true .poly], [.c (.own 1)], [.rows true .poly, .rows true .poly]⟩
@[reducible] def uF : Sig := ⟨[.c (.int .i64)], [], [.agg [.own 0]], [.rows true .mono]⟩
@[reducible] def uG : Sig := ⟨[.c (.int .i64)], [], [.c (.int .i64)], []⟩
@[reducible] def BG : Sig := ⟨[.c (.int .i64), .c (.int .i64), .c (.int .i64)], [], [.c (.int .i64)], []⟩
@[reducible] def BH : Sig := ⟨[.sv false .poly], [], [.c (.int .i64), .c .bool], []⟩
@[reducible] def BI : Sig := ⟨[.sv false .mono, .sv false .mono], [], [.c (.int .i64)], []⟩
@[reducible] def EU : Sig := ⟨[.c (.own 0), .c (.int .i64), .c (.int .i64), .c (.fn 277 [])], [.rows false .mono], [], [.rows false .mono]⟩
@[reducible] def EW : Sig := ⟨[.c (.own 0), .c (.int .i64), .c (.int .i64), .c (.int .i64), .c (.fn 277 [])], [.rows false .mono], [], [.rows false .mono]⟩
@[reducible] def EX : Sig := ⟨[.c (.own 0), .c (.int .i64), .c (.int .i64), .c (.int .i64), .c (.fn 277 [])], [.rows false .mono], [], [.rows false .mono]⟩
@[reducible] def mU : Sig := ⟨[.c (.own 0), .c (.int .i64), .c (.int .i64), .c (.int .i64), .c (.fn 277 [])], [.rows false .mono], [], [.rows false .mono]⟩
@[reducible] def EY : Sig := ⟨[.c (.own 0), .c (.int .i64), .c (.fn 277 [])], [.rows false .mono], [], [.rows false .mono]⟩
@[reducible] def EZ : Sig := ⟨[.c (.own 0), .c (.fn 277 [])], [.rows false .mono], [], [.rows false .mono]⟩
@[reducible] def BJ : Sig := ⟨[.c (.own 0)], [.rows false .mono], [.agg [.own 1], .c .bool], [.rows false .mono, .rows true .mono]⟩
@[reducible] def E5 : Sig := ⟨[.c (.nil), .c (.int .i64)], [], [.c (.own 0)], [.rows true .mono]⟩
@[reducible] def M5 : Sig := ⟨[.c (.rows false .poly)], [], [.c (.own 0)], [.rows false .mono]⟩
@[reducible] def M6 : Sig := ⟨[.sv false .poly, .sv false .poly], [], [.agg [.own 0], .c .bool], [.rows true .mono]⟩
@[reducible] def E8 : Sig := ⟨[.c (.nil), .c (.int .i64)], [], [.c (.own 0)], [.rows true .i64]⟩
@[reducible] def E9 : Sig := ⟨[.c (.rows false .ints)], [], [.c (.own 0)], [.rows true .i64]⟩
@[reducible] def Fa : Sig := ⟨[.c (.own 0), .c (.int .i64), .c (.int .i64)], [.rows true .i64], [], [.rows true .i64]⟩
@[reducible] def Fb : Sig := ⟨[.c (.own 0), .c (.int .i64), .c (.int .i64)], [.rows true .i64], [], [.rows true .i64]⟩
@[reducible] def Fe : Sig := ⟨[.c (.own 0), .c (.int .i64), .c (.int .i64)], [.rows true .i64], [], [.rows true .i64]⟩
@[reducible] def Fg : Sig := ⟨[.c (.own 0), .c (.int .i64), .c (.int .i64)], [.rows true .i64], [.c (.int .i64), .c (.int .i64)], [.rows true .i64]⟩
@[reducible] def Fh : Sig := ⟨[.c (.own 0), .c (.int .i64), .c (.int .i64)], [.rows true .i64], [], [.rows true .i64]⟩
@[reducible] def Fj : Sig := ⟨[.c (.own 0), .c (.int .i64), .c (.int .i64)], [.rows true .i64], [.c .bool], [.rows true .i64]⟩
@[reducible] def Fp : Sig := ⟨[.c (.own 0), .c (.int .i64), .c (.int .i64), .c (.int .i64)], [.rows true .i64], [.c (.int .i64)], [.rows true .i64]⟩
@[reducible] def Fq : Sig := ⟨[.c (.own 0), .c (.int .i64), .c (.int .i64), .c (.int .i64)], [.rows true .i64], [.c (.int .i64), .c .bool], [.rows true .i64]⟩
@[reducible] def oO : Sig := ⟨[.c (.own 0), .c (.int .i64), .c (.int .i64), .c (.int .i64)], [.rows true .i64], [], [.rows true .i64]⟩
@[reducible] def Uu : Sig := ⟨[.c (.int .u64)], [], [.c (.int .i64)], []⟩
@[reducible] def Fu : Sig := ⟨[.c (.own 0)], [.rows true .i64], [], [.rows true .i64]⟩
@[reducible] def BK : Sig := ⟨[.sv false .poly, .sv false .poly], [], [.agg [.own 0], .c .bool], [.rows true .mono]⟩
@[reducible] def M7 : Sig := ⟨[.sv false .poly, .c (.int .i64)], [], [.agg [.own 0]], [.rows true .mono]⟩
@[reducible] def M8 : Sig := ⟨[.c (.int .i64), .sv true .poly, .sv true .poly], [], [.sv true .poly, .c .bool], []⟩
@[reducible] def M9 : Sig := ⟨[.sv true .tab, .c (.int .i64), .sv true .poly, .sv true .poly], [], [.sv true .tab, .sv true .poly, .c .bool], []⟩
@[reducible] def BL : Sig := ⟨[.c (.int .i64), .c (.int .i64), .c (.int .i64)], [], [.c .bool], []⟩
@[reducible] def Na : Sig := ⟨[.c (.rows false .poly)], [], [.c (.own 0)], [.rows true .poly]⟩
@[reducible] def Nb : Sig := ⟨[.sv false .sym], [], [.agg [.own 0, .own 1, .int .i64, .own 2, .own 3, .int .i64]], [.rows true .ev, .rows true .poly, .rows true .mono, .rows true .mono]⟩
@[reducible] def Nc : Sig := ⟨[.sv false .sym, .c (.int .i64)], [], [.sv true .sym], []⟩
@[reducible] def Ng : Sig := ⟨[.sv true .tab, .sv false .blk], [], [.sv true .tab, .sv true .sym], []⟩
@[reducible] def Nh : Sig := ⟨[.sv false .poly, .sv false .poly], [], [.c .bool], []⟩
@[reducible] def Fv : Sig := ⟨[.c (.rows false .poly), .c (.rows false .poly), .c (.fn 168 [])], [], [.c .bool], []⟩
@[reducible] def BM : Sig := ⟨[.c (.rows false .poly), .c (.rows false .poly)], [], [.c .bool], []⟩
@[reducible] def Ni : Sig := ⟨[.sv false .ev, .sv false .ev], [], [.c .bool], []⟩
@[reducible] def Fw : Sig := ⟨[.c (.rows false .ev), .c (.rows false .ev), .c (.fn 127 [])], [], [.c .bool], []⟩
@[reducible] def Nj : Sig := ⟨[.sv false .sym, .sv false .sym], [], [.c .bool], []⟩
@[reducible] def Nk : Sig := ⟨[.sv false .blk, .sv false .blk], [], [.c .bool], []⟩
@[reducible] def Fx : Sig := ⟨[.c (.rows true .u8)], [], [.sv true .blk], []⟩
@[reducible] def BN : Sig := ⟨[.sv false .blk, .c (.rows false .bool)], [], [.agg [.int .i64, .int .i64, .own 0, .int .i64, .int .i64, .int .i64, .int .i64]], [.rows true .iop]⟩
@[reducible] def Nl : Sig := ⟨[.sv false .blk], [], [.sv false .blk], []⟩
@[reducible] def Nn : Sig := ⟨[.sv false .blk], [], [.sv false .blk], []⟩
@[reducible] def Np : Sig := ⟨[.c (.int .i64), .c (.pb 0 7 0)], [.box (.agg [.int .i64, .int .i64, .own 1, .int .i64, .int .i64, .int .i64, .int .i64]), .rows true .iop], [.c .bool], [.box (.agg [.int .i64, .int .i64, .own 1, .int .i64, .int .i64, .int .i64, .int .i64]), .rows true .iop]⟩
@[reducible] def Nq : Sig := ⟨[.sv false .blk], [], [.sv false .blk], []⟩
@[reducible] def Nr : Sig := ⟨[.sv false .blk], [], [.sv false .blk], []⟩
@[reducible] def acJ : Sig := ⟨[.c (.rows true .u8)], [], [.c .bool], []⟩
def Qe (A:Alg) (x:Tup A.ah [.i,.l .u8,.i]):Ot A fE:=
 A.l1 .i (A.lit 0) fun x0=>
 A.l1 .i (A.arith .add .i64 x.2.2.1 (A.lit 1)) fun x1=>
 A.cond (A.ak (A.cmp .lss x.1 (A.lit 1)) (A.bl true) (A.cmp .eql (A.len .u8 x.2.1) (A.lit 0))) (A.l1 .i (A.lit 0) fun x2=>
 A.ret _ (x2.1,x.2.1,x1.1,()))<|
 A.l1 .i (A.arith .sub .i64 x1.1 (A.lit 1)) fun x2=>
 A.cond (A.cmp .lss x2.1 (A.len .u8 x.2.1)) (A.bd .u8 x.2.1 x2.1<|
 A.chk (A.cmp .neq x.1 (A.lit 0))<|
 A.l1 .i (A.arith .rem .i64 (A.conv .i64 (A.fI .u8 0 (A.get .u8 x.2.1 x2.1))) x.1) fun x3=>
 A.ret _ (x3.1,x.2.1,x1.1,()))<|
 A.chk (A.cmp .neq (A.len .u8 x.2.1) (A.lit 0))<|
 A.bd .u8 x.2.1 (A.arith .rem .i64 x2.1 (A.len .u8 x.2.1))<|
 A.chk (A.cmp .neq (A.len .u8 x.2.1) (A.lit 0))<|
 A.bd .u8 x.2.1 (A.arith .rem .i64 (A.arith .add .i64 (A.arith .mul .i64 x2.1 (A.lit 7)) (A.lit 3)) (A.len .u8 x.2.1))<|
 A.chk (A.cmp .neq (A.len .u8 x.2.1) (A.lit 0))<|
 A.l1 .i (A.arith .add .i64 (A.arith .add .i64 (A.arith .add .i64 (A.arith .mul .i64 (A.conv .i64 (A.fI .u8 0 (A.get .u8 x.2.1 (A.arith .rem .i64 x2.1 (A.len .u8 x.2.1))))) (A.lit 131)) (A.arith .mul .i64 (A.conv .i64 (A.fI .u8 0 (A.get .u8 x.2.1 (A.arith .rem .i64 (A.arith .add .i64 (A.arith .mul .i64 x2.1 (A.lit 7)) (A.lit 3)) (A.len .u8 x.2.1))))) (A.lit 1117))) (A.arith .mul .i64 x2.1 (A.lit 29))) (A.arith .mul .i64 (A.arith .quo .i64 x2.1 (A.len .u8 x.2.1)) (A.lit 53))) fun x3=>
 A.chk (A.cmp .neq (A.lit 64) (A.lit 0))<|
 A.l1 .i (A.arith .xor .i64 x3.1 (A.arith .quo .i64 x3.1 (A.lit 64))) fun x4=>
 A.chk (A.cmp .neq x.1 (A.lit 0))<|
 A.l1 .i (A.arith .rem .i64 x4.1 x.1) fun x5=>
 A.ret _ (x5.1,x.2.1,x1.1,())
def Qf (A:Alg) (aW:Pt A fE) (aX:Ft A fE) (x:Tup A.ah [.i,.l .u8,.i]):Ot A Ea:=
 A.l1 .b (A.bl false) fun x0=>
 A.cl aW aX (x.1,x.2.1,x.2.2.1,()) fun x1=>
 A.l1 .b (A.cmp .eql x1.1 (A.arith .sub .i64 x.1 (A.lit 1))) fun x2=>
 A.ret _ (x2.1,x1.2.1,x1.2.2.1,())
def Qg (A:Alg) (x:Tup A.ah [.i,.i,.i]):Ot A fF:=
 A.l1 .b (A.bl false) fun x0=>
 A.rb (A.ak (A.cmp .geq x.1 x.2.1) (A.cmp .leq x.1 x.2.2.1) (A.bl false))
def Qh (A:Alg) (x:Tup A.ah [.i]):Ot A mQ:=
 A.l1 .b (A.bl false) fun x0=>
 A.rb (A.ak (A.cmp .geq x.1 (A.lit 0)) (A.cmp .lss x.1 (A.lit 65536)) (A.bl false))
def Qi (A:Alg) (fG:Pt A fF) (fH:Ft A fF) (x:Tup A.ah [.i]):Ot A Eb:=
 A.l1 .b (A.bl false) fun x0=>
 A.cl fG fH (x.1,A.lit 1,A.lit 4,()) fun x1=>
 A.rb (A.ak x1.1 (A.bl true) (A.cmp .eql x.1 (A.lit 6)))
def Qj (A:Alg) (aez:Pt A Eb) (aeA:Ft A Eb) (x:Tup A.ah [.l .iop,.i,.i]):Ot A tY:=
 A.l1 .b (A.bl false) fun x0=>
 A.chk (A.orB (A.aA (A.ak (A.cmp .geq x.2.1 (A.lit 0)) (A.cmp .lss x.2.1 x.2.2.1) (A.bl false))) (A.cmp .leq (A.lit 0) x.2.1))<|
 A.chk (A.orB (A.aA (A.ak (A.cmp .geq x.2.1 (A.lit 0)) (A.cmp .lss x.2.1 x.2.2.1) (A.bl false))) (A.cmp .lss x.2.1 (A.len .iop x.1)))<|
 A.cg (A.ak (A.cmp .geq x.2.1 (A.lit 0)) (A.cmp .lss x.2.1 x.2.2.1) (A.bl false)) aez aeA (A.fI .iop 0 (A.get .iop x.1 x.2.1),()) fun x1=>
 A.rb (A.ak (A.ak (A.cmp .geq x.2.1 (A.lit 0)) (A.cmp .lss x.2.1 x.2.2.1) (A.bl false)) x1.1 (A.bl false))
def Qk (A:Alg) (yA:Pt A mQ) (yB:Ft A mQ) (fG:Pt A fF) (fH:Ft A fF) (oP:Pt A tY) (oQ:Ft A tY) (x:Tup A.ah [.l .iop,.i,.i]):Ot A Ec:=
 A.l1 .b (A.bl false) fun x0=>
 A.bd .iop x.1 x.2.1<|
 A.l1 (.x .iop) (A.get .iop x.1 x.2.1) fun x1=>
 A.l1 .b (A.cmp .eql (A.fI .iop 0 x1.1) (A.lit 1)) fun x2=>
 A.cond x2.1 (A.cg (A.ak (A.cmp .eql (A.fI .iop 1 x1.1) (A.lit 0)) (A.cmp .eql (A.fI .iop 2 x1.1) (A.lit 0)) (A.bl false)) yA yB (A.fI .iop 3 x1.1,()) fun x3=>
 A.rb (A.ak (A.ak (A.ak (A.cmp .eql (A.fI .iop 1 x1.1) (A.lit 0)) (A.cmp .eql (A.fI .iop 2 x1.1) (A.lit 0)) (A.bl false)) x3.1 (A.bl false)) (A.cmp .eql (A.fI .iop 4 x1.1) (A.lit 0)) (A.bl false)))<|
 A.l1 .b (A.cmp .eql (A.fI .iop 0 x1.1) (A.lit 2)) fun x3=>
 A.cond x3.1 (A.cg (A.ak (A.cmp .eql (A.fI .iop 1 x1.1) (A.lit 0)) (A.cmp .eql (A.fI .iop 2 x1.1) (A.lit 0)) (A.bl false)) fG fH (A.fI .iop 3 x1.1,A.lit 0,A.lit 3,()) fun x4=>
 A.rb (A.ak (A.ak (A.ak (A.cmp .eql (A.fI .iop 1 x1.1) (A.lit 0)) (A.cmp .eql (A.fI .iop 2 x1.1) (A.lit 0)) (A.bl false)) x4.1 (A.bl false)) (A.cmp .eql (A.fI .iop 4 x1.1) (A.lit 0)) (A.bl false)))<|
 A.l1 .b (A.cmp .eql (A.fI .iop 0 x1.1) (A.lit 3)) fun x4=>
 A.cond x4.1 (A.cl oP oQ (x.1,A.fI .iop 1 x1.1,x.2.1,()) fun x5=>
 A.cg x5.1 oP oQ (x.1,A.fI .iop 2 x1.1,x.2.1,()) fun x6=>
 A.cg (A.ak x5.1 x6.1 (A.bl false)) fG fH (A.fI .iop 3 x1.1,A.lit 1,A.lit 5,()) fun x7=>
 A.rb (A.ak (A.ak (A.ak x5.1 x6.1 (A.bl false)) x7.1 (A.bl false)) (A.cmp .eql (A.fI .iop 4 x1.1) (A.lit 0)) (A.bl false)))<|
 A.l1 .b (A.cmp .eql (A.fI .iop 0 x1.1) (A.lit 4)) fun x5=>
 A.bind [.l .iop,.i,.i,.i,.b,.x .iop] (A.cond x5.1 (A.ret _ (x.1,x.2.1,x.2.2.1,A.fI .iop 0 x1.1,x5.1,x1.1,()))<|
 A.l1 .b (A.cmp .eql (A.fI .iop 0 x1.1) (A.lit 7)) fun x6=>
 A.ret _ (x.1,x.2.1,x.2.2.1,A.fI .iop 0 x1.1,x6.1,x1.1,())) fun x6=>
 A.cond x6.q.1 (A.cl oP oQ (x6.1,A.fI .iop 1 x6.q.2.1,x6.2.1,()) fun x7=>
 A.cg (A.ak (A.ak x7.1 (A.cmp .eql (A.fI .iop 2 x6.q.2.1) (A.lit 0)) (A.bl false)) (A.cmp .eql (A.fI .iop 3 x6.q.2.1) (A.lit 0)) (A.bl false)) fG fH (A.fI .iop 4 x6.q.2.1,A.lit 0,A.arith .sub .i64 x6.2.2.1 (A.lit 1),()) fun x8=>
 A.rb (A.ak (A.ak (A.ak x7.1 (A.cmp .eql (A.fI .iop 2 x6.q.2.1) (A.lit 0)) (A.bl false)) (A.cmp .eql (A.fI .iop 3 x6.q.2.1) (A.lit 0)) (A.bl false)) x8.1 (A.bl false)))<|
 A.l1 .b (A.cmp .eql x6.2.2.2.1 (A.lit 5)) fun x7=>
 A.cond x7.1 (A.cl oP oQ (x6.1,A.fI .iop 1 x6.q.2.1,x6.2.1,()) fun x8=>
 A.cg x8.1 oP oQ (x6.1,A.fI .iop 2 x6.q.2.1,x6.2.1,()) fun x9=>
 A.cg (A.ak (A.ak x8.1 x9.1 (A.bl false)) (A.cmp .eql (A.fI .iop 3 x6.q.2.1) (A.lit 0)) (A.bl false)) fG fH (A.fI .iop 4 x6.q.2.1,A.lit 0,A.arith .sub .i64 x6.2.2.1 (A.lit 1),()) fun x10=>
 A.rb (A.ak (A.ak (A.ak x8.1 x9.1 (A.bl false)) (A.cmp .eql (A.fI .iop 3 x6.q.2.1) (A.lit 0)) (A.bl false)) x10.1 (A.bl false)))<|
 A.l1 .b (A.cmp .eql x6.2.2.2.1 (A.lit 6)) fun x8=>
 A.cond x8.1 (A.cg (A.ak (A.ak (A.cmp .eql (A.fI .iop 1 x6.q.2.1) (A.lit 0)) (A.cmp .eql (A.fI .iop 2 x6.q.2.1) (A.lit 0)) (A.bl false)) (A.cmp .eql (A.fI .iop 3 x6.q.2.1) (A.lit 0)) (A.bl false)) fG fH (A.fI .iop 4 x6.q.2.1,A.lit 0,A.arith .sub .i64 x6.2.2.1 (A.lit 1),()) fun x9=>
 A.rb (A.ak (A.ak (A.ak (A.cmp .eql (A.fI .iop 1 x6.q.2.1) (A.lit 0)) (A.cmp .eql (A.fI .iop 2 x6.q.2.1) (A.lit 0)) (A.bl false)) (A.cmp .eql (A.fI .iop 3 x6.q.2.1) (A.lit 0)) (A.bl false)) x9.1 (A.bl false)))<|
 A.l1 .b (A.cmp .eql x6.2.2.2.1 (A.lit 8)) fun x9=>
 A.cond x9.1 (A.cl oP oQ (x6.1,A.fI .iop 1 x6.q.2.1,x6.2.1,()) fun x10=>
 A.cg (A.ak x10.1 (A.cmp .eql (A.fI .iop 2 x6.q.2.1) (A.lit 0)) (A.bl false)) fG fH (A.fI .iop 3 x6.q.2.1,A.lit 0,A.lit 3,()) fun x11=>
 A.rb (A.ak (A.ak (A.ak x10.1 (A.cmp .eql (A.fI .iop 2 x6.q.2.1) (A.lit 0)) (A.bl false)) x11.1 (A.bl false)) (A.cmp .eql (A.fI .iop 4 x6.q.2.1) (A.lit 0)) (A.bl false)))<|
 A.rb (A.bl false)
def Ql (A:Alg) (yA:Pt A mQ) (yB:Ft A mQ) (oP:Pt A tY) (oQ:Ft A tY) (x:Tup A.ah [.x .blk]):Ot A Ed:=
 A.l1 .b (A.bl false) fun x0=>
 A.l1 .i (A.len .iop (A.fL .blk 2 .iop x.1)) fun x1=>
 A.l1 .b (A.cmp .eql (A.fI .blk 3 x.1) (A.lit 1)) fun x2=>
 A.cond x2.1 (A.cg (A.ak (A.cmp .eql (A.fI .blk 4 x.1) (A.lit 0)) (A.cmp .eql (A.fI .blk 5 x.1) (A.lit 0)) (A.bl false)) yA yB (A.fI .blk 6 x.1,()) fun x3=>
 A.rb (A.ak (A.ak (A.cmp .eql (A.fI .blk 4 x.1) (A.lit 0)) (A.cmp .eql (A.fI .blk 5 x.1) (A.lit 0)) (A.bl false)) x3.1 (A.bl false)))<|
 A.l1 .b (A.cmp .eql (A.fI .blk 3 x.1) (A.lit 2)) fun x3=>
 A.cond x3.1 (A.cl oP oQ (A.fL .blk 2 .iop x.1,A.fI .blk 4 x.1,x1.1,()) fun x4=>
 A.rb (A.ak (A.ak x4.1 (A.cmp .eql (A.fI .blk 5 x.1) (A.lit 0)) (A.bl false)) (A.cmp .eql (A.fI .blk 6 x.1) (A.lit 0)) (A.bl false)))<|
 A.l1 .b (A.cmp .eql (A.fI .blk 3 x.1) (A.lit 3)) fun x4=>
 A.bind [.i,.b,.x .blk] (A.cond x4.1 (A.ret _ (x1.1,x4.1,x.1,()))<|
 A.l1 .b (A.cmp .eql (A.fI .blk 3 x.1) (A.lit 4)) fun x5=>
 A.ret _ (x1.1,x5.1,x.1,())) fun x5=>
 A.cond x5.2.1 (A.cl oP oQ (A.fL .blk 2 .iop x5.2.2.1,A.fI .blk 4 x5.2.2.1,x5.1,()) fun x6=>
 A.cg x6.1 oP oQ (A.fL .blk 2 .iop x5.2.2.1,A.fI .blk 5 x5.2.2.1,x5.1,()) fun x7=>
 A.cg (A.ak x6.1 x7.1 (A.bl false)) yA yB (A.fI .blk 6 x5.2.2.1,()) fun x8=>
 A.rb (A.ak (A.ak x6.1 x7.1 (A.bl false)) x8.1 (A.bl false)))<|
 A.rb (A.bl false)
def Qm (A:Alg) (fG:Pt A fF) (fH:Ft A fF) (aeB:Pt A Ed) (aeC:Ft A Ed) (aeD:Pt A Ec) (aeE:Ft A Ec) (x:Tup A.ah [.x .blk]):Ot A gI:=
 A.l1 .b (A.bl false) fun x0=>
 A.cl fG fH (A.fI .blk 1 x.1,A.lit 1,A.lit 8,()) fun x1=>
 A.cg (A.aA (A.aA x1.1)) fG fH (A.fI .blk 0 x.1,A.lit 0,A.arith .sub .i64 (A.lit 64) (A.fI .blk 1 x.1),()) fun x2=>
 A.cond (A.ak (A.ak (A.aA x1.1) (A.bl true) (A.aA x2.1)) (A.bl true) (A.cmp .gtr (A.len .iop (A.fL .blk 2 .iop x.1)) (A.lit 48))) (A.rb (A.bl false))<|
 A.l1 .i (A.lit 0) fun x3=>
 A.iter [.i,.x .blk] (fun x4=>
 A.cond (A.cmp .lss x4.1 (A.len .iop (A.fL .blk 2 .iop x4.2.1))) (A.cl aeD aeE (A.fL .blk 2 .iop x4.2.1,x4.1,A.fI .blk 1 x4.2.1,()) fun x5=>
 A.cond (A.aA x5.1) (A.l1 .b (A.bl false) fun x6=>
 A.inr _<|A.ret _ (x6.1,()))<|
 A.l1 .i (A.arith .add .i64 x4.1 (A.lit 1)) fun x6=>
 A.inl _ (x6.1,x4.2.1,()))<|
 A.inr _<|A.cl aeB aeC (x4.2.1,()) fun x5=>
 A.rb x5.1) (x3.1,x.1,())
def Qn (A:Alg) (x:Tup A.ah [.x .blk]):Ot A mR:=
 A.l1 (.x .blk) x.1 fun x0=>
 A.l1 (.l .iop) (A.lst .iop []) fun x1=>
 A.chk (A.cmp .leq (A.addN (A.len .iop x1.1) (A.len .iop (A.fL .blk 2 .iop x.1))) (A.lit 1073741824))<|
 A.l1 (.l .iop) (A.app .iop x1.1 (A.fL .blk 2 .iop x.1)) fun x2=>
 A.ret _ (A.fI .blk 0 x0.1,A.fI .blk 1 x0.1,A.fI .blk 3 x0.1,A.fI .blk 4 x0.1,A.fI .blk 5 x0.1,A.fI .blk 6 x0.1,x2.1,())
def Qo (A:Alg) (fG:Pt A fF) (fH:Ft A fF) (x:Tup A.ah [.x .iop,.l .i64]):Ot A tZ:=
 A.l1 (.x .iop) x.1 fun x0=>
 A.cl fG fH (A.fI .iop 0 x.1,A.lit 3,A.lit 5,()) fun x1=>
 A.bind [.l .i64,.x .iop,.i,.i,.i,.i,.i,.x .iop] (A.cond (A.ak (A.ak x1.1 (A.bl true) (A.cmp .eql (A.fI .iop 0 x.1) (A.lit 7))) (A.bl true) (A.cmp .eql (A.fI .iop 0 x.1) (A.lit 8))) (A.bd .i64 x.2.1 (A.fI .iop 1 x.1)<|
 A.l1 .i (A.fI .i64 0 (A.get .i64 x.2.1 (A.fI .iop 1 x.1))) fun x2=>
 A.ret _ (x.2.1,x.1,A.lit 0,A.lit 0,A.lit 0,A.lit 0,A.lit 0,A.mkX .iop (A.fI .iop 0 x0.1,x2.1,A.fI .iop 2 x0.1,A.fI .iop 3 x0.1,A.fI .iop 4 x0.1,()),()))<|
 A.ret _ (x.2.1,x.1,A.lit 0,A.lit 0,A.lit 0,A.lit 0,A.lit 0,x0.1,())) fun x2=>
 A.bind [.i,.i,.i,.i,.i,.x .iop] (A.cond (A.ak (A.cmp .eql (A.fI .iop 0 x2.2.1) (A.lit 3)) (A.bl true) (A.cmp .eql (A.fI .iop 0 x2.2.1) (A.lit 5))) (A.bd .i64 x2.1 (A.fI .iop 2 x2.2.1)<|
 A.l1 .i (A.fI .i64 0 (A.get .i64 x2.1 (A.fI .iop 2 x2.2.1))) fun x3=>
 A.ret _ (x2.2.2.1,x2.2.2.2.1,x2.q.1,x2.q.2.1,x2.q.2.2.1,A.mkX .iop (A.fI .iop 0 x2.q.2.2.2.1,A.fI .iop 1 x2.q.2.2.2.1,x3.1,A.fI .iop 3 x2.q.2.2.2.1,A.fI .iop 4 x2.q.2.2.2.1,()),()))<|
 A.ret _ (x2.2.2.1,x2.2.2.2.1,x2.q.1,x2.q.2.1,x2.q.2.2.1,x2.q.2.2.2.1,())) fun x3=>
 A.l1 (.x .iop) x3.q.2.1 fun x4=>
 A.ret _ (x4.1,())
def Qp (A:Alg) (mV:Pt A gI) (mW:Ft A gI) (Qq:Pt A tZ) (Qr:Ft A tZ) (Fy:Pt A mR) (Fz:Ft A mR) (x:Tup A.ah [.x .blk]):Ot A uf:=
 A.cl mV mW (x.1,()) fun x0=>
 A.cond (A.aA x0.1) (A.ret _ (A.lit 0,A.lit 0,A.lit 0,A.lit 0,A.lit 0,A.lit 0,A.bN .iop,()))<|
 A.cl Fy Fz (x.1,()) fun x1=>
 A.l1 (.l .i64) (A.lst .i64 []) fun x2=>
 A.l1 (.l .i64) (A.lst .i64 [A.mkX .i64 (A.lit (-1),()),A.mkX .i64 (A.lit (-1),()),A.mkX .i64 (A.lit (-1),()),A.mkX .i64 (A.lit (-1),())]) fun x3=>
 A.l1 .i (A.lit 0) fun x4=>
 A.iter [.i,.i,.i,.i,.i,.i,.i,.i,.i,.i,.i,.i,.i,.l .i64,.l .i64,.l .iop] (fun x5=>
 A.cond (A.cmp .lss x5.1 (A.len .iop x5.o.q.2.2.2.1)) (A.bd .iop x5.o.q.2.2.2.1 x5.1<|
 A.bd .iop x5.o.q.2.2.2.1 x5.1<|
 A.cl Qq Qr (A.get .iop x5.o.q.2.2.2.1 x5.1,x5.o.q.2.1,()) fun x6=>
 A.l1 (.x .iop) x6.1 fun x7=>
 A.bd .iop x5.o.q.2.2.2.1 x5.1<|
 A.bd .iop x5.o.q.2.2.2.1 x5.1<|
 A.l1 (.x .iop) x7.1 fun x8=>
 A.l1 .i x5.1 fun x9=>
 A.chk (A.orB (A.aA (A.cmp .eql (A.fI .iop 0 x7.1) (A.lit 2))) (A.cmp .leq (A.lit 0) (A.fI .iop 3 x7.1)))<|
 A.chk (A.orB (A.aA (A.cmp .eql (A.fI .iop 0 x7.1) (A.lit 2))) (A.cmp .lss (A.fI .iop 3 x7.1) (A.len .i64 x5.o.q.2.2.1)))<|
 A.chk (A.orB (A.aA (A.cmp .eql (A.fI .iop 0 x7.1) (A.lit 2))) (A.cmp .leq (A.lit 0) (A.fI .iop 3 x7.1)))<|
 A.chk (A.orB (A.aA (A.cmp .eql (A.fI .iop 0 x7.1) (A.lit 2))) (A.cmp .lss (A.fI .iop 3 x7.1) (A.len .i64 x5.o.q.2.2.1)))<|
 A.bind [.i,.i,.i,.i,.i,.i,.i,.i,.i,.i,.i,.i,.i,.i,.l .i64,.l .i64,.x .iop,.l .iop] (A.cond (A.ak (A.cmp .eql (A.fI .iop 0 x7.1) (A.lit 2)) (A.cmp .geq (A.fI .i64 0 (A.get .i64 x5.o.q.2.2.1 (A.fI .iop 3 x7.1))) (A.lit 0)) (A.bl false)) (A.bd .i64 x5.o.q.2.2.1 (A.fI .iop 3 x7.1)<|
 A.bd .i64 x5.o.q.2.2.1 (A.fI .iop 3 x7.1)<|
 A.l1 .i (A.fI .i64 0 (A.get .i64 x5.o.q.2.2.1 (A.fI .iop 3 x7.1))) fun x10=>
 A.ret _ (x5.1,x10.1,x5.2.1,x5.2.2.1,x5.2.2.2.1,x5.q.1,x5.q.2.1,x5.q.2.2.1,x5.q.2.2.2.1,x5.o.1,x5.o.2.1,x5.o.2.2.1,x5.o.2.2.2.1,x5.o.q.1,x5.o.q.2.1,x5.o.q.2.2.1,x7.1,A.set .iop x5.o.q.2.2.2.1 x5.1 x8.1,()))<|
 A.ret _ (x5.1,x9.1,x5.2.1,x5.2.2.1,x5.2.2.2.1,x5.q.1,x5.q.2.1,x5.q.2.2.1,x5.q.2.2.2.1,x5.o.1,x5.o.2.1,x5.o.2.2.1,x5.o.2.2.2.1,x5.o.q.1,x5.o.q.2.1,x5.o.q.2.2.1,x7.1,A.set .iop x5.o.q.2.2.2.1 x5.1 x8.1,())) fun x10=>
 A.bind [.i,.i,.i,.i,.i,.i,.i,.i,.i,.i,.i,.i,.i,.i,.l .i64,.l .i64,.x .iop,.l .iop] (A.cond (A.cmp .eql (A.fI .iop 0 x10.o.o.1) (A.lit 2)) (A.bd .i64 x10.o.q.2.2.2.1 (A.fI .iop 3 x10.o.o.1)<|
 A.bd .i64 x10.o.q.2.2.2.1 (A.fI .iop 3 x10.o.o.1)<|
 A.l1 .i x10.2.1 fun x11=>
 A.ret _ (x10.1,x10.2.1,x10.2.2.1,x10.2.2.2.1,x10.q.1,x10.q.2.1,x10.q.2.2.1,x10.q.2.2.2.1,x10.o.1,x10.o.2.1,x10.o.2.2.1,x10.o.2.2.2.1,x10.o.q.1,x10.o.q.2.1,x10.o.q.2.2.1,A.set .i64 x10.o.q.2.2.2.1 (A.fI .iop 3 x10.o.o.1) (A.mkX .i64 (x11.1,())),x10.o.o.1,x10.o.o.2.1,()))<|
 A.ret _ (x10.1,x10.2.1,x10.2.2.1,x10.2.2.2.1,x10.q.1,x10.q.2.1,x10.q.2.2.1,x10.q.2.2.2.1,x10.o.1,x10.o.2.1,x10.o.2.2.1,x10.o.2.2.2.1,x10.o.q.1,x10.o.q.2.1,x10.o.q.2.2.1,x10.o.q.2.2.2.1,x10.o.o.1,x10.o.o.2.1,())) fun x11=>
 A.bind [.i,.i,.i,.i,.i,.i,.i,.i,.i,.i,.i,.i,.i,.i,.l .i64,.l .i64,.l .iop] (A.cond (A.cmp .eql (A.fI .iop 0 x11.o.o.1) (A.lit 8)) (A.bd .i64 x11.o.q.2.2.2.1 (A.fI .iop 3 x11.o.o.1)<|
 A.bd .i64 x11.o.q.2.2.2.1 (A.fI .iop 3 x11.o.o.1)<|
 A.l1 .i (A.fI .iop 1 x11.o.o.1) fun x12=>
 A.ret _ (x11.1,x11.2.1,x11.2.2.1,x11.2.2.2.1,x11.q.1,x11.q.2.1,x11.q.2.2.1,x11.q.2.2.2.1,x11.o.1,x11.o.2.1,x11.o.2.2.1,x11.o.2.2.2.1,x11.o.q.1,x11.o.q.2.1,x11.o.q.2.2.1,A.set .i64 x11.o.q.2.2.2.1 (A.fI .iop 3 x11.o.o.1) (A.mkX .i64 (x12.1,())),x11.o.o.2.1,()))<|
 A.ret _ (x11.1,x11.2.1,x11.2.2.1,x11.2.2.2.1,x11.q.1,x11.q.2.1,x11.q.2.2.1,x11.q.2.2.2.1,x11.o.1,x11.o.2.1,x11.o.2.2.1,x11.o.2.2.2.1,x11.o.q.1,x11.o.q.2.1,x11.o.q.2.2.1,x11.o.q.2.2.2.1,x11.o.o.2.1,())) fun x12=>
 A.l1 (.l .i64) (A.lst .i64 [A.mkX .i64 (x12.2.1,())]) fun x13=>
 A.chk (A.cmp .leq (A.addN (A.len .i64 x12.o.q.2.2.1) (A.len .i64 x13.1)) (A.lit 1073741824))<|
 A.l1 (.l .i64) (A.app .i64 x12.o.q.2.2.1 x13.1) fun x14=>
 A.l1 .i (A.arith .add .i64 x12.1 (A.lit 1)) fun x15=>
 A.inl _ (x15.1,x12.2.2.1,x12.2.2.2.1,x12.q.1,x12.q.2.1,x12.q.2.2.1,x12.q.2.2.2.1,x12.o.1,x12.o.2.1,x12.o.2.2.1,x12.o.2.2.2.1,x12.o.q.1,x12.o.q.2.1,x14.1,x12.o.q.2.2.2.1,x12.o.o.1,()))<|
 A.inr _<|A.bind [.i,.i,.i,.i,.i,.i,.i,.i,.i,.i,.i,.i,.l .i64,.l .iop] (A.cond (A.cmp .neq x5.o.2.1 (A.lit 1)) (A.bd .i64 x5.o.q.2.1 x5.o.2.2.1<|
 A.bd .i64 x5.o.q.2.1 x5.o.2.2.1<|
 A.l1 .i (A.fI .i64 0 (A.get .i64 x5.o.q.2.1 x5.o.2.2.1)) fun x6=>
 A.ret _ (x5.2.1,x5.2.2.1,x5.2.2.2.1,x5.q.1,x5.q.2.1,x5.q.2.2.1,x5.q.2.2.2.1,x5.o.1,x5.o.2.1,x6.1,x5.o.2.2.2.1,x5.o.q.1,x5.o.q.2.1,x5.o.q.2.2.2.1,()))<|
 A.ret _ (x5.2.1,x5.2.2.1,x5.2.2.2.1,x5.q.1,x5.q.2.1,x5.q.2.2.1,x5.q.2.2.2.1,x5.o.1,x5.o.2.1,x5.o.2.2.1,x5.o.2.2.2.1,x5.o.q.1,x5.o.q.2.1,x5.o.q.2.2.2.1,())) fun x6=>
 A.bind [.i,.i,.i,.i,.i,.i,.i,.i,.i,.i,.i,.i,.l .iop] (A.cond (A.ak (A.cmp .eql x6.o.1 (A.lit 3)) (A.bl true) (A.cmp .eql x6.o.1 (A.lit 4))) (A.bd .i64 x6.o.q.1 x6.o.2.2.1<|
 A.bd .i64 x6.o.q.1 x6.o.2.2.1<|
 A.l1 .i (A.fI .i64 0 (A.get .i64 x6.o.q.1 x6.o.2.2.1)) fun x7=>
 A.ret _ (x6.1,x6.2.1,x6.2.2.1,x6.2.2.2.1,x6.q.1,x6.q.2.1,x6.q.2.2.1,x6.q.2.2.2.1,x6.o.1,x6.o.2.1,x7.1,x6.o.2.2.2.1,x6.o.q.2.1,()))<|
 A.ret _ (x6.1,x6.2.1,x6.2.2.1,x6.2.2.2.1,x6.q.1,x6.q.2.1,x6.q.2.2.1,x6.q.2.2.2.1,x6.o.1,x6.o.2.1,x6.o.2.2.1,x6.o.2.2.2.1,x6.o.q.2.1,())) fun x7=>
 A.ret _ (x7.q.2.2.1,x7.q.2.2.2.1,x7.o.1,x7.o.2.1,x7.o.2.2.1,x7.o.2.2.2.1,x7.o.q.1,())) (x4.1,A.lit 0,A.lit 0,A.lit 0,A.lit 0,A.lit 0,A.lit 0,x1.1,x1.2.1,x1.2.2.1,x1.2.2.2.1,x1.q.1,x1.q.2.1,x2.1,x3.1,x1.q.2.2.1,())
def Qs (A:Alg) (Qq:Pt A tZ) (Qr:Ft A tZ) (x:Tup A.ah [.x .blk,.l .bool]):Ot A ug:=
 A.l1 (.l .iop) (A.lst .iop []) fun x0=>
 A.l1 (.l .i64) (A.lst .i64 []) fun x1=>
 A.l1 .i (A.lit 0) fun x2=>
 A.iter [.l .bool,.i,.x .blk,.i,.i,.i,.i,.i,.i,.l .iop,.l .i64] (fun x3=>
 A.cond (A.cmp .lss x3.2.1 (A.len .iop (A.fL .blk 2 .iop x3.2.2.1))) (A.l1 (.l .i64) (A.lst .i64 [A.mkX .i64 (A.len .iop x3.o.2.1,())]) fun x4=>
 A.chk (A.cmp .leq (A.addN (A.len .i64 x3.o.2.2.1) (A.len .i64 x4.1)) (A.lit 1073741824))<|
 A.l1 (.l .i64) (A.app .i64 x3.o.2.2.1 x4.1) fun x5=>
 A.bd .bool x3.1 x3.2.1<|
 A.bind [.l .bool,.i,.x .blk,.i,.i,.i,.i,.i,.i,.l .iop,.l .i64] (A.cond (A.fB .bool 0 (A.get .bool x3.1 x3.2.1)) (A.bd .iop (A.fL .blk 2 .iop x3.2.2.1) x3.2.1<|
 A.cl Qq Qr (A.get .iop (A.fL .blk 2 .iop x3.2.2.1) x3.2.1,x5.1,()) fun x6=>
 A.l1 (.l .iop) (A.lst .iop [x6.1]) fun x7=>
 A.chk (A.cmp .leq (A.addN (A.len .iop x3.o.2.1) (A.len .iop x7.1)) (A.lit 1073741824))<|
 A.l1 (.l .iop) (A.app .iop x3.o.2.1 x7.1) fun x8=>
 A.ret _ (x3.1,x3.2.1,x3.2.2.1,x3.2.2.2.1,x3.q.1,x3.q.2.1,x3.q.2.2.1,x3.q.2.2.2.1,x3.o.1,x8.1,x5.1,()))<|
 A.ret _ (x3.1,x3.2.1,x3.2.2.1,x3.2.2.2.1,x3.q.1,x3.q.2.1,x3.q.2.2.1,x3.q.2.2.2.1,x3.o.1,x3.o.2.1,x5.1,())) fun x6=>
 A.l1 .i (A.arith .add .i64 x6.2.1 (A.lit 1)) fun x7=>
 A.inl _ (x6.1,x7.1,x6.2.2.1,x6.2.2.2.1,x6.q.1,x6.q.2.1,x6.q.2.2.1,x6.q.2.2.2.1,x6.o.1,x6.o.2.1,x6.o.2.2.1,()))<|
 A.inr _<|A.l1 (.x .blk) x3.2.2.1 fun x4=>
 A.bind [.x .blk,.i,.i,.i,.i,.i,.i,.l .i64,.i,.i,.i,.i,.i,.i,.l .iop] (A.cond (A.cmp .neq (A.fI .blk 3 x3.2.2.1) (A.lit 1)) (A.bd .i64 x3.o.2.2.1 (A.fI .blk 4 x3.2.2.1)<|
 A.bd .i64 x3.o.2.2.1 (A.fI .blk 4 x3.2.2.1)<|
 A.l1 .i (A.fI .i64 0 (A.get .i64 x3.o.2.2.1 (A.fI .blk 4 x3.2.2.1))) fun x5=>
 A.ret _ (x3.2.2.1,x3.2.2.2.1,x3.q.1,x3.q.2.1,x3.q.2.2.1,x3.q.2.2.2.1,x3.o.1,x3.o.2.2.1,A.fI .blk 0 x4.1,A.fI .blk 1 x4.1,A.fI .blk 3 x4.1,x5.1,A.fI .blk 5 x4.1,A.fI .blk 6 x4.1,x3.o.2.1,()))<|
 A.ret _ (x3.2.2.1,x3.2.2.2.1,x3.q.1,x3.q.2.1,x3.q.2.2.1,x3.q.2.2.2.1,x3.o.1,x3.o.2.2.1,A.fI .blk 0 x4.1,A.fI .blk 1 x4.1,A.fI .blk 3 x4.1,A.fI .blk 4 x4.1,A.fI .blk 5 x4.1,A.fI .blk 6 x4.1,x3.o.2.1,())) fun x5=>
 A.bind [.i,.i,.i,.i,.i,.i,.i,.i,.i,.i,.i,.i,.l .iop] (A.cond (A.ak (A.cmp .eql (A.fI .blk 3 x5.1) (A.lit 3)) (A.bl true) (A.cmp .eql (A.fI .blk 3 x5.1) (A.lit 4))) (A.bd .i64 x5.q.2.2.2.1 (A.fI .blk 5 x5.1)<|
 A.bd .i64 x5.q.2.2.2.1 (A.fI .blk 5 x5.1)<|
 A.l1 .i (A.fI .i64 0 (A.get .i64 x5.q.2.2.2.1 (A.fI .blk 5 x5.1))) fun x6=>
 A.ret _ (x5.2.1,x5.2.2.1,x5.2.2.2.1,x5.q.1,x5.q.2.1,x5.q.2.2.1,x5.o.1,x5.o.2.1,x5.o.2.2.1,x5.o.2.2.2.1,x6.1,x5.o.q.2.1,x5.o.q.2.2.1,()))<|
 A.ret _ (x5.2.1,x5.2.2.1,x5.2.2.2.1,x5.q.1,x5.q.2.1,x5.q.2.2.1,x5.o.1,x5.o.2.1,x5.o.2.2.1,x5.o.2.2.2.1,x5.o.q.1,x5.o.q.2.1,x5.o.q.2.2.1,())) fun x6=>
 A.ret _ (x6.q.2.2.1,x6.q.2.2.2.1,x6.o.1,x6.o.2.1,x6.o.2.2.1,x6.o.2.2.2.1,x6.o.q.1,())) (x.2.1,x2.1,x.1,A.lit 0,A.lit 0,A.lit 0,A.lit 0,A.lit 0,A.lit 0,x0.1,x1.1,())
def Qt (A:Alg) (mV:Pt A gI) (mW:Ft A gI) (fG:Pt A fF) (fH:Ft A fF) (x:Tup A.ah [.x .blk]):Ot A Ee:=
 A.l1 (.l .bool) (A.lst .bool []) fun x0=>
 A.cl mV mW (x.1,()) fun x1=>
 A.cond (A.aA x1.1) (A.ret _ (x0.1,()))<|
 A.l1 .i (A.lit 0) fun x2=>
 A.iter [.i,.x .blk,.l .bool] (fun x3=>
 A.cond (A.cmp .lss x3.1 (A.len .iop (A.fL .blk 2 .iop x3.2.1))) (A.bd .iop (A.fL .blk 2 .iop x3.2.1) x3.1<|
 A.l1 (.l .bool) (A.lst .bool [A.mkX .bool (A.cmp .geq (A.fI .iop 0 (A.get .iop (A.fL .blk 2 .iop x3.2.1) x3.1)) (A.lit 4),())]) fun x4=>
 A.chk (A.cmp .leq (A.addN (A.len .bool x3.2.2.1) (A.len .bool x4.1)) (A.lit 1073741824))<|
 A.l1 (.l .bool) (A.app .bool x3.2.2.1 x4.1) fun x5=>
 A.l1 .i (A.arith .add .i64 x3.1 (A.lit 1)) fun x6=>
 A.inl _ (x6.1,x3.2.1,x5.1,()))<|
 A.inr _<|A.bind [.x .blk,.l .bool] (A.cond (A.cmp .neq (A.fI .blk 3 x3.2.1) (A.lit 1)) (A.bd .bool x3.2.2.1 (A.fI .blk 4 x3.2.1)<|
 A.bd .bool x3.2.2.1 (A.fI .blk 4 x3.2.1)<|
 A.l1 .b (A.bl true) fun x4=>
 A.ret _ (x3.2.1,A.set .bool x3.2.2.1 (A.fI .blk 4 x3.2.1) (A.mkX .bool (x4.1,())),()))<|
 A.ret _ (x3.2.1,x3.2.2.1,())) fun x4=>
 A.bind [.x .blk,.l .bool] (A.cond (A.ak (A.cmp .eql (A.fI .blk 3 x4.1) (A.lit 3)) (A.bl true) (A.cmp .eql (A.fI .blk 3 x4.1) (A.lit 4))) (A.bd .bool x4.2.1 (A.fI .blk 5 x4.1)<|
 A.bd .bool x4.2.1 (A.fI .blk 5 x4.1)<|
 A.l1 .b (A.bl true) fun x5=>
 A.ret _ (x4.1,A.set .bool x4.2.1 (A.fI .blk 5 x4.1) (A.mkX .bool (x5.1,())),()))<|
 A.ret _ (x4.1,x4.2.1,())) fun x5=>
 A.l1 .i (A.arith .sub .i64 (A.len .iop (A.fL .blk 2 .iop x5.1)) (A.lit 1)) fun x6=>
 A.iter [.i,.x .blk,.l .bool] (fun x7=>
 A.cond (A.cmp .geq x7.1 (A.lit 0)) (A.jR [.i,.x .blk,.l .bool] (A.bd .iop (A.fL .blk 2 .iop x7.2.1) x7.1<|
 A.l1 (.x .iop) (A.get .iop (A.fL .blk 2 .iop x7.2.1) x7.1) fun x8=>
 A.bd .bool x7.2.2.1 x7.1<|
 A.bd .bool x7.2.2.1 x7.1<|
 A.cond (A.aA (A.fB .bool 0 (A.get .bool x7.2.2.1 x7.1))) (A.inl _ (x7.1,x7.2.1,x7.2.2.1,()))<|
 A.cl fG fH (A.fI .iop 0 x8.1,A.lit 3,A.lit 5,()) fun x9=>
 A.bind [.i,.x .blk,.l .bool,.x .iop] (A.cond (A.ak (A.ak x9.1 (A.bl true) (A.cmp .eql (A.fI .iop 0 x8.1) (A.lit 7))) (A.bl true) (A.cmp .eql (A.fI .iop 0 x8.1) (A.lit 8))) (A.bd .bool x7.2.2.1 (A.fI .iop 1 x8.1)<|
 A.bd .bool x7.2.2.1 (A.fI .iop 1 x8.1)<|
 A.l1 .b (A.bl true) fun x10=>
 A.ret _ (x7.1,x7.2.1,A.set .bool x7.2.2.1 (A.fI .iop 1 x8.1) (A.mkX .bool (x10.1,())),x8.1,()))<|
 A.ret _ (x7.1,x7.2.1,x7.2.2.1,x8.1,())) fun x10=>
 A.bind [.i,.x .blk,.l .bool] (A.cond (A.ak (A.cmp .eql (A.fI .iop 0 x10.2.2.2.1) (A.lit 3)) (A.bl true) (A.cmp .eql (A.fI .iop 0 x10.2.2.2.1) (A.lit 5))) (A.bd .bool x10.2.2.1 (A.fI .iop 2 x10.2.2.2.1)<|
 A.bd .bool x10.2.2.1 (A.fI .iop 2 x10.2.2.2.1)<|
 A.l1 .b (A.bl true) fun x11=>
 A.ret _ (x10.1,x10.2.1,A.set .bool x10.2.2.1 (A.fI .iop 2 x10.2.2.2.1) (A.mkX .bool (x11.1,())),()))<|
 A.ret _ (x10.1,x10.2.1,x10.2.2.1,())) fun x11=>
 A.inl _ (x11.1,x11.2.1,x11.2.2.1,())) fun x8=>
 A.l1 .i (A.arith .sub .i64 x8.1 (A.lit 1)) fun x9=>
 A.inl _ (x9.1,x8.2.1,x8.2.2.1,()))<|
 A.inr _<|A.ret _ (x7.2.2.1,())) (x6.1,x5.1,x5.2.1,())) (x2.1,x.1,x0.1,())
def Qu (A:Alg) (mV:Pt A gI) (mW:Ft A gI) (aeF:Pt A Ee) (aeG:Ft A Ee) (Qv:Pt A ug) (Qw:Ft A ug) (x:Tup A.ah [.x .blk]):Ot A Ef:=
 A.cl mV mW (x.1,()) fun x0=>
 A.cond (A.aA x0.1) (A.ret _ (A.lit 0,A.lit 0,A.lit 0,A.lit 0,A.lit 0,A.lit 0,A.bN .iop,()))<|
 A.cl aeF aeG (x.1,()) fun x1=>
 A.cl Qv Qw (x.1,x1.1,()) fun x2=>
 A.ret _ (x2.1,x2.2.1,x2.2.2.1,x2.2.2.2.1,x2.q.1,x2.q.2.1,x2.q.2.2.1,())
def Qx (A:Alg) (x:Tup A.ah [.l .iop,.i]):Ot A Eh:=
 A.l1 .b (A.bl false) fun x0=>
 A.l1 .i (A.arith .add .i64 x.2.1 (A.lit 1)) fun x1=>
 A.iter [.l .iop,.i,.i] (fun x2=>
 A.cond (A.cmp .lss x2.2.2.1 (A.len .iop x2.1)) (A.bd .iop x2.1 x2.2.2.1<|
 A.chk (A.orB (A.aA (A.aA (A.cmp .eql (A.fI .iop 0 (A.get .iop x2.1 x2.2.2.1)) (A.lit 4)))) (A.cmp .leq (A.lit 0) x2.2.2.1))<|
 A.chk (A.orB (A.aA (A.aA (A.cmp .eql (A.fI .iop 0 (A.get .iop x2.1 x2.2.2.1)) (A.lit 4)))) (A.cmp .lss x2.2.2.1 (A.len .iop x2.1)))<|
 A.chk (A.orB (A.aA (A.aA (A.ak (A.cmp .eql (A.fI .iop 0 (A.get .iop x2.1 x2.2.2.1)) (A.lit 4)) (A.bl true) (A.cmp .eql (A.fI .iop 0 (A.get .iop x2.1 x2.2.2.1)) (A.lit 5))))) (A.cmp .leq (A.lit 0) x2.2.2.1))<|
 A.chk (A.orB (A.aA (A.aA (A.ak (A.cmp .eql (A.fI .iop 0 (A.get .iop x2.1 x2.2.2.1)) (A.lit 4)) (A.bl true) (A.cmp .eql (A.fI .iop 0 (A.get .iop x2.1 x2.2.2.1)) (A.lit 5))))) (A.cmp .lss x2.2.2.1 (A.len .iop x2.1)))<|
 A.chk (A.orB (A.aA (A.mJ (A.aA (A.ak (A.cmp .eql (A.fI .iop 0 (A.get .iop x2.1 x2.2.2.1)) (A.lit 4)) (A.bl true) (A.cmp .eql (A.fI .iop 0 (A.get .iop x2.1 x2.2.2.1)) (A.lit 5)))) (A.cmp .eql (A.fI .iop 0 (A.get .iop x2.1 x2.2.2.1)) (A.lit 2)))) (A.cmp .leq (A.lit 0) x2.2.2.1))<|
 A.chk (A.orB (A.aA (A.mJ (A.aA (A.ak (A.cmp .eql (A.fI .iop 0 (A.get .iop x2.1 x2.2.2.1)) (A.lit 4)) (A.bl true) (A.cmp .eql (A.fI .iop 0 (A.get .iop x2.1 x2.2.2.1)) (A.lit 5)))) (A.cmp .eql (A.fI .iop 0 (A.get .iop x2.1 x2.2.2.1)) (A.lit 2)))) (A.cmp .lss x2.2.2.1 (A.len .iop x2.1)))<|
 A.chk (A.orB (A.aA (A.mJ (A.aA (A.ak (A.cmp .eql (A.fI .iop 0 (A.get .iop x2.1 x2.2.2.1)) (A.lit 4)) (A.bl true) (A.cmp .eql (A.fI .iop 0 (A.get .iop x2.1 x2.2.2.1)) (A.lit 5)))) (A.cmp .eql (A.fI .iop 0 (A.get .iop x2.1 x2.2.2.1)) (A.lit 2)))) (A.cmp .leq (A.lit 0) x2.2.1))<|
 A.chk (A.orB (A.aA (A.mJ (A.aA (A.ak (A.cmp .eql (A.fI .iop 0 (A.get .iop x2.1 x2.2.2.1)) (A.lit 4)) (A.bl true) (A.cmp .eql (A.fI .iop 0 (A.get .iop x2.1 x2.2.2.1)) (A.lit 5)))) (A.cmp .eql (A.fI .iop 0 (A.get .iop x2.1 x2.2.2.1)) (A.lit 2)))) (A.cmp .lss x2.2.1 (A.len .iop x2.1)))<|
 A.cond (A.ak (A.ak (A.cmp .eql (A.fI .iop 0 (A.get .iop x2.1 x2.2.2.1)) (A.lit 4)) (A.bl true) (A.cmp .eql (A.fI .iop 0 (A.get .iop x2.1 x2.2.2.1)) (A.lit 5))) (A.bl true) (A.ak (A.cmp .eql (A.fI .iop 0 (A.get .iop x2.1 x2.2.2.1)) (A.lit 2)) (A.cmp .eql (A.fI .iop 3 (A.get .iop x2.1 x2.2.2.1)) (A.fI .iop 3 (A.get .iop x2.1 x2.2.1))) (A.bl false))) (A.l1 .b (A.bl false) fun x3=>
 A.inr _<|A.ret _ (x3.1,()))<|
 A.bd .iop x2.1 x2.2.2.1<|
 A.chk (A.orB (A.aA (A.cmp .eql (A.fI .iop 0 (A.get .iop x2.1 x2.2.2.1)) (A.lit 8))) (A.cmp .leq (A.lit 0) x2.2.2.1))<|
 A.chk (A.orB (A.aA (A.cmp .eql (A.fI .iop 0 (A.get .iop x2.1 x2.2.2.1)) (A.lit 8))) (A.cmp .lss x2.2.2.1 (A.len .iop x2.1)))<|
 A.chk (A.orB (A.aA (A.cmp .eql (A.fI .iop 0 (A.get .iop x2.1 x2.2.2.1)) (A.lit 8))) (A.cmp .leq (A.lit 0) x2.2.1))<|
 A.chk (A.orB (A.aA (A.cmp .eql (A.fI .iop 0 (A.get .iop x2.1 x2.2.2.1)) (A.lit 8))) (A.cmp .lss x2.2.1 (A.len .iop x2.1)))<|
 A.cond (A.ak (A.cmp .eql (A.fI .iop 0 (A.get .iop x2.1 x2.2.2.1)) (A.lit 8)) (A.cmp .eql (A.fI .iop 3 (A.get .iop x2.1 x2.2.2.1)) (A.fI .iop 3 (A.get .iop x2.1 x2.2.1))) (A.bl false)) (A.l1 .b (A.bl true) fun x3=>
 A.inr _<|A.ret _ (x3.1,()))<|
 A.l1 .i (A.arith .add .i64 x2.2.2.1 (A.lit 1)) fun x3=>
 A.inl _ (x2.1,x2.2.1,x3.1,()))<|
 A.inr _<|A.rb (A.bl false)) (x.1,x.2.1,x1.1,())
def Qy (A:Alg) (mV:Pt A gI) (mW:Ft A gI) (Qv:Pt A ug) (Qw:Ft A ug) (aeH:Pt A Eh) (aeI:Ft A Eh) (x:Tup A.ah [.x .blk]):Ot A Ei:=
 A.cl mV mW (x.1,()) fun x0=>
 A.cond (A.aA x0.1) (A.ret _ (A.lit 0,A.lit 0,A.lit 0,A.lit 0,A.lit 0,A.lit 0,A.bN .iop,()))<|
 A.l1 (.l .bool) (A.lst .bool []) fun x1=>
 A.l1 .i (A.lit 0) fun x2=>
 A.iter [.i,.x .blk,.i,.i,.i,.i,.i,.i,.l .bool] (fun x3=>
 A.cond (A.cmp .lss x3.1 (A.len .iop (A.fL .blk 2 .iop x3.2.1))) (A.bd .iop (A.fL .blk 2 .iop x3.2.1) x3.1<|
 A.cg (A.aA (A.cmp .neq (A.fI .iop 0 (A.get .iop (A.fL .blk 2 .iop x3.2.1) x3.1)) (A.lit 8))) aeH aeI (A.fL .blk 2 .iop x3.2.1,x3.1,()) fun x4=>
 A.l1 (.l .bool) (A.lst .bool [A.mkX .bool (A.ak (A.cmp .neq (A.fI .iop 0 (A.get .iop (A.fL .blk 2 .iop x3.2.1) x3.1)) (A.lit 8)) (A.bl true) (A.aA x4.1),())]) fun x5=>
 A.chk (A.cmp .leq (A.addN (A.len .bool x3.o.1) (A.len .bool x5.1)) (A.lit 1073741824))<|
 A.l1 (.l .bool) (A.app .bool x3.o.1 x5.1) fun x6=>
 A.l1 .i (A.arith .add .i64 x3.1 (A.lit 1)) fun x7=>
 A.inl _ (x7.1,x3.2.1,x3.2.2.1,x3.2.2.2.1,x3.q.1,x3.q.2.1,x3.q.2.2.1,x3.q.2.2.2.1,x6.1,()))<|
 A.inr _<|A.cl Qv Qw (x3.2.1,x3.o.1,()) fun x4=>
 A.ret _ (x4.1,x4.2.1,x4.2.2.1,x4.2.2.2.1,x4.q.1,x4.q.2.1,x4.q.2.2.1,())) (x2.1,x.1,A.lit 0,A.lit 0,A.lit 0,A.lit 0,A.lit 0,A.lit 0,x1.1,())
def Qz (A:Alg) (x:Tup A.ah [.l .iop,.i]):Ot A uh:=
 A.l1 .i (A.lit 0) fun x0=>
 A.l1 .b (A.bl false) fun x1=>
 A.chk (A.orB (A.aA (A.aA (A.ak (A.cmp .lss x.2.1 (A.lit 0)) (A.bl true) (A.cmp .geq x.2.1 (A.len .iop x.1))))) (A.cmp .leq (A.lit 0) x.2.1))<|
 A.chk (A.orB (A.aA (A.aA (A.ak (A.cmp .lss x.2.1 (A.lit 0)) (A.bl true) (A.cmp .geq x.2.1 (A.len .iop x.1))))) (A.cmp .lss x.2.1 (A.len .iop x.1)))<|
 A.cond (A.ak (A.ak (A.cmp .lss x.2.1 (A.lit 0)) (A.bl true) (A.cmp .geq x.2.1 (A.len .iop x.1))) (A.bl true) (A.cmp .neq (A.fI .iop 0 (A.get .iop x.1 x.2.1)) (A.lit 1))) (A.l1 .i (A.lit 0) fun x2=>
 A.l1 .b (A.bl false) fun x3=>
 A.ret _ (x2.1,x3.1,()))<|
 A.bd .iop x.1 x.2.1<|
 A.l1 .i (A.fI .iop 3 (A.get .iop x.1 x.2.1)) fun x2=>
 A.l1 .b (A.bl true) fun x3=>
 A.ret _ (x2.1,x3.1,())
def QA (A:Alg) (x:Tup A.ah [.i]):Ot A Ej:=
 A.l1 .i (A.lit 0) fun x0=>
 A.chk (A.cmp .neq (A.lit 65536) (A.lit 0))<|
 A.l1 .i (A.arith .rem .i64 x.1 (A.lit 65536)) fun x1=>
 A.bind [.i] (A.cond (A.cmp .lss x1.1 (A.lit 0)) (A.l1 .i (A.arith .add .i64 x1.1 (A.lit 65536)) fun x2=>
 A.ret _ (x2.1,()))<|
 A.ret _ (x1.1,())) fun x2=>
 A.l1 .i x2.1 fun x3=>
 A.ret _ (x3.1,())
def QB (A:Alg) (QC:Pt A Ej) (QD:Ft A Ej) (yA:Pt A mQ) (yB:Ft A mQ) (x:Tup A.ah [.i,.i,.i]):Ot A El:=
 A.l1 .i (A.lit 0) fun x0=>
 A.cl yA yB (x.2.1,()) fun x1=>
 A.cg (A.aA (A.aA x1.1)) yA yB (x.2.2.1,()) fun x2=>
 A.cond (A.ak (A.aA x1.1) (A.bl true) (A.aA x2.1)) (A.l1 .i (A.lit 0) fun x3=>
 A.ret _ (x3.1,()))<|
 A.l1 .b (A.cmp .eql x.1 (A.lit 1)) fun x3=>
 A.cond x3.1 (A.cl QC QD (A.arith .add .i64 x.2.1 x.2.2.1,()) fun x4=>
 A.l1 .i x4.1 fun x5=>
 A.ret _ (x5.1,()))<|
 A.l1 .b (A.cmp .eql x.1 (A.lit 2)) fun x4=>
 A.cond x4.1 (A.cl QC QD (A.arith .sub .i64 x.2.1 x.2.2.1,()) fun x5=>
 A.l1 .i x5.1 fun x6=>
 A.ret _ (x6.1,()))<|
 A.l1 .b (A.cmp .eql x.1 (A.lit 3)) fun x5=>
 A.cond x5.1 (A.cl QC QD (A.arith .mul .i64 x.2.1 x.2.2.1,()) fun x6=>
 A.l1 .i x6.1 fun x7=>
 A.ret _ (x7.1,()))<|
 A.l1 .b (A.cmp .eql x.1 (A.lit 4)) fun x6=>
 A.cond x6.1 (A.l1 .i (A.arith .and .i64 x.2.1 x.2.2.1) fun x7=>
 A.ret _ (x7.1,()))<|
 A.l1 .b (A.cmp .eql x.1 (A.lit 5)) fun x7=>
 A.cond x7.1 (A.l1 .i (A.arith .xor .i64 x.2.1 x.2.2.1) fun x8=>
 A.ret _ (x8.1,()))<|
 A.l1 .i (A.lit 0) fun x8=>
 A.ret _ (x8.1,())
def QE (A:Alg) (x:Tup A.ah [.x .blk,.i]):Ot A Em:=
 A.l1 .i (A.lit 1) fun x0=>
 A.l1 .i (A.lit 0) fun x1=>
 A.l1 .i (A.lit 0) fun x2=>
 A.l1 .i x.2.1 fun x3=>
 A.ret _ (A.fI .blk 0 x.1,A.fI .blk 1 x.1,A.fL .blk 2 .iop x.1,x0.1,x1.1,x2.1,x3.1,())
def QF (A:Alg) (QG:Pt A Em) (QH:Ft A Em) (FB:Pt A uh) (FC:Ft A uh) (x:Tup A.ah [.x .blk]):Ot A En:=
 A.cl FB FC (A.fL .blk 2 .iop x.1,A.fI .blk 4 x.1,()) fun x0=>
 A.l1 .i x0.1 fun x1=>
 A.l1 .b x0.2.1 fun x2=>
 A.cl FB FC (A.fL .blk 2 .iop x.1,A.fI .blk 5 x.1,()) fun x3=>
 A.l1 .i x3.1 fun x4=>
 A.l1 .b x3.2.1 fun x5=>
 A.l1 .b (A.ak (A.cmp .eql (A.fI .blk 3 x.1) (A.lit 2)) x2.1 (A.bl false)) fun x6=>
 A.cond x6.1 (A.cl QG QH (x.1,x1.1,()) fun x7=>
 A.ret _ (A.mkX .blk (x7.1,x7.2.1,x7.2.2.1,x7.2.2.2.1,x7.q.1,x7.q.2.1,x7.q.2.2.1,()),()))<|
 A.l1 .b (A.ak (A.ak (A.ak (A.cmp .eql (A.fI .blk 3 x.1) (A.lit 3)) x2.1 (A.bl false)) x5.1 (A.bl false)) (A.cmp .eql x1.1 x4.1) (A.bl false)) fun x7=>
 A.bind [.b,.b,.b,.x .blk,.i,.i,.i,.i,.i,.i] (A.cond x7.1 (A.ret _ (x2.1,x5.1,x7.1,x.1,A.lit 0,A.lit 0,A.lit 0,A.lit 0,A.lit 0,A.lit 0,()))<|
 A.l1 .b (A.ak (A.ak (A.ak (A.cmp .eql (A.fI .blk 3 x.1) (A.lit 4)) x2.1 (A.bl false)) x5.1 (A.bl false)) (A.cmp .lss x1.1 x4.1) (A.bl false)) fun x8=>
 A.ret _ (x2.1,x5.1,x8.1,x.1,A.lit 0,A.lit 0,A.lit 0,A.lit 0,A.lit 0,A.lit 0,())) fun x8=>
 A.cond x8.2.2.1 (A.cl QG QH (x8.2.2.2.1,A.fI .blk 6 x8.2.2.2.1,()) fun x9=>
 A.ret _ (A.mkX .blk (x9.1,x9.2.1,x9.2.2.1,x9.2.2.2.1,x9.q.1,x9.q.2.1,x9.q.2.2.1,()),()))<|
 A.l1 .b (A.ak (A.ak (A.ak (A.cmp .eql (A.fI .blk 3 x8.2.2.2.1) (A.lit 3)) (A.bl true) (A.cmp .eql (A.fI .blk 3 x8.2.2.2.1) (A.lit 4))) x8.1 (A.bl false)) x8.2.1 (A.bl false)) fun x9=>
 A.cond x9.1 (A.cl QG QH (x8.2.2.2.1,A.arith .add .i64 (A.fI .blk 0 x8.2.2.2.1) (A.fI .blk 1 x8.2.2.2.1),()) fun x10=>
 A.ret _ (A.mkX .blk (x10.1,x10.2.1,x10.2.2.1,x10.2.2.2.1,x10.q.1,x10.q.2.1,x10.q.2.2.1,()),()))<|
 A.l1 (.x .blk) x8.2.2.2.1 fun x10=>
 A.ret _ (x10.1,())
def QI (A:Alg) (mV:Pt A gI) (mW:Ft A gI) (aeJ:Pt A El) (aeK:Ft A El) (aeL:Pt A En) (aeM:Ft A En) (FB:Pt A uh) (FC:Ft A uh) (Fy:Pt A mR) (Fz:Ft A mR) (x:Tup A.ah [.x .blk]):Ot A Eo:=
 A.cl mV mW (x.1,()) fun x0=>
 A.cond (A.aA x0.1) (A.ret _ (A.mkX .blk (A.lit 0,A.lit 0,A.bN .iop,A.lit 0,A.lit 0,A.lit 0,A.lit 0,()),()))<|
 A.cl Fy Fz (x.1,()) fun x1=>
 A.l1 .i (A.lit 0) fun x2=>
 A.iter [.i,.i,.i,.i,.i,.i,.i,.i,.i,.i,.i,.i,.i,.l .iop] (fun x3=>
 A.cond (A.cmp .lss x3.1 (A.len .iop x3.o.q.2.1)) (A.bd .iop x3.o.q.2.1 x3.1<|
 A.bd .iop x3.o.q.2.1 x3.1<|
 A.l1 (.x .iop) (A.get .iop x3.o.q.2.1 x3.1) fun x4=>
 A.cl FB FC (x3.o.q.2.1,A.fI .iop 1 x4.1,()) fun x5=>
 A.l1 .i x5.1 fun x6=>
 A.l1 .b x5.2.1 fun x7=>
 A.cl FB FC (x3.o.q.2.1,A.fI .iop 2 x4.1,()) fun x8=>
 A.l1 .i x8.1 fun x9=>
 A.l1 .b x8.2.1 fun x10=>
 A.bind [.i,.i,.i,.i,.i,.i,.i,.i,.i,.i,.i,.i,.i,.l .iop] (A.cond (A.ak (A.ak (A.cmp .eql (A.fI .iop 0 x4.1) (A.lit 3)) x7.1 (A.bl false)) x10.1 (A.bl false)) (A.cl aeJ aeK (A.fI .iop 3 x4.1,x6.1,x9.1,()) fun x11=>
 A.bd .iop x3.o.q.2.1 x3.1<|
 A.bd .iop x3.o.q.2.1 x3.1<|
 A.ret _ (x3.1,x3.2.1,x3.2.2.1,x3.2.2.2.1,x3.q.1,x3.q.2.1,x3.q.2.2.1,x3.q.2.2.2.1,x3.o.1,x3.o.2.1,x3.o.2.2.1,x3.o.2.2.2.1,x3.o.q.1,A.set .iop x3.o.q.2.1 x3.1 (A.mkX .iop (A.lit 1,A.lit 0,A.lit 0,x11.1,A.lit 0,())),()))<|
 A.ret _ (x3.1,x3.2.1,x3.2.2.1,x3.2.2.2.1,x3.q.1,x3.q.2.1,x3.q.2.2.1,x3.q.2.2.2.1,x3.o.1,x3.o.2.1,x3.o.2.2.1,x3.o.2.2.2.1,x3.o.q.1,x3.o.q.2.1,())) fun x11=>
 A.l1 .i (A.arith .add .i64 x11.1 (A.lit 1)) fun x12=>
 A.inl _ (x12.1,x11.2.1,x11.2.2.1,x11.2.2.2.1,x11.q.1,x11.q.2.1,x11.q.2.2.1,x11.q.2.2.2.1,x11.o.1,x11.o.2.1,x11.o.2.2.1,x11.o.2.2.2.1,x11.o.q.1,x11.o.q.2.1,()))<|
 A.inr _<|A.cl aeL aeM (A.mkX .blk (x3.q.2.2.2.1,x3.o.1,x3.o.q.2.1,x3.o.2.1,x3.o.2.2.1,x3.o.2.2.2.1,x3.o.q.1,()),()) fun x4=>
 A.l1 (.x .blk) x4.1 fun x5=>
 A.ret _ (x5.1,())) (x2.1,A.lit 0,A.lit 0,A.lit 0,A.lit 0,A.lit 0,A.lit 0,x1.1,x1.2.1,x1.2.2.1,x1.2.2.2.1,x1.q.1,x1.q.2.1,x1.q.2.2.1,())
def QJ (A:Alg) (aeN:Pt A Eo) (aeO:Ft A Eo) (QK:Pt A uf) (QL:Ft A uf) (Xy:Pt A Ef) (Xz:Ft A Ef) (aeP:Pt A Ei) (aeQ:Ft A Ei) (x:Tup A.ah [.x .blk]):Ot A Ep:=
 A.cl QK QL (x.1,()) fun x0=>
 A.cl aeN aeO (A.mkX .blk (x0.1,x0.2.1,x0.q.2.2.1,x0.2.2.1,x0.2.2.2.1,x0.q.1,x0.q.2.1,()),()) fun x1=>
 A.cl Xy Xz (x1.1,()) fun x2=>
 A.cl aeP aeQ (A.mkX .blk (x2.1,x2.2.1,x2.q.2.2.1,x2.2.2.1,x2.2.2.2.1,x2.q.1,x2.q.2.1,()),()) fun x3=>
 A.cl Xy Xz (A.mkX .blk (x3.1,x3.2.1,x3.q.2.2.1,x3.2.2.1,x3.2.2.2.1,x3.q.1,x3.q.2.1,()),()) fun x4=>
 A.ret _ (x4.1,x4.2.1,x4.2.2.1,x4.2.2.2.1,x4.q.1,x4.q.2.1,x4.q.2.2.1,())
def QM (A:Alg) (aW:Pt A fE) (aX:Ft A fE) (x:Tup A.ah [.l .u8,.i]):Ot A Er:=
 A.cl aW aX (A.lit 4,x.1,x.2.1,()) fun x0=>
 A.l1 .i x0.1 fun x1=>
 A.cl aW aX (A.lit 4,x0.2.1,x0.2.2.1,()) fun x2=>
 A.l1 .i x2.1 fun x3=>
 A.cl aW aX (A.lit 14,x2.2.1,x2.2.2.1,()) fun x4=>
 A.l1 .b (A.cmp .eql x4.1 (A.lit 0)) fun x5=>
 A.bind [.i,.i,.i,.b,.l .u8,.i,.i,.i,.i,.i] (A.cond x5.1 (A.ret _ (x1.1,x3.1,x4.1,x5.1,x4.2.1,x4.2.2.1,A.lit 0,A.lit 0,A.lit 0,A.lit 0,()))<|
 A.l1 .b (A.cmp .eql x4.1 (A.lit 1)) fun x6=>
 A.ret _ (x1.1,x3.1,x4.1,x6.1,x4.2.1,x4.2.2.1,A.lit 0,A.lit 0,A.lit 0,A.lit 0,())) fun x6=>
 A.cond x6.2.2.2.1 (A.cl aW aX (A.lit 64,x6.q.1,x6.q.2.1,()) fun x7=>
 A.cl aW aX (A.lit 256,x7.2.1,x7.2.2.1,()) fun x8=>
 A.l1 (.l .i64) (A.lst .i64 [A.mkX .i64 (A.lit 0,()),A.mkX .i64 (A.lit 1,()),A.mkX .i64 (A.lit 2,()),A.mkX .i64 (x7.1,()),A.mkX .i64 (x8.1,()),A.mkX .i64 (A.lit 255,())]) fun x9=>
 A.cl aW aX (A.lit 6,x8.2.1,x8.2.2.1,()) fun x10=>
 A.bd .i64 x9.1 x10.1<|
 A.bd .i64 x9.1 x10.1<|
 A.ret _ (A.lit 1,x6.1,A.lit 0,A.fI .i64 0 (A.get .i64 x9.1 x10.1),x10.2.1,x10.2.2.1,()))<|
 A.l1 .b (A.cmp .eql x6.2.2.1 (A.lit 2)) fun x7=>
 A.cond x7.1 (A.ret _ (A.lit 2,x6.1,x6.2.1,A.lit 0,x6.q.1,x6.q.2.1,()))<|
 A.l1 .b (A.cmp .eql x6.2.2.1 (A.lit 3)) fun x8=>
 A.bind [.i,.i,.i,.b,.l .u8,.i,.i,.i,.i,.i] (A.cond x8.1 (A.ret _ (x6.1,x6.2.1,x6.2.2.1,x8.1,x6.q.1,x6.q.2.1,x6.q.2.2.1,x6.q.2.2.2.1,x6.o.1,x6.o.2.1,()))<|
 A.l1 .b (A.cmp .eql x6.2.2.1 (A.lit 4)) fun x9=>
 A.bind [.i,.i,.i,.b,.l .u8,.i,.i,.i,.i,.i] (A.cond x9.1 (A.ret _ (x6.1,x6.2.1,x6.2.2.1,x9.1,x6.q.1,x6.q.2.1,x6.q.2.2.1,x6.q.2.2.2.1,x6.o.1,x6.o.2.1,()))<|
 A.l1 .b (A.cmp .eql x6.2.2.1 (A.lit 5)) fun x10=>
 A.ret _ (x6.1,x6.2.1,x6.2.2.1,x10.1,x6.q.1,x6.q.2.1,x6.q.2.2.1,x6.q.2.2.2.1,x6.o.1,x6.o.2.1,())) fun x10=>
 A.ret _ (x10.1,x10.2.1,x10.2.2.1,x10.2.2.2.1,x10.q.1,x10.q.2.1,x10.q.2.2.1,x10.q.2.2.2.1,x10.o.1,x10.o.2.1,())) fun x9=>
 A.cond x9.2.2.2.1 (A.cl aW aX (A.lit 5,x9.q.1,x9.q.2.1,()) fun x10=>
 A.cl aW aX (A.lit 4,x10.2.1,x10.2.2.1,()) fun x11=>
 A.ret _ (A.arith .add .i64 (A.lit 3) x10.1,x9.1,x9.2.1,x11.1,x11.2.1,x11.2.2.1,()))<|
 A.l1 .b (A.cmp .eql x9.2.2.1 (A.lit 6)) fun x10=>
 A.cond x10.1 (A.cl aW aX (A.lit 16,x9.q.1,x9.q.2.1,()) fun x11=>
 A.l1 (.l .i64) (A.lst .i64 [A.mkX .i64 (A.lit 0,()),A.mkX .i64 (A.lit 1,()),A.mkX .i64 (A.lit 8,()),A.mkX .i64 (A.lit 15,()),A.mkX .i64 (x11.1,())]) fun x12=>
 A.cl aW aX (A.lit 5,x11.2.1,x11.2.2.1,()) fun x13=>
 A.bd .i64 x12.1 x13.1<|
 A.bd .i64 x12.1 x13.1<|
 A.ret _ (A.lit 8,x9.1,x9.2.1,A.fI .i64 0 (A.get .i64 x12.1 x13.1),x13.2.1,x13.2.2.1,()))<|
 A.l1 .b (A.cmp .eql x9.2.2.1 (A.lit 7)) fun x11=>
 A.bind [.i,.i,.i,.b,.l .u8,.i,.i,.i,.i,.i] (A.cond x11.1 (A.ret _ (x9.1,x9.2.1,x9.2.2.1,x11.1,x9.q.1,x9.q.2.1,x9.q.2.2.1,x9.q.2.2.2.1,x9.o.1,x9.o.2.1,()))<|
 A.l1 .b (A.cmp .eql x9.2.2.1 (A.lit 8)) fun x12=>
 A.ret _ (x9.1,x9.2.1,x9.2.2.1,x12.1,x9.q.1,x9.q.2.1,x9.q.2.2.1,x9.q.2.2.2.1,x9.o.1,x9.o.2.1,())) fun x12=>
 A.cond x12.2.2.2.1 (A.cl aW aX (A.lit 2,x12.q.1,x12.q.2.1,()) fun x13=>
 A.cl aW aX (A.lit 64,x13.2.1,x13.2.2.1,()) fun x14=>
 A.l1 (.l .i64) (A.lst .i64 [A.mkX .i64 (A.lit 0,()),A.mkX .i64 (A.lit 1,()),A.mkX .i64 (x14.1,()),A.mkX .i64 (A.lit 63,()),A.mkX .i64 (A.lit 64,()),A.mkX .i64 (A.lit 255,())]) fun x15=>
 A.cl aW aX (A.lit 6,x14.2.1,x14.2.2.1,()) fun x16=>
 A.bd .i64 x15.1 x16.1<|
 A.bd .i64 x15.1 x16.1<|
 A.ret _ (A.arith .add .i64 (A.lit 9) x13.1,x12.1,x12.2.1,A.fI .i64 0 (A.get .i64 x15.1 x16.1),x16.2.1,x16.2.2.1,()))<|
 A.l1 .b (A.cmp .eql x12.2.2.1 (A.lit 9)) fun x13=>
 A.cond x13.1 (A.cl aW aX (A.lit 2,x12.q.1,x12.q.2.1,()) fun x14=>
 A.cl aW aX (A.lit 20,x14.2.1,x14.2.2.1,()) fun x15=>
 A.cl aW aX (A.lit 64,x15.2.1,x15.2.2.1,()) fun x16=>
 A.l1 (.l .i64) (A.lst .i64 [A.mkX .i64 (x15.1,()),A.mkX .i64 (x16.1,()),A.mkX .i64 (A.lit 200,())]) fun x17=>
 A.cl aW aX (A.lit 3,x16.2.1,x16.2.2.1,()) fun x18=>
 A.bd .i64 x17.1 x18.1<|
 A.bd .i64 x17.1 x18.1<|
 A.ret _ (A.arith .add .i64 (A.lit 11) x14.1,x12.1,x12.2.1,A.fI .i64 0 (A.get .i64 x17.1 x18.1),x18.2.1,x18.2.2.1,()))<|
 A.l1 .b (A.cmp .eql x12.2.2.1 (A.lit 10)) fun x14=>
 A.cond x14.1 (A.cl aW aX (A.lit 2,x12.q.1,x12.q.2.1,()) fun x15=>
 A.ret _ (A.arith .add .i64 (A.lit 14) x15.1,x12.1,A.lit 0,A.lit 0,x15.2.1,x15.2.2.1,()))<|
 A.l1 .b (A.cmp .eql x12.2.2.1 (A.lit 11)) fun x15=>
 A.cond x15.1 (A.cl aW aX (A.lit 4,x12.q.1,x12.q.2.1,()) fun x16=>
 A.ret _ (A.lit 0,A.lit 0,A.lit 0,x16.1,x16.2.1,x16.2.2.1,()))<|
 A.l1 .b (A.cmp .eql x12.2.2.1 (A.lit 12)) fun x16=>
 A.cond x16.1 (A.ret _ (A.lit 13,A.lit 0,x12.2.1,A.lit 0,x12.q.1,x12.q.2.1,()))<|
 A.ret _ (A.lit 14,x12.1,A.lit 0,A.lit 0,x12.q.1,x12.q.2.1,())
def QN (A:Alg) (x:Tup A.ah [.x .ins]):Ot A Es:=
 A.l1 .b (A.bl false) fun x0=>
 A.l1 .b (A.cmp .eql (A.fI .ins 0 x.1) (A.lit 0)) fun x1=>
 A.cond x1.1 (A.rb (A.ak (A.ak (A.cmp .eql (A.fI .ins 1 x.1) (A.lit 0)) (A.cmp .eql (A.fI .ins 2 x.1) (A.lit 0)) (A.bl false)) (A.cmp .leq (A.fI .ins 3 x.1) (A.lit 3)) (A.bl false)))<|
 A.l1 .b (A.cmp .eql (A.fI .ins 0 x.1) (A.lit 1)) fun x2=>
 A.cond x2.1 (A.rb (A.cmp .eql (A.fI .ins 2 x.1) (A.lit 0)))<|
 A.l1 .b (A.cmp .eql (A.fI .ins 0 x.1) (A.lit 2)) fun x3=>
 A.cond x3.1 (A.rb (A.cmp .eql (A.fI .ins 3 x.1) (A.lit 0)))<|
 A.l1 .b (A.cmp .eql (A.fI .ins 0 x.1) (A.lit 3)) fun x4=>
 A.bind [.i,.b,.x .ins] (A.cond x4.1 (A.ret _ (A.fI .ins 0 x.1,x4.1,x.1,()))<|
 A.l1 .b (A.cmp .eql (A.fI .ins 0 x.1) (A.lit 4)) fun x5=>
 A.bind [.i,.b,.x .ins] (A.cond x5.1 (A.ret _ (A.fI .ins 0 x.1,x5.1,x.1,()))<|
 A.l1 .b (A.cmp .eql (A.fI .ins 0 x.1) (A.lit 5)) fun x6=>
 A.bind [.i,.b,.x .ins] (A.cond x6.1 (A.ret _ (A.fI .ins 0 x.1,x6.1,x.1,()))<|
 A.l1 .b (A.cmp .eql (A.fI .ins 0 x.1) (A.lit 6)) fun x7=>
 A.bind [.i,.b,.x .ins] (A.cond x7.1 (A.ret _ (A.fI .ins 0 x.1,x7.1,x.1,()))<|
 A.l1 .b (A.cmp .eql (A.fI .ins 0 x.1) (A.lit 7)) fun x8=>
 A.ret _ (A.fI .ins 0 x.1,x8.1,x.1,())) fun x8=>
 A.ret _ (x8.1,x8.2.1,x8.2.2.1,())) fun x7=>
 A.ret _ (x7.1,x7.2.1,x7.2.2.1,())) fun x6=>
 A.ret _ (x6.1,x6.2.1,x6.2.2.1,())) fun x5=>
 A.cond x5.2.1 (A.rb (A.cmp .lss (A.fI .ins 3 x5.2.2.1) (A.lit 4)))<|
 A.l1 .b (A.cmp .eql x5.1 (A.lit 8)) fun x6=>
 A.cond x6.1 (A.rb (A.cmp .lss (A.fI .ins 3 x5.2.2.1) (A.lit 16)))<|
 A.l1 .b (A.cmp .eql x5.1 (A.lit 13)) fun x7=>
 A.cond x7.1 (A.rb (A.ak (A.cmp .eql (A.fI .ins 1 x5.2.2.1) (A.lit 0)) (A.cmp .eql (A.fI .ins 3 x5.2.2.1) (A.lit 0)) (A.bl false)))<|
 A.l1 .b (A.cmp .eql x5.1 (A.lit 14)) fun x8=>
 A.bind [.b,.x .ins] (A.cond x8.1 (A.ret _ (x8.1,x5.2.2.1,()))<|
 A.l1 .b (A.cmp .eql x5.1 (A.lit 15)) fun x9=>
 A.ret _ (x9.1,x5.2.2.1,())) fun x9=>
 A.cond x9.1 (A.rb (A.ak (A.cmp .eql (A.fI .ins 2 x9.2.1) (A.lit 0)) (A.cmp .eql (A.fI .ins 3 x9.2.1) (A.lit 0)) (A.bl false)))<|
 A.rb (A.bl true)
def QO (A:Alg) (fG:Pt A fF) (fH:Ft A fF) (aeR:Pt A Es) (aeS:Ft A Es) (x:Tup A.ah [.x .ins]):Ot A uj:=
 A.l1 .b (A.bl false) fun x0=>
 A.cl fG fH (A.fI .ins 0 x.1,A.lit 0,A.lit 15,()) fun x1=>
 A.cg x1.1 fG fH (A.fI .ins 1 x.1,A.lit 0,A.lit 3,()) fun x2=>
 A.cg (A.ak x1.1 x2.1 (A.bl false)) fG fH (A.fI .ins 2 x.1,A.lit 0,A.lit 3,()) fun x3=>
 A.cg (A.ak (A.ak x1.1 x2.1 (A.bl false)) x3.1 (A.bl false)) fG fH (A.fI .ins 3 x.1,A.lit 0,A.lit 255,()) fun x4=>
 A.cg (A.ak (A.ak (A.ak x1.1 x2.1 (A.bl false)) x3.1 (A.bl false)) x4.1 (A.bl false)) aeR aeS (x.1,()) fun x5=>
 A.rb (A.ak (A.ak (A.ak (A.ak x1.1 x2.1 (A.bl false)) x3.1 (A.bl false)) x4.1 (A.bl false)) x5.1 (A.bl false))
def QS (A:Alg) (x:Tup A.ah [.i]):Ot A um:=
 A.l1 .b (A.bl false) fun x0=>
 A.rb (A.ak (A.ak (A.cmp .eql x.1 (A.lit 11)) (A.bl true) (A.cmp .eql x.1 (A.lit 12))) (A.bl true) (A.cmp .eql x.1 (A.lit 13)))
def QT (A:Alg) (QU:Pt A um) (QV:Ft A um) (QW:Pt A uj) (QX:Ft A uj) (x:Tup A.ah [.x .ins]):Ot A uo:=
 A.l1 .b (A.bl false) fun x0=>
 A.cl QW QX (x.1,()) fun x1=>
 A.cg (A.ak x1.1 (A.cmp .neq (A.fI .ins 0 x.1) (A.lit 0)) (A.bl false)) QU QV (A.fI .ins 0 x.1,()) fun x2=>
 A.rb (A.ak (A.ak x1.1 (A.cmp .neq (A.fI .ins 0 x.1) (A.lit 0)) (A.bl false)) (A.aA x2.1) (A.bl false))
def QY (A:Alg) (aeT:Pt A Er) (aeU:Ft A Er) (aW:Pt A fE) (aX:Ft A fE) (QZ:Pt A uo) (Q0:Ft A uo) (x:Tup A.ah [.l .u8,.i]):Ot A Eu:=
 A.cl aeT aeU (x.1,x.2.1,()) fun x0=>
 A.cl QZ Q0 (A.mkX .ins (x0.1,x0.2.1,x0.2.2.1,x0.2.2.2.1,()),()) fun x1=>
 A.cond (A.aA x1.1) (A.cl aW aX (A.lit 4,x0.q.1,x0.q.2.1,()) fun x2=>
 A.ret _ (A.lit 3,x0.2.1,x0.2.2.1,x2.1,x2.2.1,x2.2.2.1,()))<|
 A.ret _ (x0.1,x0.2.1,x0.2.2.1,x0.2.2.2.1,x0.q.1,x0.q.2.1,())
def Q5 (A:Alg) (XA:Pt A Eu) (XB:Ft A Eu) (aW:Pt A fE) (aX:Ft A fE) (x:Tup A.ah [.l .u8,.i]):Ot A Ew:=
 A.l1 (.l .ins) (A.lst .ins []) fun x0=>
 A.cl aW aX (A.lit 8,x.1,x.2.1,()) fun x1=>
 A.l1 .i x1.1 fun x2=>
 A.iter [.i,.l .u8,.i,.l .ins] (fun x3=>
 A.cond (A.cmp .gtr x3.1 (A.lit 0)) (A.cl XA XB (x3.2.1,x3.2.2.1,()) fun x4=>
 A.l1 (.l .ins) (A.lst .ins [A.mkX .ins (x4.1,x4.2.1,x4.2.2.1,x4.2.2.2.1,())]) fun x5=>
 A.chk (A.cmp .leq (A.addN (A.len .ins x3.2.2.2.1) (A.len .ins x5.1)) (A.lit 1073741824))<|
 A.l1 (.l .ins) (A.app .ins x3.2.2.2.1 x5.1) fun x6=>
 A.l1 .i (A.arith .sub .i64 x3.1 (A.lit 1)) fun x7=>
 A.inl _ (x7.1,x4.q.1,x4.q.2.1,x6.1,()))<|
 A.inr _<|A.cl aW aX (A.lit 3,x3.2.1,x3.2.2.1,()) fun x4=>
 A.l1 .b (A.cmp .eql x4.1 (A.lit 0)) fun x5=>
 A.cond x5.1 (A.cl aW aX (A.lit 2,x4.2.1,x4.2.2.1,()) fun x6=>
 A.cl aW aX (A.lit 4,x6.2.1,x6.2.2.1,()) fun x7=>
 A.cl aW aX (A.lit 4,x7.2.1,x7.2.2.1,()) fun x8=>
 A.cl aW aX (A.lit 64,x8.2.1,x8.2.2.1,()) fun x9=>
 A.l1 (.l .ins) (A.lst .ins [A.mkX .ins (A.arith .add .i64 (A.lit 11) x6.1,x7.1,x8.1,x9.1,())]) fun x10=>
 A.chk (A.cmp .leq (A.addN (A.len .ins x3.2.2.2.1) (A.len .ins x10.1)) (A.lit 1073741824))<|
 A.l1 (.l .ins) (A.app .ins x3.2.2.2.1 x10.1) fun x11=>
 A.ret _ (x9.2.1,x9.2.2.1,x11.1,()))<|
 A.l1 .b (A.cmp .eql x4.1 (A.lit 1)) fun x6=>
 A.cond x6.1 (A.cl aW aX (A.lit 4,x4.2.1,x4.2.2.1,()) fun x7=>
 A.l1 (.l .ins) (A.lst .ins [A.mkX .ins (A.lit 13,A.lit 0,x7.1,A.lit 0,())]) fun x8=>
 A.chk (A.cmp .leq (A.addN (A.len .ins x3.2.2.2.1) (A.len .ins x8.1)) (A.lit 1073741824))<|
 A.l1 (.l .ins) (A.app .ins x3.2.2.2.1 x8.1) fun x9=>
 A.ret _ (x7.2.1,x7.2.2.1,x9.1,()))<|
 A.cl XA XB (x4.2.1,x4.2.2.1,()) fun x7=>
 A.l1 (.l .ins) (A.lst .ins [A.mkX .ins (x7.1,x7.2.1,x7.2.2.1,x7.2.2.2.1,())]) fun x8=>
 A.chk (A.cmp .leq (A.addN (A.len .ins x3.2.2.2.1) (A.len .ins x8.1)) (A.lit 1073741824))<|
 A.l1 (.l .ins) (A.app .ins x3.2.2.2.1 x8.1) fun x9=>
 A.ret _ (x7.q.1,x7.q.2.1,x9.1,())) (x2.1,x1.2.1,x1.2.2.1,x0.1,())
def Q6 (A:Alg) (QU:Pt A um) (QV:Ft A um) (QW:Pt A uj) (QX:Ft A uj) (fG:Pt A fF) (fH:Ft A fF) (QZ:Pt A uo) (Q0:Ft A uo) (x:Tup A.ah [.i,.l .ins]):Ot A Ey:=
 A.l1 .b (A.bl false) fun x0=>
 A.cl fG fH (A.len .ins x.2.1,A.lit 1,A.lit 8,()) fun x1=>
 A.cg (A.aA (A.aA x1.1)) fG fH (x.1,A.lit 0,A.arith .sub .i64 (A.lit 64) (A.len .ins x.2.1),()) fun x2=>
 A.cond (A.ak (A.aA x1.1) (A.bl true) (A.aA x2.1)) (A.rb (A.bl false))<|
 A.l1 .i (A.lit 0) fun x3=>
 A.iter [.l .ins,.i] (fun x4=>
 A.cond (A.cmp .lss x4.2.1 (A.len .ins x4.1)) (A.bd .ins x4.1 x4.2.1<|
 A.cl QZ Q0 (A.get .ins x4.1 x4.2.1,()) fun x5=>
 A.chk (A.orB (A.aA (A.mJ (A.aA x5.1) (A.aA (A.cmp .lss x4.2.1 (A.arith .sub .i64 (A.len .ins x4.1) (A.lit 1)))))) (A.cmp .leq (A.lit 0) x4.2.1))<|
 A.chk (A.orB (A.aA (A.mJ (A.aA x5.1) (A.aA (A.cmp .lss x4.2.1 (A.arith .sub .i64 (A.len .ins x4.1) (A.lit 1)))))) (A.cmp .lss x4.2.1 (A.len .ins x4.1)))<|
 A.cg (A.mJ (A.aA x5.1) (A.aA (A.cmp .lss x4.2.1 (A.arith .sub .i64 (A.len .ins x4.1) (A.lit 1))))) QW QX (A.get .ins x4.1 x4.2.1,()) fun x6=>
 A.chk (A.orB (A.aA (A.mJ (A.aA x5.1) (A.aA (A.ak (A.cmp .lss x4.2.1 (A.arith .sub .i64 (A.len .ins x4.1) (A.lit 1))) (A.bl true) (A.aA x6.1))))) (A.cmp .leq (A.lit 0) x4.2.1))<|
 A.chk (A.orB (A.aA (A.mJ (A.aA x5.1) (A.aA (A.ak (A.cmp .lss x4.2.1 (A.arith .sub .i64 (A.len .ins x4.1) (A.lit 1))) (A.bl true) (A.aA x6.1))))) (A.cmp .lss x4.2.1 (A.len .ins x4.1)))<|
 A.cg (A.mJ (A.aA x5.1) (A.aA (A.ak (A.cmp .lss x4.2.1 (A.arith .sub .i64 (A.len .ins x4.1) (A.lit 1))) (A.bl true) (A.aA x6.1)))) QU QV (A.fI .ins 0 (A.get .ins x4.1 x4.2.1),()) fun x7=>
 A.cond (A.ak (A.aA x5.1) (A.ak (A.ak (A.cmp .lss x4.2.1 (A.arith .sub .i64 (A.len .ins x4.1) (A.lit 1))) (A.bl true) (A.aA x6.1)) (A.bl true) (A.aA x7.1)) (A.bl false)) (A.l1 .b (A.bl false) fun x8=>
 A.inr _<|A.ret _ (x8.1,()))<|
 A.l1 .i (A.arith .add .i64 x4.2.1 (A.lit 1)) fun x8=>
 A.inl _ (x4.1,x8.1,()))<|
 A.inr _<|A.rb (A.bl true)) (x.2.1,x3.1,())
def Q7 (A:Alg) (x:Tup A.ah [.i,.i,.i,.i,.i,.i,.x .iop,.l .iop]):Ot A iF:=
 A.l1 .i (A.lit 0) fun x0=>
 A.l1 (.l .iop) (A.lst .iop [x.q.2.2.1]) fun x1=>
 A.chk (A.cmp .leq (A.addN (A.len .iop x.q.2.2.2.1) (A.len .iop x1.1)) (A.lit 1073741824))<|
 A.l1 (.l .iop) (A.app .iop x.q.2.2.2.1 x1.1) fun x2=>
 A.l1 .i (A.arith .sub .i64 (A.len .iop x2.1) (A.lit 1)) fun x3=>
 A.ret _ (x.1,x.2.1,x.2.2.1,x.2.2.2.1,x.q.1,x.q.2.1,x3.1,x2.1,())
def Q8 (A:Alg) (j6:Pt A iF) (kg:Ft A iF) (x:Tup A.ah [.i,.i,.i,.i,.i,.i,.i,.i,.l .iop]):Ot A uw:=
 A.cl j6 kg (x.1,x.2.1,x.2.2.1,x.2.2.2.1,x.q.1,x.q.2.1,A.mkX .iop (A.lit 8,x.q.2.2.2.1,A.lit 0,x.q.2.2.1,A.lit 0,()),x.o.1,()) fun x0=>
 A.l1 .i x0.q.2.2.1 fun x1=>
 A.ret _ (x0.1,x0.2.1,x0.2.2.1,x0.2.2.2.1,x0.q.1,x0.q.2.1,x0.q.2.2.2.1,())
def Q9 (A:Alg) (j6:Pt A iF) (kg:Ft A iF) (x:Tup A.ah [.i,.i,.i,.i,.i,.i,.i,.l .iop]):Ot A jK:=
 A.l1 .i (A.lit 0) fun x0=>
 A.cl j6 kg (x.1,x.2.1,x.2.2.1,x.2.2.2.1,x.q.1,x.q.2.1,A.mkX .iop (A.lit 2,A.lit 0,A.lit 0,x.q.2.2.1,A.lit 0,()),x.q.2.2.2.1,()) fun x1=>
 A.l1 .i x1.q.2.2.1 fun x2=>
 A.ret _ (x1.1,x1.2.1,x1.2.2.1,x1.2.2.2.1,x1.q.1,x1.q.2.1,x2.1,x1.q.2.2.2.1,())
def Ra (A:Alg) (oU:Pt A jK) (oV:Ft A jK) (j6:Pt A iF) (kg:Ft A iF) (x:Tup A.ah [.i,.i,.i,.i,.i,.i,.i,.i,.x .iop,.l .iop]):Ot A uz:=
 A.l1 .i (A.lit 0) fun x0=>
 A.cl oU oV (x.1,x.2.1,x.2.2.1,x.2.2.2.1,x.q.1,x.q.2.1,x.q.2.2.2.1,x.o.2.1,()) fun x1=>
 A.l1 .i x1.q.2.2.1 fun x2=>
 A.cl j6 kg (x1.1,x1.2.1,x1.2.2.1,x1.2.2.2.1,x1.q.1,x1.q.2.1,x.o.1,x1.q.2.2.2.1,()) fun x3=>
 A.l1 .i x3.q.2.2.1 fun x4=>
 A.cl j6 kg (x3.1,x3.2.1,x3.2.2.1,x3.2.2.2.1,x3.q.1,x3.q.2.1,A.mkX .iop (A.lit 3,x2.1,x4.1,x.q.2.2.1,A.lit 0,()),x3.q.2.2.2.1,()) fun x5=>
 A.l1 .i x5.q.2.2.1 fun x6=>
 A.ret _ (x5.1,x5.2.1,x5.2.2.1,x5.2.2.2.1,x5.q.1,x5.q.2.1,x6.1,x5.q.2.2.2.1,())
def Rb (A:Alg) (x:Tup A.ah [.i]):Ot A Ez:=
 A.l1 .i (A.lit 0) fun x0=>
 A.l1 .i (A.lit 1) fun x1=>
 A.l1 .i (A.lit 0) fun x2=>
 A.iter [.i,.i,.i] (fun x3=>
 A.cond (A.cmp .lss x3.2.2.1 x3.1) (A.l1 .i (A.arith .add .i64 x3.2.1 x3.2.1) fun x4=>
 A.l1 .i (A.arith .add .i64 x3.2.2.1 (A.lit 1)) fun x5=>
 A.inl _ (x3.1,x4.1,x5.1,()))<|
 A.inr _<|A.l1 .i x3.2.1 fun x4=>
 A.ret _ (x4.1,())) (x.1,x1.1,x2.1,())
def Rc (A:Alg) (oU:Pt A jK) (oV:Ft A jK) (j6:Pt A iF) (kg:Ft A iF) (Kn:Pt A uz) (Ko:Ft A uz) (yC:Pt A uw) (yD:Ft A uw) (x:Tup A.ah [.i,.i,.i,.i,.i,.i,.x .ins,.i,.l .iop]):Ot A EA:=
 A.cl Kn Ko (x.1,x.2.1,x.2.2.1,x.2.2.2.1,x.q.1,x.q.2.1,A.lit 1,A.fI .ins 2 x.q.2.2.1,A.mkX .iop (A.lit 1,A.lit 0,A.lit 0,A.fI .ins 3 x.q.2.2.1,A.lit 0,()),x.o.1,()) fun x0=>
 A.l1 .i x0.q.2.2.1 fun x1=>
 A.cond (A.cmp .eql (A.fI .ins 0 x.q.2.2.1) (A.lit 9)) (A.cl j6 kg (x0.1,x0.2.1,x0.2.2.1,x0.2.2.2.1,x0.q.1,x0.q.2.1,A.mkX .iop (A.lit 4,x1.1,A.lit 0,A.lit 0,x.q.2.2.2.1,()),x0.q.2.2.2.1,()) fun x2=>
 A.l1 .i x2.q.2.2.1 fun x3=>
 A.cl yC yD (x2.1,x2.2.1,x2.2.2.1,x2.2.2.2.1,x2.q.1,x2.q.2.1,A.fI .ins 1 x.q.2.2.1,x3.1,x2.q.2.2.2.1,()) fun x4=>
 A.ret _ (x4.1,x4.2.1,x4.2.2.1,x4.2.2.2.1,x4.q.1,x4.q.2.1,x4.q.2.2.1,()))<|
 A.cl oU oV (x0.1,x0.2.1,x0.2.2.1,x0.2.2.2.1,x0.q.1,x0.q.2.1,A.fI .ins 1 x.q.2.2.1,x0.q.2.2.2.1,()) fun x2=>
 A.l1 .i x2.q.2.2.1 fun x3=>
 A.cl j6 kg (x2.1,x2.2.1,x2.2.2.1,x2.2.2.2.1,x2.q.1,x2.q.2.1,A.mkX .iop (A.lit 5,x1.1,x3.1,A.lit 0,x.q.2.2.2.1,()),x2.q.2.2.2.1,()) fun x4=>
 A.l1 .i x4.q.2.2.1 fun x5=>
 A.ret _ (x4.1,x4.2.1,x4.2.2.1,x4.2.2.2.1,x4.q.1,x4.q.2.1,x4.q.2.2.2.1,())
def Rf (A:Alg) (oU:Pt A jK) (oV:Ft A jK) (x:Tup A.ah [.i,.i,.i,.i,.i,.i,.x .ins,.l .iop]):Ot A EB:=
 A.cond (A.cmp .eql (A.fI .ins 0 x.q.2.2.1) (A.lit 13)) (A.cl oU oV (x.1,x.2.1,x.2.2.1,x.2.2.2.1,x.q.1,x.q.2.1,A.fI .ins 2 x.q.2.2.1,x.q.2.2.2.1,()) fun x0=>
 A.l1 .i x0.q.2.2.1 fun x1=>
 A.l1 .i (A.lit 2) fun x2=>
 A.l1 .i x1.1 fun x3=>
 A.l1 .i (A.lit 0) fun x4=>
 A.ret _ (x0.1,x0.2.1,x2.1,x3.1,x0.q.1,x4.1,x0.q.2.2.2.1,()))<|
 A.cl oU oV (x.1,x.2.1,x.2.2.1,x.2.2.2.1,x.q.1,x.q.2.1,A.fI .ins 1 x.q.2.2.1,x.q.2.2.2.1,()) fun x0=>
 A.l1 .i x0.q.2.2.1 fun x1=>
 A.cl oU oV (x0.1,x0.2.1,x0.2.2.1,x0.2.2.2.1,x0.q.1,x0.q.2.1,A.fI .ins 2 x.q.2.2.1,x0.q.2.2.2.1,()) fun x2=>
 A.l1 .i x2.q.2.2.1 fun x3=>
 A.l1 .i (A.lit 3) fun x4=>
 A.bind [.i,.i,.x .ins,.i,.i,.i,.i,.i,.i,.i,.i,.i,.i,.i,.i,.l .iop] (A.cond (A.cmp .eql (A.fI .ins 0 x.q.2.2.1) (A.lit 12)) (A.l1 .i (A.lit 4) fun x5=>
 A.ret _ (x1.1,x3.1,x.q.2.2.1,A.lit 0,A.lit 0,A.lit 0,A.lit 0,A.lit 0,A.lit 0,x2.1,x2.2.1,x5.1,x2.2.2.2.1,x2.q.1,x2.q.2.1,x2.q.2.2.2.1,()))<|
 A.ret _ (x1.1,x3.1,x.q.2.2.1,A.lit 0,A.lit 0,A.lit 0,A.lit 0,A.lit 0,A.lit 0,x2.1,x2.2.1,x4.1,x2.2.2.2.1,x2.q.1,x2.q.2.1,x2.q.2.2.2.1,())) fun x5=>
 A.l1 .i x5.1 fun x6=>
 A.l1 .i x5.2.1 fun x7=>
 A.l1 .i (A.fI .ins 3 x5.2.2.1) fun x8=>
 A.ret _ (x5.o.2.1,x5.o.2.2.1,x5.o.2.2.2.1,x6.1,x7.1,x8.1,x5.o.q.2.2.2.1,())
def Rh (A:Alg) (oU:Pt A jK) (oV:Ft A jK) (aeV:Pt A EB) (aeW:Ft A EB) (j6:Pt A iF) (kg:Ft A iF) (aeX:Pt A EA) (aeY:Ft A EA) (Kn:Pt A uz) (Ko:Ft A uz) (yC:Pt A uw) (yD:Ft A uw) (aeZ:Pt A Ez) (ae0:Ft A Ez) (x:Tup A.ah [.i,.i,.i,.i,.i,.i,.x .ins,.i,.l .iop]):Ot A EC:=
 A.l1 .b (A.cmp .eql (A.fI .ins 0 x.q.2.2.1) (A.lit 1)) fun x0=>
 A.cond x0.1 (A.cl j6 kg (x.1,x.2.1,x.2.2.1,x.2.2.2.1,x.q.1,x.q.2.1,A.mkX .iop (A.lit 1,A.lit 0,A.lit 0,A.fI .ins 3 x.q.2.2.1,A.lit 0,()),x.o.1,()) fun x1=>
 A.l1 .i x1.q.2.2.1 fun x2=>
 A.cl yC yD (x1.1,x1.2.1,x1.2.2.1,x1.2.2.2.1,x1.q.1,x1.q.2.1,A.fI .ins 1 x.q.2.2.1,x2.1,x1.q.2.2.2.1,()) fun x3=>
 A.ret _ (x3.1,x3.2.1,x3.2.2.1,x3.2.2.2.1,x3.q.1,x3.q.2.1,x3.q.2.2.1,()))<|
 A.l1 .b (A.cmp .eql (A.fI .ins 0 x.q.2.2.1) (A.lit 2)) fun x1=>
 A.cond x1.1 (A.cl oU oV (x.1,x.2.1,x.2.2.1,x.2.2.2.1,x.q.1,x.q.2.1,A.fI .ins 2 x.q.2.2.1,x.o.1,()) fun x2=>
 A.l1 .i x2.q.2.2.1 fun x3=>
 A.cl yC yD (x2.1,x2.2.1,x2.2.2.1,x2.2.2.2.1,x2.q.1,x2.q.2.1,A.fI .ins 1 x.q.2.2.1,x3.1,x2.q.2.2.2.1,()) fun x4=>
 A.ret _ (x4.1,x4.2.1,x4.2.2.1,x4.2.2.2.1,x4.q.1,x4.q.2.1,x4.q.2.2.1,()))<|
 A.l1 .b (A.cmp .eql (A.fI .ins 0 x.q.2.2.1) (A.lit 8)) fun x2=>
 A.cond x2.1 (A.cl aeZ ae0 (A.fI .ins 3 x.q.2.2.1,()) fun x3=>
 A.cl Kn Ko (x.1,x.2.1,x.2.2.1,x.2.2.2.1,x.q.1,x.q.2.1,A.lit 3,A.fI .ins 2 x.q.2.2.1,A.mkX .iop (A.lit 1,A.lit 0,A.lit 0,x3.1,A.lit 0,()),x.o.1,()) fun x4=>
 A.l1 .i x4.q.2.2.1 fun x5=>
 A.cl yC yD (x4.1,x4.2.1,x4.2.2.1,x4.2.2.2.1,x4.q.1,x4.q.2.1,A.fI .ins 1 x.q.2.2.1,x5.1,x4.q.2.2.2.1,()) fun x6=>
 A.ret _ (x6.1,x6.2.1,x6.2.2.1,x6.2.2.2.1,x6.q.1,x6.q.2.1,x6.q.2.2.1,()))<|
 A.l1 .b (A.cmp .eql (A.fI .ins 0 x.q.2.2.1) (A.lit 9)) fun x3=>
 A.bind [.i,.i,.b,.l .iop,.i,.i,.i,.i,.i,.i,.x .ins,.i,.i,.i,.i,.i,.i] (A.cond x3.1 (A.ret _ (x.q.2.2.2.1,A.fI .ins 0 x.q.2.2.1,x3.1,x.o.1,x.1,x.2.1,x.2.2.1,x.2.2.2.1,x.q.1,x.q.2.1,x.q.2.2.1,A.lit 0,A.lit 0,A.lit 0,A.lit 0,A.lit 0,A.lit 0,()))<|
 A.l1 .b (A.cmp .eql (A.fI .ins 0 x.q.2.2.1) (A.lit 10)) fun x4=>
 A.ret _ (x.q.2.2.2.1,A.fI .ins 0 x.q.2.2.1,x4.1,x.o.1,x.1,x.2.1,x.2.2.1,x.2.2.2.1,x.q.1,x.q.2.1,x.q.2.2.1,A.lit 0,A.lit 0,A.lit 0,A.lit 0,A.lit 0,A.lit 0,())) fun x4=>
 A.cond x4.2.2.1 (A.cl aeX aeY (x4.q.1,x4.q.2.1,x4.q.2.2.1,x4.q.2.2.2.1,x4.o.1,x4.o.2.1,x4.o.2.2.1,x4.1,x4.2.2.2.1,()) fun x5=>
 A.ret _ (x5.1,x5.2.1,x5.2.2.1,x5.2.2.2.1,x5.q.1,x5.q.2.1,x5.q.2.2.1,()))<|
 A.l1 .b (A.cmp .eql x4.2.1 (A.lit 14)) fun x5=>
 A.cond x5.1 (A.cl oU oV (x4.q.1,x4.q.2.1,x4.q.2.2.1,x4.q.2.2.2.1,x4.o.1,x4.o.2.1,A.fI .ins 1 x4.o.2.2.1,x4.2.2.2.1,()) fun x6=>
 A.l1 .i x6.q.2.2.1 fun x7=>
 A.cl j6 kg (x6.1,x6.2.1,x6.2.2.1,x6.2.2.2.1,x6.q.1,x6.q.2.1,A.mkX .iop (A.lit 7,x7.1,A.lit 0,A.lit 0,x4.1,()),x6.q.2.2.2.1,()) fun x8=>
 A.l1 .i x8.q.2.2.1 fun x9=>
 A.ret _ (x8.1,x8.2.1,x8.2.2.1,x8.2.2.2.1,x8.q.1,x8.q.2.1,x8.q.2.2.2.1,()))<|
 A.l1 .b (A.cmp .eql x4.2.1 (A.lit 15)) fun x6=>
 A.cond x6.1 (A.cl j6 kg (x4.q.1,x4.q.2.1,x4.q.2.2.1,x4.q.2.2.2.1,x4.o.1,x4.o.2.1,A.mkX .iop (A.lit 6,A.lit 0,A.lit 0,A.lit 0,x4.1,()),x4.2.2.2.1,()) fun x7=>
 A.l1 .i x7.q.2.2.1 fun x8=>
 A.cl yC yD (x7.1,x7.2.1,x7.2.2.1,x7.2.2.2.1,x7.q.1,x7.q.2.1,A.fI .ins 1 x4.o.2.2.1,x8.1,x7.q.2.2.2.1,()) fun x9=>
 A.ret _ (x9.1,x9.2.1,x9.2.2.1,x9.2.2.2.1,x9.q.1,x9.q.2.1,x9.q.2.2.1,()))<|
 A.l1 .b (A.cmp .eql x4.2.1 (A.lit 11)) fun x7=>
 A.bind [.b,.l .iop,.i,.i,.i,.i,.i,.i,.x .ins,.i,.i,.i,.i,.i,.i] (A.cond x7.1 (A.ret _ (x7.1,x4.2.2.2.1,x4.q.1,x4.q.2.1,x4.q.2.2.1,x4.q.2.2.2.1,x4.o.1,x4.o.2.1,x4.o.2.2.1,x4.o.2.2.2.1,x4.o.q.1,x4.o.q.2.1,x4.o.q.2.2.1,x4.o.q.2.2.2.1,x4.o.o.1,()))<|
 A.l1 .b (A.cmp .eql x4.2.1 (A.lit 12)) fun x8=>
 A.bind [.b,.l .iop,.i,.i,.i,.i,.i,.i,.x .ins,.i,.i,.i,.i,.i,.i] (A.cond x8.1 (A.ret _ (x8.1,x4.2.2.2.1,x4.q.1,x4.q.2.1,x4.q.2.2.1,x4.q.2.2.2.1,x4.o.1,x4.o.2.1,x4.o.2.2.1,x4.o.2.2.2.1,x4.o.q.1,x4.o.q.2.1,x4.o.q.2.2.1,x4.o.q.2.2.2.1,x4.o.o.1,()))<|
 A.l1 .b (A.cmp .eql x4.2.1 (A.lit 13)) fun x9=>
 A.ret _ (x9.1,x4.2.2.2.1,x4.q.1,x4.q.2.1,x4.q.2.2.1,x4.q.2.2.2.1,x4.o.1,x4.o.2.1,x4.o.2.2.1,x4.o.2.2.2.1,x4.o.q.1,x4.o.q.2.1,x4.o.q.2.2.1,x4.o.q.2.2.2.1,x4.o.o.1,())) fun x9=>
 A.ret _ (x9.1,x9.2.1,x9.2.2.1,x9.2.2.2.1,x9.q.1,x9.q.2.1,x9.q.2.2.1,x9.q.2.2.2.1,x9.o.1,x9.o.2.1,x9.o.2.2.1,x9.o.2.2.2.1,x9.o.q.1,x9.o.q.2.1,x9.o.q.2.2.1,())) fun x8=>
 A.cond x8.1 (A.cl aeV aeW (x8.2.2.1,x8.2.2.2.1,x8.q.1,x8.q.2.1,x8.q.2.2.1,x8.q.2.2.2.1,x8.o.1,x8.2.1,()) fun x9=>
 A.ret _ (x9.1,x9.2.1,x9.2.2.1,x9.2.2.2.1,x9.q.1,x9.q.2.1,x9.q.2.2.1,()))<|
 A.cl Kn Ko (x8.2.2.1,x8.2.2.2.1,x8.q.1,x8.q.2.1,x8.q.2.2.1,x8.q.2.2.2.1,A.arith .add .i64 (A.arith .sub .i64 (A.fI .ins 0 x8.o.1) (A.lit 3)) (A.lit 1),A.fI .ins 2 x8.o.1,A.mkX .iop (A.lit 2,A.lit 0,A.lit 0,A.fI .ins 3 x8.o.1,A.lit 0,()),x8.2.1,()) fun x9=>
 A.l1 .i x9.q.2.2.1 fun x10=>
 A.cl yC yD (x9.1,x9.2.1,x9.2.2.1,x9.2.2.2.1,x9.q.1,x9.q.2.1,A.fI .ins 1 x8.o.1,x10.1,x9.q.2.2.2.1,()) fun x11=>
 A.ret _ (x11.1,x11.2.1,x11.2.2.1,x11.2.2.2.1,x11.q.1,x11.q.2.1,x11.q.2.2.1,())
def Ri (A:Alg) (ae1:Pt A Ey) (ae2:Ft A Ey) (ae3:Pt A EC) (ae4:Ft A EC) (x:Tup A.ah [.i,.l .ins]):Ot A ED:=
 A.cl ae1 ae2 (x.1,x.2.1,()) fun x0=>
 A.cond (A.aA x0.1) (A.ret _ (A.lit 0,A.lit 0,A.lit 0,A.lit 0,A.lit 0,A.lit 0,A.bN .iop,()))<|
 A.l1 .i (A.lit 0) fun x1=>
 A.iter [.l .ins,.i,.i,.i,.i,.i,.i,.i,.i,.i,.i,.i,.i,.i,.l .iop] (fun x2=>
 A.cond (A.cmp .lss x2.2.1 (A.len .ins x2.1)) (A.bd .ins x2.1 x2.2.1<|
 A.cl ae3 ae4 (x2.o.1,x2.o.2.1,x2.o.2.2.1,x2.o.2.2.2.1,x2.o.q.1,x2.o.q.2.1,A.get .ins x2.1 x2.2.1,x2.2.1,x2.o.q.2.2.1,()) fun x3=>
 A.l1 .i (A.arith .add .i64 x2.2.1 (A.lit 1)) fun x4=>
 A.inl _ (x2.1,x4.1,x2.2.2.1,x2.2.2.2.1,x2.q.1,x2.q.2.1,x2.q.2.2.1,x2.q.2.2.2.1,x3.1,x3.2.1,x3.2.2.1,x3.2.2.2.1,x3.q.1,x3.q.2.1,x3.q.2.2.1,()))<|
 A.inr _<|A.ret _ (x2.o.1,x2.o.2.1,x2.o.2.2.1,x2.o.2.2.2.1,x2.o.q.1,x2.o.q.2.1,x2.o.q.2.2.1,())) (x.2.1,x1.1,A.lit 0,A.lit 0,A.lit 0,A.lit 0,A.lit 0,A.lit 0,x.1,A.len .ins x.2.1,A.lit 1,A.lit 0,A.lit 0,A.arith .add .i64 x.1 (A.len .ins x.2.1),A.bN .iop,())
def Rj (A:Alg) (ae5:Pt A ED) (ae6:Ft A ED) (ae7:Pt A Ep) (ae8:Ft A Ep) (QK:Pt A uf) (QL:Ft A uf) (aW:Pt A fE) (aX:Ft A fE) (ae9:Pt A Ew) (afa:Ft A Ew) (x:Tup A.ah [.l .u8,.i]):Ot A EF:=
 A.cl ae9 afa (x.1,x.2.1,()) fun x0=>
 A.cl aW aX (A.lit 50,x0.1,x0.2.1,()) fun x1=>
 A.l1 (.l .i64) (A.lst .i64 [A.mkX .i64 (A.lit 0,()),A.mkX .i64 (A.lit 1,()),A.mkX .i64 (x1.1,()),A.mkX .i64 (A.arith .sub .i64 (A.lit 64) (A.len .ins x0.2.2.1),())]) fun x2=>
 A.cl aW aX (A.lit 4,x1.2.1,x1.2.2.1,()) fun x3=>
 A.bd .i64 x2.1 x3.1<|
 A.bd .i64 x2.1 x3.1<|
 A.cl ae5 ae6 (A.fI .i64 0 (A.get .i64 x2.1 x3.1),x0.2.2.1,()) fun x4=>
 A.cl aW aX (A.lit 5,x3.2.1,x3.2.2.1,()) fun x5=>
 A.l1 .b (A.cmp .eql x5.1 (A.lit 0)) fun x6=>
 A.cond x6.1 (A.cl ae7 ae8 (A.mkX .blk (x4.1,x4.2.1,x4.q.2.2.1,x4.2.2.1,x4.2.2.2.1,x4.q.1,x4.q.2.1,()),()) fun x7=>
 A.ret _ (x7.1,x7.2.1,x7.2.2.1,x7.2.2.2.1,x7.q.1,x7.q.2.1,x5.2.1,x5.2.2.1,x7.q.2.2.1,()))<|
 A.l1 .b (A.cmp .eql x5.1 (A.lit 1)) fun x7=>
 A.cond x7.1 (A.cl QK QL (A.mkX .blk (x4.1,x4.2.1,x4.q.2.2.1,x4.2.2.1,x4.2.2.2.1,x4.q.1,x4.q.2.1,()),()) fun x8=>
 A.ret _ (x8.1,x8.2.1,x8.2.2.1,x8.2.2.2.1,x8.q.1,x8.q.2.1,x5.2.1,x5.2.2.1,x8.q.2.2.1,()))<|
 A.ret _ (x4.1,x4.2.1,x4.2.2.1,x4.2.2.2.1,x4.q.1,x4.q.2.1,x5.2.1,x5.2.2.1,x4.q.2.2.1,())
def Kq (A:Alg) (aW:Pt A fE) (aX:Ft A fE) (Fy:Pt A mR) (Fz:Ft A mR) (x:Tup A.ah [.x .blk,.l .u8,.i]):Ot A EG:=
 A.cl Fy Fz (x.1,()) fun x0=>
 A.cond (A.cmp .eql (A.len .iop x0.q.2.2.1) (A.lit 0)) (A.l1 .i (A.arith .add .i64 x0.q.2.1 (A.lit 1)) fun x1=>
 A.ret _ (x0.1,x0.2.1,x0.2.2.1,x0.2.2.2.1,x0.q.1,x1.1,x.2.1,x.2.2.1,x0.q.2.2.1,()))<|
 A.cl aW aX (A.len .iop x0.q.2.2.1,x.2.1,x.2.2.1,()) fun x1=>
 A.l1 .i x1.1 fun x2=>
 A.cl aW aX (A.lit 9,x1.2.1,x1.2.2.1,()) fun x3=>
 A.l1 .b (A.cmp .eql x3.1 (A.lit 0)) fun x4=>
 A.bind [.l .u8,.i,.i,.i,.i,.i,.i,.i,.i,.i,.i,.i,.i,.i,.l .iop] (A.cond x4.1 (A.bd .iop x0.q.2.2.1 x2.1<|
 A.bd .iop x0.q.2.2.1 x2.1<|
 A.bd .iop x0.q.2.2.1 x2.1<|
 A.bd .iop x0.q.2.2.1 x2.1<|
 A.l1 .i (A.arith .add .i64 (A.fI .iop 3 (A.get .iop x0.q.2.2.1 x2.1)) (A.lit 1)) fun x5=>
 A.ret _ (x3.2.1,x3.2.2.1,A.lit 0,A.lit 0,A.lit 0,A.lit 0,A.lit 0,A.lit 0,x0.1,x0.2.1,x0.2.2.1,x0.2.2.2.1,x0.q.1,x0.q.2.1,A.set .iop x0.q.2.2.1 x2.1 (A.mkX .iop (A.fI .iop 0 (A.get .iop x0.q.2.2.1 x2.1),A.fI .iop 1 (A.get .iop x0.q.2.2.1 x2.1),A.fI .iop 2 (A.get .iop x0.q.2.2.1 x2.1),x5.1,A.fI .iop 4 (A.get .iop x0.q.2.2.1 x2.1),())),()))<|
 A.l1 .b (A.cmp .eql x3.1 (A.lit 1)) fun x5=>
 A.bind [.l .u8,.i,.i,.i,.i,.i,.i,.i,.i,.i,.i,.i,.i,.i,.l .iop] (A.cond x5.1 (A.cl aW aX (A.arith .add .i64 x2.1 (A.lit 1),x3.2.1,x3.2.2.1,()) fun x6=>
 A.bd .iop x0.q.2.2.1 x2.1<|
 A.bd .iop x0.q.2.2.1 x2.1<|
 A.l1 .i x6.1 fun x7=>
 A.ret _ (x6.2.1,x6.2.2.1,A.lit 0,A.lit 0,A.lit 0,A.lit 0,A.lit 0,A.lit 0,x0.1,x0.2.1,x0.2.2.1,x0.2.2.2.1,x0.q.1,x0.q.2.1,A.set .iop x0.q.2.2.1 x2.1 (A.mkX .iop (A.fI .iop 0 (A.get .iop x0.q.2.2.1 x2.1),x7.1,A.fI .iop 2 (A.get .iop x0.q.2.2.1 x2.1),A.fI .iop 3 (A.get .iop x0.q.2.2.1 x2.1),A.fI .iop 4 (A.get .iop x0.q.2.2.1 x2.1),())),()))<|
 A.l1 .b (A.cmp .eql x3.1 (A.lit 2)) fun x6=>
 A.bind [.l .u8,.i,.i,.i,.i,.i,.i,.i,.i,.i,.i,.i,.i,.i,.l .iop] (A.cond x6.1 (A.cl aW aX (A.arith .add .i64 x2.1 (A.lit 1),x3.2.1,x3.2.2.1,()) fun x7=>
 A.bd .iop x0.q.2.2.1 x2.1<|
 A.bd .iop x0.q.2.2.1 x2.1<|
 A.l1 .i x7.1 fun x8=>
 A.ret _ (x7.2.1,x7.2.2.1,A.lit 0,A.lit 0,A.lit 0,A.lit 0,A.lit 0,A.lit 0,x0.1,x0.2.1,x0.2.2.1,x0.2.2.2.1,x0.q.1,x0.q.2.1,A.set .iop x0.q.2.2.1 x2.1 (A.mkX .iop (A.fI .iop 0 (A.get .iop x0.q.2.2.1 x2.1),A.fI .iop 1 (A.get .iop x0.q.2.2.1 x2.1),x8.1,A.fI .iop 3 (A.get .iop x0.q.2.2.1 x2.1),A.fI .iop 4 (A.get .iop x0.q.2.2.1 x2.1),())),()))<|
 A.l1 .b (A.cmp .eql x3.1 (A.lit 3)) fun x7=>
 A.bind [.l .u8,.i,.i,.i,.i,.i,.i,.i,.i,.i,.i,.i,.i,.i,.l .iop] (A.cond x7.1 (A.cl aW aX (A.arith .add .i64 x0.2.1 (A.lit 1),x3.2.1,x3.2.2.1,()) fun x8=>
 A.bd .iop x0.q.2.2.1 x2.1<|
 A.bd .iop x0.q.2.2.1 x2.1<|
 A.l1 .i x8.1 fun x9=>
 A.ret _ (x8.2.1,x8.2.2.1,A.lit 0,A.lit 0,A.lit 0,A.lit 0,A.lit 0,A.lit 0,x0.1,x0.2.1,x0.2.2.1,x0.2.2.2.1,x0.q.1,x0.q.2.1,A.set .iop x0.q.2.2.1 x2.1 (A.mkX .iop (A.fI .iop 0 (A.get .iop x0.q.2.2.1 x2.1),A.fI .iop 1 (A.get .iop x0.q.2.2.1 x2.1),A.fI .iop 2 (A.get .iop x0.q.2.2.1 x2.1),A.fI .iop 3 (A.get .iop x0.q.2.2.1 x2.1),x9.1,())),()))<|
 A.l1 .b (A.cmp .eql x3.1 (A.lit 4)) fun x8=>
 A.bind [.l .u8,.i,.i,.i,.i,.i,.i,.i,.i,.i,.i,.i,.i,.i,.l .iop] (A.cond x8.1 (A.cl aW aX (A.lit 66,x3.2.1,x3.2.2.1,()) fun x9=>
 A.l1 .i x9.1 fun x10=>
 A.ret _ (x9.2.1,x9.2.2.1,A.lit 0,A.lit 0,A.lit 0,A.lit 0,A.lit 0,A.lit 0,x0.1,x0.2.1,x0.2.2.1,x0.2.2.2.1,x0.q.1,x10.1,x0.q.2.2.1,()))<|
 A.l1 .b (A.cmp .eql x3.1 (A.lit 5)) fun x9=>
 A.bind [.l .u8,.i,.i,.i,.i,.i,.i,.i,.i,.i,.i,.i,.i,.i,.l .iop] (A.cond x9.1 (A.cl aW aX (A.lit 4,x3.2.1,x3.2.2.1,()) fun x10=>
 A.l1 .i (A.arith .add .i64 (A.lit 1) x10.1) fun x11=>
 A.ret _ (x10.2.1,x10.2.2.1,A.lit 0,A.lit 0,A.lit 0,A.lit 0,A.lit 0,A.lit 0,x0.1,x0.2.1,x11.1,x0.2.2.2.1,x0.q.1,x0.q.2.1,x0.q.2.2.1,()))<|
 A.l1 .b (A.cmp .eql x3.1 (A.lit 6)) fun x10=>
 A.bind [.l .u8,.i,.i,.i,.i,.i,.i,.i,.i,.i,.i,.i,.i,.i,.l .iop] (A.cond x10.1 (A.bind [.l .u8,.i,.i,.i,.i,.i,.i,.i,.i,.i,.i,.i,.i,.i,.l .iop] (A.cond (A.cmp .gtr x2.1 (A.lit 0)) (A.bd .iop x0.q.2.2.1 x2.1<|
 A.bd .iop x0.q.2.2.1 x2.1<|
 A.l1 (.x .iop) (A.get .iop x0.q.2.2.1 x2.1) fun x11=>
 A.bd .iop x0.q.2.2.1 (A.arith .sub .i64 x2.1 (A.lit 1))<|
 A.bd .iop x0.q.2.2.1 (A.arith .sub .i64 x2.1 (A.lit 1))<|
 A.bd .iop x0.q.2.2.1 x2.1<|
 A.bd .iop x0.q.2.2.1 x2.1<|
 A.l1 (.x .iop) (A.get .iop x0.q.2.2.1 (A.arith .sub .i64 x2.1 (A.lit 1))) fun x12=>
 A.bd .iop (A.set .iop x0.q.2.2.1 x2.1 x12.1) (A.arith .sub .i64 x2.1 (A.lit 1))<|
 A.bd .iop (A.set .iop x0.q.2.2.1 x2.1 x12.1) (A.arith .sub .i64 x2.1 (A.lit 1))<|
 A.l1 (.x .iop) x11.1 fun x13=>
 A.ret _ (x3.2.1,x3.2.2.1,A.lit 0,A.lit 0,A.lit 0,A.lit 0,A.lit 0,A.lit 0,x0.1,x0.2.1,x0.2.2.1,x0.2.2.2.1,x0.q.1,x0.q.2.1,A.set .iop (A.set .iop x0.q.2.2.1 x2.1 x12.1) (A.arith .sub .i64 x2.1 (A.lit 1)) x13.1,()))<|
 A.ret _ (x3.2.1,x3.2.2.1,A.lit 0,A.lit 0,A.lit 0,A.lit 0,A.lit 0,A.lit 0,x0.1,x0.2.1,x0.2.2.1,x0.2.2.2.1,x0.q.1,x0.q.2.1,x0.q.2.2.1,())) fun x11=>
 A.ret _ (x11.1,x11.2.1,x11.2.2.1,x11.2.2.2.1,x11.q.1,x11.q.2.1,x11.q.2.2.1,x11.q.2.2.2.1,x11.o.1,x11.o.2.1,x11.o.2.2.1,x11.o.2.2.2.1,x11.o.q.1,x11.o.q.2.1,x11.o.q.2.2.1,()))<|
 A.l1 .b (A.cmp .eql x3.1 (A.lit 7)) fun x11=>
 A.bind [.l .u8,.i,.i,.i,.i,.i,.i,.i,.i,.i,.i,.i,.i,.i,.l .iop] (A.cond x11.1 (A.cl aW aX (A.lit 3,x3.2.1,x3.2.2.1,()) fun x12=>
 A.bd .iop x0.q.2.2.1 x2.1<|
 A.bd .iop x0.q.2.2.1 x2.1<|
 A.ret _ (x12.2.1,x12.2.2.1,A.lit 0,A.lit 0,A.lit 0,A.lit 0,A.lit 0,A.lit 0,x0.1,x0.2.1,x0.2.2.1,x0.2.2.2.1,x0.q.1,x0.q.2.1,A.set .iop x0.q.2.2.1 x2.1 (A.mkX .iop (A.lit 1,A.lit 0,A.lit 0,x12.1,A.lit 0,())),()))<|
 A.chk (A.cmp .leq (A.lit 0) (A.lit 0))<|
 A.chk (A.cmp .leq (A.lit 0) x2.1)<|
 A.chk (A.cmp .leq x2.1 (A.len .iop x0.q.2.2.1))<|
 A.chk (A.cmp .eql (A.lit 0) (A.lit 0))<|
 A.chk (A.cmp .leq (A.lit 0) (A.Cg x2.1 (A.lit 0)))<|
 A.chk (A.cmp .leq (A.Cg x2.1 (A.lit 0)) (A.len .iop x0.q.2.2.1))<|
 A.ret _ (x3.2.1,x3.2.2.1,A.lit 0,A.lit 0,A.lit 0,A.lit 0,A.lit 0,A.lit 0,x0.1,x0.2.1,x0.2.2.1,x0.2.2.2.1,x0.q.1,x0.q.2.1,A.sub .iop x0.q.2.2.1 (A.lit 0) (A.Cg x2.1 (A.lit 0)),())) fun x12=>
 A.ret _ (x12.1,x12.2.1,x12.2.2.1,x12.2.2.2.1,x12.q.1,x12.q.2.1,x12.q.2.2.1,x12.q.2.2.2.1,x12.o.1,x12.o.2.1,x12.o.2.2.1,x12.o.2.2.2.1,x12.o.q.1,x12.o.q.2.1,x12.o.q.2.2.1,())) fun x11=>
 A.ret _ (x11.1,x11.2.1,x11.2.2.1,x11.2.2.2.1,x11.q.1,x11.q.2.1,x11.q.2.2.1,x11.q.2.2.2.1,x11.o.1,x11.o.2.1,x11.o.2.2.1,x11.o.2.2.2.1,x11.o.q.1,x11.o.q.2.1,x11.o.q.2.2.1,())) fun x10=>
 A.ret _ (x10.1,x10.2.1,x10.2.2.1,x10.2.2.2.1,x10.q.1,x10.q.2.1,x10.q.2.2.1,x10.q.2.2.2.1,x10.o.1,x10.o.2.1,x10.o.2.2.1,x10.o.2.2.2.1,x10.o.q.1,x10.o.q.2.1,x10.o.q.2.2.1,())) fun x9=>
 A.ret _ (x9.1,x9.2.1,x9.2.2.1,x9.2.2.2.1,x9.q.1,x9.q.2.1,x9.q.2.2.1,x9.q.2.2.2.1,x9.o.1,x9.o.2.1,x9.o.2.2.1,x9.o.2.2.2.1,x9.o.q.1,x9.o.q.2.1,x9.o.q.2.2.1,())) fun x8=>
 A.ret _ (x8.1,x8.2.1,x8.2.2.1,x8.2.2.2.1,x8.q.1,x8.q.2.1,x8.q.2.2.1,x8.q.2.2.2.1,x8.o.1,x8.o.2.1,x8.o.2.2.1,x8.o.2.2.2.1,x8.o.q.1,x8.o.q.2.1,x8.o.q.2.2.1,())) fun x7=>
 A.ret _ (x7.1,x7.2.1,x7.2.2.1,x7.2.2.2.1,x7.q.1,x7.q.2.1,x7.q.2.2.1,x7.q.2.2.2.1,x7.o.1,x7.o.2.1,x7.o.2.2.1,x7.o.2.2.2.1,x7.o.q.1,x7.o.q.2.1,x7.o.q.2.2.1,())) fun x6=>
 A.ret _ (x6.1,x6.2.1,x6.2.2.1,x6.2.2.2.1,x6.q.1,x6.q.2.1,x6.q.2.2.1,x6.q.2.2.2.1,x6.o.1,x6.o.2.1,x6.o.2.2.1,x6.o.2.2.2.1,x6.o.q.1,x6.o.q.2.1,x6.o.q.2.2.1,())) fun x5=>
 A.ret _ (x5.o.1,x5.o.2.1,x5.o.2.2.1,x5.o.2.2.2.1,x5.o.q.1,x5.o.q.2.1,x5.1,x5.2.1,x5.o.q.2.2.1,())
def Rk (A:Alg) (afb:Pt A Ea) (afc:Ft A Ea) (aW:Pt A fE) (aX:Ft A fE) (afd:Pt A EG) (afe:Ft A EG) (aff:Pt A EF) (afg:Ft A EF) (x:Tup A.ah [.i,.l .u8,.i]):Ot A EH:=
 A.cl aff afg (x.2.1,x.2.2.1,()) fun x0=>
 A.cl afb afc (x.1,x0.q.2.2.1,x0.q.2.2.2.1,()) fun x1=>
 A.jR [.l .u8,.i,.i,.i,.i,.i,.i,.i,.i,.i,.i,.i,.i,.i,.l .iop] (A.cond x1.1 (A.cl aW aX (A.lit 6,x1.2.1,x1.2.2.1,()) fun x2=>
 A.l1 .b (A.cmp .eql x2.1 (A.lit 0)) fun x3=>
 A.jR [.l .u8,.i,.i,.i,.i,.i,.i,.i,.i,.i,.i,.i,.i,.i,.l .iop] (A.cond x3.1 (A.l1 (.l .i64) (A.lst .i64 [A.mkX .i64 (A.lit 0,()),A.mkX .i64 (A.lit 9,())]) fun x4=>
 A.cl aW aX (A.lit 2,x2.2.1,x2.2.2.1,()) fun x5=>
 A.bd .i64 x4.1 x5.1<|
 A.bd .i64 x4.1 x5.1<|
 A.l1 .i (A.fI .i64 0 (A.get .i64 x4.1 x5.1)) fun x6=>
 A.inl _ (x5.2.1,x5.2.2.1,A.lit 0,A.lit 0,A.lit 0,A.lit 0,A.lit 0,A.lit 0,x0.1,x6.1,x0.2.2.1,x0.2.2.2.1,x0.q.1,x0.q.2.1,x0.o.1,()))<|
 A.l1 .b (A.cmp .eql x2.1 (A.lit 1)) fun x4=>
 A.jR [.l .u8,.i,.i,.i,.i,.i,.i,.i,.i,.i,.i,.i,.i,.i,.l .iop] (A.cond x4.1 (A.l1 (.l .i64) (A.lst .i64 [A.mkX .i64 (A.lit (-1),()),A.mkX .i64 (A.lit 64,())]) fun x5=>
 A.cl aW aX (A.lit 2,x2.2.1,x2.2.2.1,()) fun x6=>
 A.bd .i64 x5.1 x6.1<|
 A.bd .i64 x5.1 x6.1<|
 A.l1 .i (A.fI .i64 0 (A.get .i64 x5.1 x6.1)) fun x7=>
 A.inl _ (x6.2.1,x6.2.2.1,A.lit 0,A.lit 0,A.lit 0,A.lit 0,A.lit 0,A.lit 0,x7.1,x0.2.1,x0.2.2.1,x0.2.2.2.1,x0.q.1,x0.q.2.1,x0.o.1,()))<|
 A.l1 .b (A.cmp .eql x2.1 (A.lit 2)) fun x5=>
 A.jR [.l .u8,.i,.i,.i,.i,.i,.i,.i,.i,.i,.i,.i,.i,.i,.l .iop] (A.cond x5.1 (A.iter [.l .u8,.i,.i,.i,.i,.i,.i,.i,.i,.i,.i,.i,.i,.i,.l .iop] (fun x6=>
 A.cond (A.cmp .leq (A.len .iop x6.o.q.2.2.1) (A.lit 48)) (A.l1 (.l .iop) (A.lst .iop [A.mkX .iop (A.lit 1,A.lit 0,A.lit 0,A.lit 0,A.lit 0,())]) fun x7=>
 A.chk (A.cmp .leq (A.addN (A.len .iop x6.o.q.2.2.1) (A.len .iop x7.1)) (A.lit 1073741824))<|
 A.l1 (.l .iop) (A.app .iop x6.o.q.2.2.1 x7.1) fun x8=>
 A.inl _ (x6.1,x6.2.1,x6.2.2.1,x6.2.2.2.1,x6.q.1,x6.q.2.1,x6.q.2.2.1,x6.q.2.2.2.1,x6.o.1,x6.o.2.1,x6.o.2.2.1,x6.o.2.2.2.1,x6.o.q.1,x6.o.q.2.1,x8.1,()))<|
 A.inr _<|A.inl _ (x6.1,x6.2.1,x6.2.2.1,x6.2.2.2.1,x6.q.1,x6.q.2.1,x6.q.2.2.1,x6.q.2.2.2.1,x6.o.1,x6.o.2.1,x6.o.2.2.1,x6.o.2.2.2.1,x6.o.q.1,x6.o.q.2.1,x6.o.q.2.2.1,())) (x2.2.1,x2.2.2.1,A.lit 0,A.lit 0,A.lit 0,A.lit 0,A.lit 0,A.lit 0,x0.1,x0.2.1,x0.2.2.1,x0.2.2.2.1,x0.q.1,x0.q.2.1,x0.o.1,()))<|
 A.l1 .b (A.cmp .eql x2.1 (A.lit 3)) fun x6=>
 A.jR [.l .u8,.i,.i,.i,.i,.i,.i,.i,.i,.i,.i,.i,.i,.i,.l .iop] (A.cond x6.1 (A.l1 (.l .i64) (A.lst .i64 [A.mkX .i64 (A.lit 0,()),A.mkX .i64 (A.lit 5,())]) fun x7=>
 A.cl aW aX (A.lit 2,x2.2.1,x2.2.2.1,()) fun x8=>
 A.bd .i64 x7.1 x8.1<|
 A.bd .i64 x7.1 x8.1<|
 A.l1 .i (A.fI .i64 0 (A.get .i64 x7.1 x8.1)) fun x9=>
 A.inl _ (x8.2.1,x8.2.2.1,A.lit 0,A.lit 0,A.lit 0,A.lit 0,A.lit 0,A.lit 0,x0.1,x0.2.1,x9.1,x0.2.2.2.1,x0.q.1,x0.q.2.1,x0.o.1,()))<|
 A.l1 .b (A.cmp .eql x2.1 (A.lit 4)) fun x7=>
 A.cond x7.1 (A.cl aW aX (A.lit 3,x2.2.1,x2.2.2.1,()) fun x8=>
 A.bd .i64 (A.lst .i64 [A.mkX .i64 (A.lit 0,()),A.mkX .i64 (A.lit 9,()),A.mkX .i64 (A.lit 8,())]) x8.1<|
 A.chk (A.cmp .leq (A.addN (A.len .iop x0.o.1) (A.len .iop (A.lst .iop [A.mkX .iop (A.fI .i64 0 (A.get .i64 (A.lst .i64 [A.mkX .i64 (A.lit 0,()),A.mkX .i64 (A.lit 9,()),A.mkX .i64 (A.lit 8,())]) x8.1),A.len .iop x0.o.1,A.lit 0,A.lit 0,A.lit 0,())]))) (A.lit 1073741824))<|
 A.l1 (.l .iop) (A.app .iop x0.o.1 (A.lst .iop [A.mkX .iop (A.fI .i64 0 (A.get .i64 (A.lst .i64 [A.mkX .i64 (A.lit 0,()),A.mkX .i64 (A.lit 9,()),A.mkX .i64 (A.lit 8,())]) x8.1),A.len .iop x0.o.1,A.lit 0,A.lit 0,A.lit 0,())])) fun x9=>
 A.inl _ (x8.2.1,x8.2.2.1,A.lit 0,A.lit 0,A.lit 0,A.lit 0,A.lit 0,A.lit 0,x0.1,x0.2.1,x0.2.2.1,x0.2.2.2.1,x0.q.1,x0.q.2.1,x9.1,()))<|
 A.cl afd afe (A.mkX .blk (x0.1,x0.2.1,x0.o.1,x0.2.2.1,x0.2.2.2.1,x0.q.1,x0.q.2.1,()),x2.2.1,x2.2.2.1,()) fun x8=>
 A.inr _<|A.inr _<|A.inr _<|A.inr _<|A.inr _<|A.ret _ (A.mkX .blk (x8.1,x8.2.1,x8.o.1,x8.2.2.1,x8.2.2.2.1,x8.q.1,x8.q.2.1,()),x8.q.2.2.1,x8.q.2.2.2.1,())) fun x7=>
 A.inl _ (x7.1,x7.2.1,x7.2.2.1,x7.2.2.2.1,x7.q.1,x7.q.2.1,x7.q.2.2.1,x7.q.2.2.2.1,x7.o.1,x7.o.2.1,x7.o.2.2.1,x7.o.2.2.2.1,x7.o.q.1,x7.o.q.2.1,x7.o.q.2.2.1,())) fun x6=>
 A.inl _ (x6.1,x6.2.1,x6.2.2.1,x6.2.2.2.1,x6.q.1,x6.q.2.1,x6.q.2.2.1,x6.q.2.2.2.1,x6.o.1,x6.o.2.1,x6.o.2.2.1,x6.o.2.2.2.1,x6.o.q.1,x6.o.q.2.1,x6.o.q.2.2.1,())) fun x5=>
 A.inl _ (x5.1,x5.2.1,x5.2.2.1,x5.2.2.2.1,x5.q.1,x5.q.2.1,x5.q.2.2.1,x5.q.2.2.2.1,x5.o.1,x5.o.2.1,x5.o.2.2.1,x5.o.2.2.2.1,x5.o.q.1,x5.o.q.2.1,x5.o.q.2.2.1,())) fun x4=>
 A.inl _ (x4.1,x4.2.1,x4.2.2.1,x4.2.2.2.1,x4.q.1,x4.q.2.1,x4.q.2.2.1,x4.q.2.2.2.1,x4.o.1,x4.o.2.1,x4.o.2.2.1,x4.o.2.2.2.1,x4.o.q.1,x4.o.q.2.1,x4.o.q.2.2.1,()))<|
 A.inl _ (x1.2.1,x1.2.2.1,A.lit 0,A.lit 0,A.lit 0,A.lit 0,A.lit 0,A.lit 0,x0.1,x0.2.1,x0.2.2.1,x0.2.2.2.1,x0.q.1,x0.q.2.1,x0.o.1,())) fun x2=>
 A.ret _ (A.mkX .blk (x2.o.1,x2.o.2.1,x2.o.q.2.2.1,x2.o.2.2.1,x2.o.2.2.2.1,x2.o.q.1,x2.o.q.2.1,()),x2.1,x2.2.1,())
def Rl (A:Alg) (x:Tup A.ah [.l .u8]):Ot A EI:=
 A.bind [.l .u8] (A.cond (A.cmp .gtr (A.len .u8 x.1) (A.lit 2000)) (A.chk (A.cmp .leq (A.lit 0) (A.lit 0))<|
 A.chk (A.cmp .leq (A.lit 0) (A.lit 2000))<|
 A.chk (A.cmp .leq (A.lit 2000) (A.len .u8 x.1))<|
 A.l1 (.l .u8) (A.sub .u8 x.1 (A.lit 0) (A.lit 2000)) fun x0=>
 A.ret _ (x0.1,()))<|
 A.ret _ (x.1,())) fun x0=>
 A.ret _ (x0.1,A.lit 0,())
def XC (A:Alg) (x:Tup A.ah [.i,.i,.i]):Ot A bZ:=
 A.l1 .b (A.bl false) fun x0=>
 A.rb (A.ak (A.cmp .leq x.2.1 x.1) (A.cmp .leq x.1 x.2.2.1) (A.bl false))
def XD (A:Alg) (fZ:Pt A bZ) (gq:Ft A bZ) (x:Tup A.ah [.i]):Ot A jo:=
 A.l1 .b (A.bl false) fun x0=>
 A.cl fZ gq (x.1,A.lit 0,A.lit 65535,()) fun x1=>
 A.rb x1.1
def XE (A:Alg) (fZ:Pt A bZ) (gq:Ft A bZ) (x:Tup A.ah [.x .iop]):Ot A nX:=
 A.l1 .b (A.bl false) fun x0=>
 A.l1 .b (A.bl false) fun x1=>
 A.l1 .b (A.bl false) fun x2=>
 A.l1 .b (A.bl false) fun x3=>
 A.l1 .b (A.ak (A.ak (A.cmp .neq (A.fI .iop 0 x.1) (A.lit 1)) (A.cmp .neq (A.fI .iop 0 x.1) (A.lit 2)) (A.bl false)) (A.cmp .neq (A.fI .iop 0 x.1) (A.lit 6)) (A.bl false)) fun x4=>
 A.l1 .b (A.ak (A.cmp .eql (A.fI .iop 0 x.1) (A.lit 3)) (A.bl true) (A.cmp .eql (A.fI .iop 0 x.1) (A.lit 5))) fun x5=>
 A.l1 .b (A.ak (A.ak (A.ak (A.cmp .eql (A.fI .iop 0 x.1) (A.lit 1)) (A.bl true) (A.cmp .eql (A.fI .iop 0 x.1) (A.lit 2))) (A.bl true) (A.cmp .eql (A.fI .iop 0 x.1) (A.lit 3))) (A.bl true) (A.cmp .eql (A.fI .iop 0 x.1) (A.lit 8))) fun x6=>
 A.cl fZ gq (A.fI .iop 0 x.1,A.lit 4,A.lit 7,()) fun x7=>
 A.l1 .b x7.1 fun x8=>
 A.l1 .b x4.1 fun x9=>
 A.l1 .b x5.1 fun x10=>
 A.l1 .b x6.1 fun x11=>
 A.l1 .b x8.1 fun x12=>
 A.ret _ (x9.1,x10.1,x11.1,x12.1,())
def XF (A:Alg) (fZ:Pt A bZ) (gq:Ft A bZ) (x:Tup A.ah [.i]):Ot A Bh:=
 A.l1 .b (A.bl false) fun x0=>
 A.cl fZ gq (x.1,A.lit 0,A.lit 3,()) fun x1=>
 A.rb x1.1
def XG (A:Alg) (fZ:Pt A bZ) (gq:Ft A bZ) (x:Tup A.ah [.i]):Ot A Bj:=
 A.l1 .b (A.bl false) fun x0=>
 A.cl fZ gq (x.1,A.lit 1,A.lit 5,()) fun x1=>
 A.rb x1.1
def XH (A:Alg) (fZ:Pt A bZ) (gq:Ft A bZ) (x:Tup A.ah [.x .iop]):Ot A MF:=
 A.l1 .b (A.bl false) fun x0=>
 A.cl fZ gq (A.fI .iop 0 x.1,A.lit 1,A.lit 4,()) fun x1=>
 A.rb (A.ak x1.1 (A.bl true) (A.cmp .eql (A.fI .iop 0 x.1) (A.lit 6)))
def XI (A:Alg) (ak5:Pt A MF) (ak6:Ft A MF) (fZ:Pt A bZ) (gq:Ft A bZ) (x:Tup A.ah [.x .blk,.i,.i]):Ot A Bn:=
 A.l1 .b (A.bl false) fun x0=>
 A.cl fZ gq (x.2.1,A.lit 0,A.arith .sub .i64 x.2.2.1 (A.lit 1),()) fun x1=>
 A.chk (A.orB (A.aA x1.1) (A.cmp .leq (A.lit 0) x.2.1))<|
 A.chk (A.orB (A.aA x1.1) (A.cmp .lss x.2.1 (A.len .iop (A.fL .blk 2 .iop x.1))))<|
 A.cg x1.1 ak5 ak6 (A.get .iop (A.fL .blk 2 .iop x.1) x.2.1,()) fun x2=>
 A.rb (A.ak x1.1 x2.1 (A.bl false))
def XJ (A:Alg) (Ns:Pt A Bn) (Nt:Ft A Bn) (FD:Pt A nX) (FH:Ft A nX) (qx:Pt A jo) (qy:Ft A jo) (fZ:Pt A bZ) (gq:Ft A bZ) (XK:Pt A Bj) (XL:Ft A Bj) (Uv:Pt A Bh) (Uw:Ft A Bh) (x:Tup A.ah [.x .blk,.i]):Ot A MG:=
 A.l1 .b (A.bl false) fun x0=>
 A.bd .iop (A.fL .blk 2 .iop x.1) x.2.1<|
 A.l1 (.x .iop) (A.get .iop (A.fL .blk 2 .iop x.1) x.2.1) fun x1=>
 A.cl fZ gq (A.fI .iop 0 x1.1,A.lit 1,A.lit 8,()) fun x2=>
 A.cond (A.aA x2.1) (A.rb (A.bl false))<|
 A.cl FD FH (x1.1,()) fun x3=>
 A.l1 .b x3.1 fun x4=>
 A.l1 .b x3.2.1 fun x5=>
 A.l1 .b x3.2.2.1 fun x6=>
 A.l1 .b x3.2.2.2.1 fun x7=>
 A.cl qx qy (A.fI .iop 3 x1.1,()) fun x8=>
 A.cl Uv Uw (A.fI .iop 3 x1.1,()) fun x9=>
 A.cl XK XL (A.fI .iop 3 x1.1,()) fun x10=>
 A.cl Uv Uw (A.fI .iop 3 x1.1,()) fun x11=>
 A.l1 .b (A.ak (A.cmp .eql (A.fI .iop 0 x1.1) (A.lit 1)) x8.1 (A.ak (A.cmp .eql (A.fI .iop 0 x1.1) (A.lit 2)) x9.1 (A.ak (A.cmp .eql (A.fI .iop 0 x1.1) (A.lit 3)) x10.1 (A.ak (A.cmp .eql (A.fI .iop 0 x1.1) (A.lit 8)) x11.1 (A.bl false))))) fun x12=>
 A.cg x4.1 Ns Nt (x.1,A.fI .iop 1 x1.1,x.2.1,()) fun x13=>
 A.cg (A.mJ (A.ak (A.ak x4.1 x13.1 (A.bl false)) (A.bl true) (A.ak (A.aA x4.1) (A.cmp .eql (A.fI .iop 1 x1.1) (A.lit 0)) (A.bl false))) x5.1) Ns Nt (x.1,A.fI .iop 2 x1.1,x.2.1,()) fun x14=>
 A.cg (A.mJ (A.ak (A.ak (A.ak (A.ak x4.1 x13.1 (A.bl false)) (A.bl true) (A.ak (A.aA x4.1) (A.cmp .eql (A.fI .iop 1 x1.1) (A.lit 0)) (A.bl false))) (A.ak (A.ak x5.1 x14.1 (A.bl false)) (A.bl true) (A.ak (A.aA x5.1) (A.cmp .eql (A.fI .iop 2 x1.1) (A.lit 0)) (A.bl false))) (A.bl false)) (A.ak (A.ak x6.1 x12.1 (A.bl false)) (A.bl true) (A.ak (A.aA x6.1) (A.cmp .eql (A.fI .iop 3 x1.1) (A.lit 0)) (A.bl false))) (A.bl false)) x7.1) fZ gq (A.fI .iop 4 x1.1,A.lit 0,A.arith .sub .i64 (A.fI .blk 1 x.1) (A.lit 1),()) fun x15=>
 A.rb (A.ak (A.ak (A.ak (A.ak (A.ak x4.1 x13.1 (A.bl false)) (A.bl true) (A.ak (A.aA x4.1) (A.cmp .eql (A.fI .iop 1 x1.1) (A.lit 0)) (A.bl false))) (A.ak (A.ak x5.1 x14.1 (A.bl false)) (A.bl true) (A.ak (A.aA x5.1) (A.cmp .eql (A.fI .iop 2 x1.1) (A.lit 0)) (A.bl false))) (A.bl false)) (A.ak (A.ak x6.1 x12.1 (A.bl false)) (A.bl true) (A.ak (A.aA x6.1) (A.cmp .eql (A.fI .iop 3 x1.1) (A.lit 0)) (A.bl false))) (A.bl false)) (A.ak (A.ak x7.1 x15.1 (A.bl false)) (A.bl true) (A.ak (A.aA x7.1) (A.cmp .eql (A.fI .iop 4 x1.1) (A.lit 0)) (A.bl false))) (A.bl false))
def XM (A:Alg) (x:Tup A.ah [.x .blk]):Ot A nY:=
 A.l1 .b (A.bl false) fun x0=>
 A.l1 .b (A.bl false) fun x1=>
 A.l1 .b (A.bl false) fun x2=>
 A.l1 .b (A.cmp .neq (A.fI .blk 3 x.1) (A.lit 1)) fun x3=>
 A.l1 .b (A.cmp .geq (A.fI .blk 3 x.1) (A.lit 3)) fun x4=>
 A.l1 .b (A.cmp .neq (A.fI .blk 3 x.1) (A.lit 2)) fun x5=>
 A.ret _ (x3.1,x4.1,x5.1,())
def XO (A:Alg) (FJ:Pt A nY) (FK:Ft A nY) (Ns:Pt A Bn) (Nt:Ft A Bn) (qx:Pt A jo) (qy:Ft A jo) (fZ:Pt A bZ) (gq:Ft A bZ) (x:Tup A.ah [.x .blk]):Ot A MH:=
 A.l1 .b (A.bl false) fun x0=>
 A.cl FJ FK (x.1,()) fun x1=>
 A.l1 .b x1.1 fun x2=>
 A.l1 .b x1.2.1 fun x3=>
 A.l1 .b x1.2.2.1 fun x4=>
 A.cl fZ gq (A.fI .blk 3 x.1,A.lit 1,A.lit 4,()) fun x5=>
 A.cg (A.mJ x5.1 x2.1) Ns Nt (x.1,A.fI .blk 4 x.1,A.len .iop (A.fL .blk 2 .iop x.1),()) fun x6=>
 A.cg (A.mJ (A.ak x5.1 (A.ak (A.ak x2.1 x6.1 (A.bl false)) (A.bl true) (A.ak (A.aA x2.1) (A.cmp .eql (A.fI .blk 4 x.1) (A.lit 0)) (A.bl false))) (A.bl false)) x3.1) Ns Nt (x.1,A.fI .blk 5 x.1,A.len .iop (A.fL .blk 2 .iop x.1),()) fun x7=>
 A.cg (A.mJ (A.ak (A.ak x5.1 (A.ak (A.ak x2.1 x6.1 (A.bl false)) (A.bl true) (A.ak (A.aA x2.1) (A.cmp .eql (A.fI .blk 4 x.1) (A.lit 0)) (A.bl false))) (A.bl false)) (A.ak (A.ak x3.1 x7.1 (A.bl false)) (A.bl true) (A.ak (A.aA x3.1) (A.cmp .eql (A.fI .blk 5 x.1) (A.lit 0)) (A.bl false))) (A.bl false)) x4.1) qx qy (A.fI .blk 6 x.1,()) fun x8=>
 A.rb (A.ak (A.ak (A.ak x5.1 (A.ak (A.ak x2.1 x6.1 (A.bl false)) (A.bl true) (A.ak (A.aA x2.1) (A.cmp .eql (A.fI .blk 4 x.1) (A.lit 0)) (A.bl false))) (A.bl false)) (A.ak (A.ak x3.1 x7.1 (A.bl false)) (A.bl true) (A.ak (A.aA x3.1) (A.cmp .eql (A.fI .blk 5 x.1) (A.lit 0)) (A.bl false))) (A.bl false)) (A.ak (A.ak x4.1 x8.1 (A.bl false)) (A.bl true) (A.ak (A.aA x4.1) (A.cmp .eql (A.fI .blk 6 x.1) (A.lit 0)) (A.bl false))) (A.bl false))
def XP (A:Alg) (ak7:Pt A MH) (ak8:Ft A MH) (ak9:Pt A MG) (ala:Ft A MG) (fZ:Pt A bZ) (gq:Ft A bZ) (x:Tup A.ah [.x .blk]):Ot A jq:=
 A.l1 .b (A.bl false) fun x0=>
 A.cl fZ gq (A.fI .blk 1 x.1,A.lit 1,A.lit 8,()) fun x1=>
 A.cg (A.aA (A.aA x1.1)) fZ gq (A.fI .blk 0 x.1,A.lit 0,A.arith .sub .i64 (A.lit 64) (A.fI .blk 1 x.1),()) fun x2=>
 A.cond (A.ak (A.ak (A.aA x1.1) (A.bl true) (A.aA x2.1)) (A.bl true) (A.cmp .gtr (A.len .iop (A.fL .blk 2 .iop x.1)) (A.lit 48))) (A.rb (A.bl false))<|
 A.iter [.i,.i,.x .blk] (fun x3=>
 A.cond (A.cmp .lss x3.2.1 x3.1) (A.l1 .i x3.2.1 fun x4=>
 A.cl ak9 ala (x3.2.2.1,x4.1,()) fun x5=>
 A.cond (A.aA x5.1) (A.l1 .b (A.bl false) fun x6=>
 A.inr _<|A.ret _ (x6.1,()))<|
 A.inl _ (x3.1,A.arith .add .i64 x3.2.1 (A.lit 1),x3.2.2.1,()))<|
 A.inr _<|A.cl ak7 ak8 (x3.2.2.1,()) fun x4=>
 A.rb x4.1) (A.len .iop (A.fL .blk 2 .iop x.1),A.lit 0,x.1,())
def XQ (A:Alg) (x:Tup A.ah [.x .blk]):Ot A Bo:=
 A.chk (A.cmp .leq (A.len .iop (A.fL .blk 2 .iop x.1)) (A.lit 1073741824))<|
 A.l1 (.l .iop) (A.fL .blk 2 .iop x.1) fun x0=>
 A.ret _ (A.fI .blk 0 x.1,A.fI .blk 1 x.1,A.fI .blk 3 x.1,A.fI .blk 4 x.1,A.fI .blk 5 x.1,A.fI .blk 6 x.1,x0.1,())
def XR (A:Alg) (FJ:Pt A nY) (FK:Ft A nY) (FD:Pt A nX) (FH:Ft A nX) (x:Tup A.ah [.l .i64,.i,.i,.i,.i,.i,.i,.l .iop]):Ot A Bp:=
 A.iter [.l .i64,.i,.i,.i,.i,.i,.i,.i,.i,.l .iop] (fun x0=>
 A.cond (A.cmp .lss x0.2.2.1 x0.2.1) (A.bd .iop x0.o.2.1 x0.2.2.1<|
 A.bd .iop x0.o.2.1 x0.2.2.1<|
 A.l1 .i x0.2.2.1 fun x1=>
 A.l1 (.x .iop) (A.get .iop x0.o.2.1 x0.2.2.1) fun x2=>
 A.cl FD FH (x2.1,()) fun x3=>
 A.l1 .b x3.1 fun x4=>
 A.l1 .b x3.2.1 fun x5=>
 A.l1 .b x3.2.2.1 fun x6=>
 A.l1 .b x3.2.2.2.1 fun x7=>
 A.bind [.l .i64,.i,.b,.i,.i,.i,.i,.i,.i,.i,.i,.l .iop,.x .iop] (A.cond x4.1 (A.bd .i64 x0.1 (A.fI .iop 1 x2.1)<|
 A.bd .iop x0.o.2.1 x1.1<|
 A.bd .iop x0.o.2.1 x1.1<|
 A.l1 .i (A.fI .i64 0 (A.get .i64 x0.1 (A.fI .iop 1 x2.1))) fun x8=>
 A.ret _ (x0.1,x1.1,x5.1,x0.2.1,x0.2.2.1,x0.2.2.2.1,x0.q.1,x0.q.2.1,x0.q.2.2.1,x0.q.2.2.2.1,x0.o.1,A.set .iop x0.o.2.1 x1.1 (A.mkX .iop (A.fI .iop 0 (A.get .iop x0.o.2.1 x1.1),x8.1,A.fI .iop 2 (A.get .iop x0.o.2.1 x1.1),A.fI .iop 3 (A.get .iop x0.o.2.1 x1.1),A.fI .iop 4 (A.get .iop x0.o.2.1 x1.1),())),x2.1,()))<|
 A.ret _ (x0.1,x1.1,x5.1,x0.2.1,x0.2.2.1,x0.2.2.2.1,x0.q.1,x0.q.2.1,x0.q.2.2.1,x0.q.2.2.2.1,x0.o.1,x0.o.2.1,x2.1,())) fun x8=>
 A.bind [.l .i64,.i,.i,.i,.i,.i,.i,.i,.i,.l .iop] (A.cond x8.2.2.1 (A.bd .i64 x8.1 (A.fI .iop 2 x8.o.q.1)<|
 A.bd .iop x8.o.2.2.2.1 x8.2.1<|
 A.bd .iop x8.o.2.2.2.1 x8.2.1<|
 A.l1 .i (A.fI .i64 0 (A.get .i64 x8.1 (A.fI .iop 2 x8.o.q.1))) fun x9=>
 A.ret _ (x8.1,x8.2.2.2.1,x8.q.1,x8.q.2.1,x8.q.2.2.1,x8.q.2.2.2.1,x8.o.1,x8.o.2.1,x8.o.2.2.1,A.set .iop x8.o.2.2.2.1 x8.2.1 (A.mkX .iop (A.fI .iop 0 (A.get .iop x8.o.2.2.2.1 x8.2.1),A.fI .iop 1 (A.get .iop x8.o.2.2.2.1 x8.2.1),x9.1,A.fI .iop 3 (A.get .iop x8.o.2.2.2.1 x8.2.1),A.fI .iop 4 (A.get .iop x8.o.2.2.2.1 x8.2.1),())),()))<|
 A.ret _ (x8.1,x8.2.2.2.1,x8.q.1,x8.q.2.1,x8.q.2.2.1,x8.q.2.2.2.1,x8.o.1,x8.o.2.1,x8.o.2.2.1,x8.o.2.2.2.1,())) fun x9=>
 A.inl _ (x9.1,x9.2.1,A.arith .add .i64 x9.2.2.1 (A.lit 1),x9.2.2.2.1,x9.q.1,x9.q.2.1,x9.q.2.2.1,x9.q.2.2.2.1,x9.o.1,x9.o.2.1,()))<|
 A.inr _<|A.cl FJ FK (A.mkX .blk (x0.2.2.2.1,x0.q.1,x0.o.2.1,x0.q.2.1,x0.q.2.2.1,x0.q.2.2.2.1,x0.o.1,()),()) fun x1=>
 A.l1 .b x1.1 fun x2=>
 A.l1 .b x1.2.1 fun x3=>
 A.l1 .b x1.2.2.1 fun x4=>
 A.bind [.l .i64,.b,.i,.i,.i,.i,.i,.i,.l .iop] (A.cond x2.1 (A.bd .i64 x0.1 x0.q.2.2.1<|
 A.l1 .i (A.fI .i64 0 (A.get .i64 x0.1 x0.q.2.2.1)) fun x5=>
 A.ret _ (x0.1,x3.1,x0.2.2.2.1,x0.q.1,x0.q.2.1,x5.1,x0.q.2.2.2.1,x0.o.1,x0.o.2.1,()))<|
 A.ret _ (x0.1,x3.1,x0.2.2.2.1,x0.q.1,x0.q.2.1,x0.q.2.2.1,x0.q.2.2.2.1,x0.o.1,x0.o.2.1,())) fun x5=>
 A.bind [.i,.i,.i,.i,.i,.i,.l .iop] (A.cond x5.2.1 (A.bd .i64 x5.1 x5.q.2.2.1<|
 A.l1 .i (A.fI .i64 0 (A.get .i64 x5.1 x5.q.2.2.1)) fun x6=>
 A.ret _ (x5.2.2.1,x5.2.2.2.1,x5.q.1,x5.q.2.1,x6.1,x5.q.2.2.2.1,x5.o.1,()))<|
 A.ret _ (x5.2.2.1,x5.2.2.2.1,x5.q.1,x5.q.2.1,x5.q.2.2.1,x5.q.2.2.2.1,x5.o.1,())) fun x6=>
 A.ret _ (x6.1,x6.2.1,x6.2.2.1,x6.2.2.2.1,x6.q.1,x6.q.2.1,x6.q.2.2.1,())) (x.1,A.len .iop x.q.2.2.2.1,A.lit 0,x.2.1,x.2.2.1,x.2.2.2.1,x.q.1,x.q.2.1,x.q.2.2.1,x.q.2.2.2.1,())
def XU (A:Alg) (XV:Pt A Bo) (XW:Ft A Bo) (XY:Pt A Bp) (XZ:Ft A Bp) (rR:Pt A jq) (rT:Ft A jq) (x:Tup A.ah [.x .blk]):Ot A MI:=
 A.cl rR rT (x.1,()) fun x0=>
 A.cond (A.aA x0.1) (A.ret _ (A.mkX .blk (A.lit 0,A.lit 0,A.bN .iop,A.lit 0,A.lit 0,A.lit 0,A.lit 0,()),()))<|
 A.chk (A.cmp .eql (A.len .iop (A.fL .blk 2 .iop x.1)) (A.len .iop (A.fL .blk 2 .iop x.1)))<|
 A.chk (A.cmp .leq (A.lit 0) (A.len .iop (A.fL .blk 2 .iop x.1)))<|
 A.chk (A.cmp .leq (A.len .iop (A.fL .blk 2 .iop x.1)) (A.lit 1073741824))<|
 A.l1 (.l .i64) (A.rep .i64 (A.len .iop (A.fL .blk 2 .iop x.1)) (A.mkX .i64 (A.lit 0,()))) fun x1=>
 A.l1 (.l .i64) (A.lst .i64 [A.mkX .i64 (A.lit (-1),()),A.mkX .i64 (A.lit (-1),()),A.mkX .i64 (A.lit (-1),()),A.mkX .i64 (A.lit (-1),())]) fun x2=>
 A.iter [.l .iop,.i,.i,.x .blk,.i,.i,.i,.i,.i,.i,.l .i64,.l .i64] (fun x3=>
 A.cond (A.cmp .lss x3.2.2.1 x3.2.1) (A.bd .iop x3.1 x3.2.2.1<|
 A.l1 .i x3.2.2.1 fun x4=>
 A.l1 (.x .iop) (A.get .iop x3.1 x3.2.2.1) fun x5=>
 A.bd .i64 x3.o.2.2.1 x4.1<|
 A.bd .i64 x3.o.2.2.1 x4.1<|
 A.l1 .i x4.1 fun x6=>
 A.chk (A.orB (A.aA (A.cmp .eql (A.fI .iop 0 x5.1) (A.lit 2))) (A.cmp .leq (A.lit 0) (A.fI .iop 3 x5.1)))<|
 A.chk (A.orB (A.aA (A.cmp .eql (A.fI .iop 0 x5.1) (A.lit 2))) (A.cmp .lss (A.fI .iop 3 x5.1) (A.len .i64 x3.o.2.2.2.1)))<|
 A.chk (A.orB (A.aA (A.cmp .eql (A.fI .iop 0 x5.1) (A.lit 2))) (A.cmp .leq (A.lit 0) (A.fI .iop 3 x5.1)))<|
 A.chk (A.orB (A.aA (A.cmp .eql (A.fI .iop 0 x5.1) (A.lit 2))) (A.cmp .lss (A.fI .iop 3 x5.1) (A.len .i64 x3.o.2.2.2.1)))<|
 A.l1 .b (A.ak (A.cmp .eql (A.fI .iop 0 x5.1) (A.lit 2)) (A.cmp .geq (A.fI .i64 0 (A.get .i64 x3.o.2.2.2.1 (A.fI .iop 3 x5.1))) (A.lit 0)) (A.bl false)) fun x7=>
 A.bind [.l .iop,.i,.i,.x .blk,.i,.i,.i,.i,.i,.i,.l .i64,.l .i64] (A.cond x7.1 (A.bd .i64 x3.o.2.2.2.1 (A.fI .iop 3 x5.1)<|
 A.bd .i64 x3.o.2.2.2.1 (A.fI .iop 3 x5.1)<|
 A.bd .i64 (A.set .i64 x3.o.2.2.1 x4.1 (A.mkX .i64 (x6.1,()))) x4.1<|
 A.bd .i64 (A.set .i64 x3.o.2.2.1 x4.1 (A.mkX .i64 (x6.1,()))) x4.1<|
 A.l1 .i (A.fI .i64 0 (A.get .i64 x3.o.2.2.2.1 (A.fI .iop 3 x5.1))) fun x8=>
 A.ret _ (x3.1,x3.2.1,x3.2.2.1,x3.2.2.2.1,x3.q.1,x3.q.2.1,x3.q.2.2.1,x3.q.2.2.2.1,x3.o.1,x3.o.2.1,A.set .i64 (A.set .i64 x3.o.2.2.1 x4.1 (A.mkX .i64 (x6.1,()))) x4.1 (A.mkX .i64 (x8.1,())),x3.o.2.2.2.1,()))<|
 A.l1 .b (A.cmp .eql (A.fI .iop 0 x5.1) (A.lit 2)) fun x8=>
 A.bind [.l .iop,.i,.i,.x .blk,.i,.i,.i,.i,.i,.i,.l .i64,.l .i64] (A.cond x8.1 (A.bd .i64 x3.o.2.2.2.1 (A.fI .iop 3 x5.1)<|
 A.bd .i64 x3.o.2.2.2.1 (A.fI .iop 3 x5.1)<|
 A.l1 .i x4.1 fun x9=>
 A.ret _ (x3.1,x3.2.1,x3.2.2.1,x3.2.2.2.1,x3.q.1,x3.q.2.1,x3.q.2.2.1,x3.q.2.2.2.1,x3.o.1,x3.o.2.1,A.set .i64 x3.o.2.2.1 x4.1 (A.mkX .i64 (x6.1,())),A.set .i64 x3.o.2.2.2.1 (A.fI .iop 3 x5.1) (A.mkX .i64 (x9.1,())),()))<|
 A.l1 .b (A.cmp .eql (A.fI .iop 0 x5.1) (A.lit 8)) fun x9=>
 A.bind [.l .iop,.i,.i,.x .blk,.i,.i,.i,.i,.i,.i,.l .i64,.l .i64] (A.cond x9.1 (A.bd .i64 (A.set .i64 x3.o.2.2.1 x4.1 (A.mkX .i64 (x6.1,()))) (A.fI .iop 1 x5.1)<|
 A.bd .i64 (A.set .i64 x3.o.2.2.1 x4.1 (A.mkX .i64 (x6.1,()))) (A.fI .iop 1 x5.1)<|
 A.bd .i64 x3.o.2.2.2.1 (A.fI .iop 3 x5.1)<|
 A.bd .i64 x3.o.2.2.2.1 (A.fI .iop 3 x5.1)<|
 A.l1 .i (A.fI .i64 0 (A.get .i64 (A.set .i64 x3.o.2.2.1 x4.1 (A.mkX .i64 (x6.1,()))) (A.fI .iop 1 x5.1))) fun x10=>
 A.ret _ (x3.1,x3.2.1,x3.2.2.1,x3.2.2.2.1,x3.q.1,x3.q.2.1,x3.q.2.2.1,x3.q.2.2.2.1,x3.o.1,x3.o.2.1,A.set .i64 x3.o.2.2.1 x4.1 (A.mkX .i64 (x6.1,())),A.set .i64 x3.o.2.2.2.1 (A.fI .iop 3 x5.1) (A.mkX .i64 (x10.1,())),()))<|
 A.ret _ (x3.1,x3.2.1,x3.2.2.1,x3.2.2.2.1,x3.q.1,x3.q.2.1,x3.q.2.2.1,x3.q.2.2.2.1,x3.o.1,x3.o.2.1,A.set .i64 x3.o.2.2.1 x4.1 (A.mkX .i64 (x6.1,())),x3.o.2.2.2.1,())) fun x10=>
 A.ret _ (x10.1,x10.2.1,x10.2.2.1,x10.2.2.2.1,x10.q.1,x10.q.2.1,x10.q.2.2.1,x10.q.2.2.2.1,x10.o.1,x10.o.2.1,x10.o.2.2.1,x10.o.2.2.2.1,())) fun x9=>
 A.ret _ (x9.1,x9.2.1,x9.2.2.1,x9.2.2.2.1,x9.q.1,x9.q.2.1,x9.q.2.2.1,x9.q.2.2.2.1,x9.o.1,x9.o.2.1,x9.o.2.2.1,x9.o.2.2.2.1,())) fun x8=>
 A.inl _ (x8.1,x8.2.1,A.arith .add .i64 x8.2.2.1 (A.lit 1),x8.2.2.2.1,x8.q.1,x8.q.2.1,x8.q.2.2.1,x8.q.2.2.2.1,x8.o.1,x8.o.2.1,x8.o.2.2.1,x8.o.2.2.2.1,()))<|
 A.inr _<|A.cl XV XW (x3.2.2.2.1,()) fun x4=>
 A.cl XY XZ (x3.o.2.2.1,x4.1,x4.2.1,x4.2.2.1,x4.2.2.2.1,x4.q.1,x4.q.2.1,x4.q.2.2.1,()) fun x5=>
 A.ret _ (A.mkX .blk (x5.1,x5.2.1,x5.q.2.2.1,x5.2.2.1,x5.2.2.2.1,x5.q.1,x5.q.2.1,()),())) (A.fL .blk 2 .iop x.1,A.len .iop (A.fL .blk 2 .iop x.1),A.lit 0,x.1,A.lit 0,A.lit 0,A.lit 0,A.lit 0,A.lit 0,A.lit 0,x1.1,x2.1,())
def X0 (A:Alg) (qx:Pt A jo) (qy:Ft A jo) (x:Tup A.ah []):Ot A MJ:=
 A.l1 .b (A.bl false) fun x0=>
 A.cl qx qy (A.lit 1,()) fun x1=>
 A.rb x1.1
def X3 (A:Alg) (FJ:Pt A nY) (FK:Ft A nY) (FD:Pt A nX) (FH:Ft A nX) (x:Tup A.ah [.x .blk]):Ot A MK:=
 A.chk (A.cmp .eql (A.len .iop (A.fL .blk 2 .iop x.1)) (A.len .iop (A.fL .blk 2 .iop x.1)))<|
 A.chk (A.cmp .leq (A.lit 0) (A.len .iop (A.fL .blk 2 .iop x.1)))<|
 A.chk (A.cmp .leq (A.len .iop (A.fL .blk 2 .iop x.1)) (A.lit 1073741824))<|
 A.l1 (.l .bool) (A.rep .bool (A.len .iop (A.fL .blk 2 .iop x.1)) (A.mkX .bool (A.bl false,()))) fun x0=>
 A.cl FJ FK (x.1,()) fun x1=>
 A.l1 .b x1.1 fun x2=>
 A.l1 .b x1.2.1 fun x3=>
 A.l1 .b x1.2.2.1 fun x4=>
 A.bind [.b,.x .blk,.l .bool] (A.cond x2.1 (A.bd .bool x0.1 (A.fI .blk 4 x.1)<|
 A.bd .bool x0.1 (A.fI .blk 4 x.1)<|
 A.l1 .b (A.bl true) fun x5=>
 A.ret _ (x3.1,x.1,A.set .bool x0.1 (A.fI .blk 4 x.1) (A.mkX .bool (x5.1,())),()))<|
 A.ret _ (x3.1,x.1,x0.1,())) fun x5=>
 A.bind [.x .blk,.l .bool] (A.cond x5.1 (A.bd .bool x5.2.2.1 (A.fI .blk 5 x5.2.1)<|
 A.bd .bool x5.2.2.1 (A.fI .blk 5 x5.2.1)<|
 A.l1 .b (A.bl true) fun x6=>
 A.ret _ (x5.2.1,A.set .bool x5.2.2.1 (A.fI .blk 5 x5.2.1) (A.mkX .bool (x6.1,())),()))<|
 A.ret _ (x5.2.1,x5.2.2.1,())) fun x6=>
 A.l1 .i (A.arith .sub .i64 (A.len .iop (A.fL .blk 2 .iop x6.1)) (A.lit 1)) fun x7=>
 A.iter [.i,.x .blk,.l .bool] (fun x8=>
 A.cond (A.cmp .geq x8.1 (A.lit 0)) (A.jR [.i,.x .blk,.l .bool] (A.bd .iop (A.fL .blk 2 .iop x8.2.1) x8.1<|
 A.l1 (.x .iop) (A.get .iop (A.fL .blk 2 .iop x8.2.1) x8.1) fun x9=>
 A.bd .bool x8.2.2.1 x8.1<|
 A.bd .bool x8.2.2.1 x8.1<|
 A.bd .bool x8.2.2.1 x8.1<|
 A.bd .bool x8.2.2.1 x8.1<|
 A.l1 .b (A.ak (A.fB .bool 0 (A.get .bool x8.2.2.1 x8.1)) (A.bl true) (A.cmp .geq (A.fI .iop 0 x9.1) (A.lit 4))) fun x10=>
 A.bd .bool (A.set .bool x8.2.2.1 x8.1 (A.mkX .bool (x10.1,()))) x8.1<|
 A.bd .bool (A.set .bool x8.2.2.1 x8.1 (A.mkX .bool (x10.1,()))) x8.1<|
 A.cond (A.aA (A.fB .bool 0 (A.get .bool (A.set .bool x8.2.2.1 x8.1 (A.mkX .bool (x10.1,()))) x8.1))) (A.inl _ (x8.1,x8.2.1,A.set .bool x8.2.2.1 x8.1 (A.mkX .bool (x10.1,())),()))<|
 A.cl FD FH (x9.1,()) fun x11=>
 A.l1 .b x11.1 fun x12=>
 A.l1 .b x11.2.1 fun x13=>
 A.l1 .b x11.2.2.1 fun x14=>
 A.l1 .b x11.2.2.2.1 fun x15=>
 A.bind [.i,.b,.x .blk,.l .bool,.x .iop] (A.cond x12.1 (A.bd .bool (A.set .bool x8.2.2.1 x8.1 (A.mkX .bool (x10.1,()))) (A.fI .iop 1 x9.1)<|
 A.bd .bool (A.set .bool x8.2.2.1 x8.1 (A.mkX .bool (x10.1,()))) (A.fI .iop 1 x9.1)<|
 A.l1 .b (A.bl true) fun x16=>
 A.ret _ (x8.1,x13.1,x8.2.1,A.set .bool (A.set .bool x8.2.2.1 x8.1 (A.mkX .bool (x10.1,()))) (A.fI .iop 1 x9.1) (A.mkX .bool (x16.1,())),x9.1,()))<|
 A.ret _ (x8.1,x13.1,x8.2.1,A.set .bool x8.2.2.1 x8.1 (A.mkX .bool (x10.1,())),x9.1,())) fun x16=>
 A.bind [.i,.x .blk,.l .bool] (A.cond x16.2.1 (A.bd .bool x16.2.2.2.1 (A.fI .iop 2 x16.q.1)<|
 A.bd .bool x16.2.2.2.1 (A.fI .iop 2 x16.q.1)<|
 A.l1 .b (A.bl true) fun x17=>
 A.ret _ (x16.1,x16.2.2.1,A.set .bool x16.2.2.2.1 (A.fI .iop 2 x16.q.1) (A.mkX .bool (x17.1,())),()))<|
 A.ret _ (x16.1,x16.2.2.1,x16.2.2.2.1,())) fun x17=>
 A.inl _ (x17.1,x17.2.1,x17.2.2.1,())) fun x9=>
 A.l1 .i (A.arith .sub .i64 x9.1 (A.lit 1)) fun x10=>
 A.inl _ (x10.1,x9.2.1,x9.2.2.1,()))<|
 A.inr _<|A.ret _ (x8.2.2.1,())) (x7.1,x6.1,x6.2.1,())
def Rm (A:Alg) (x:Tup A.ah [.l .iop,.l .iop]):Ot A EJ:=
 A.l1 .b (A.bl false) fun x0=>
 A.cond (A.cmp .neq (A.len .iop x.1) (A.len .iop x.2.1)) (A.rb (A.bl false))<|
 A.iter [.l .iop,.l .iop,.i,.i] (fun x1=>
 A.cond (A.cmp .lss x1.2.2.2.1 x1.2.2.1) (A.l1 .i x1.2.2.2.1 fun x2=>
 A.bd .iop x1.1 x2.1<|
 A.bd .iop x1.2.1 x2.1<|
 A.cond (A.aA (A.eqX .iop (A.get .iop x1.1 x2.1) (A.get .iop x1.2.1 x2.1))) (A.l1 .b (A.bl false) fun x3=>
 A.inr _<|A.ret _ (x3.1,()))<|
 A.inl _ (x1.1,x1.2.1,x1.2.2.1,A.arith .add .i64 x1.2.2.2.1 (A.lit 1),()))<|
 A.inr _<|A.rb (A.bl true)) (x.1,x.2.1,A.len .iop x.1,A.lit 0,())
def X4 (A:Alg) (afh:Pt A EJ) (afi:Ft A EJ) (x:Tup A.ah [.x .blk,.x .blk]):Ot A ML:=
 A.l1 .b (A.bl false) fun x0=>
 A.cg (A.ak (A.ak (A.ak (A.ak (A.ak (A.cmp .eql (A.fI .blk 0 x.1) (A.fI .blk 0 x.2.1)) (A.cmp .eql (A.fI .blk 1 x.1) (A.fI .blk 1 x.2.1)) (A.bl false)) (A.cmp .eql (A.fI .blk 3 x.1) (A.fI .blk 3 x.2.1)) (A.bl false)) (A.cmp .eql (A.fI .blk 4 x.1) (A.fI .blk 4 x.2.1)) (A.bl false)) (A.cmp .eql (A.fI .blk 5 x.1) (A.fI .blk 5 x.2.1)) (A.bl false)) (A.cmp .eql (A.fI .blk 6 x.1) (A.fI .blk 6 x.2.1)) (A.bl false)) afh afi (A.fL .blk 2 .iop x.1,A.fL .blk 2 .iop x.2.1,()) fun x1=>
 A.rb (A.ak (A.ak (A.ak (A.ak (A.ak (A.ak (A.cmp .eql (A.fI .blk 0 x.1) (A.fI .blk 0 x.2.1)) (A.cmp .eql (A.fI .blk 1 x.1) (A.fI .blk 1 x.2.1)) (A.bl false)) (A.cmp .eql (A.fI .blk 3 x.1) (A.fI .blk 3 x.2.1)) (A.bl false)) (A.cmp .eql (A.fI .blk 4 x.1) (A.fI .blk 4 x.2.1)) (A.bl false)) (A.cmp .eql (A.fI .blk 5 x.1) (A.fI .blk 5 x.2.1)) (A.bl false)) (A.cmp .eql (A.fI .blk 6 x.1) (A.fI .blk 6 x.2.1)) (A.bl false)) x1.1 (A.bl false))
def X5 (A:Alg) (x:Tup A.ah [.i,.i]):Ot A MN:=
 A.l1 .b (A.bl false) fun x0=>
 A.l1 .b (A.cmp .geq x.1 x.2.1) fun x1=>
 A.ret _ (x1.1,x.2.1,())
def Rn (A:Alg) (alb:Pt A MN) (alc:Ft A MN) (x:Tup A.ah [.l .i64,.i]):Ot A EK:=
 A.l1 .i (A.lit 0) fun x0=>
 A.iter [.l .i64,.i,.i,.i] (fun x1=>
 A.cond (A.cmp .lss x1.2.2.1 x1.2.1) (A.l1 .i x1.2.2.1 fun x2=>
 A.bd .i64 x1.1 x2.1<|
 A.cl alb alc (A.fI .i64 0 (A.get .i64 x1.1 x2.1),x1.2.2.2.1,()) fun x3=>
 A.cond x3.1 (A.l1 .i x2.1 fun x4=>
 A.inr _<|A.ret _ (x4.1,x3.2.1,()))<|
 A.inl _ (x1.1,x1.2.1,A.arith .add .i64 x1.2.2.1 (A.lit 1),x3.2.1,()))<|
 A.inr _<|A.l1 .i (A.lit (-1)) fun x2=>
 A.ret _ (x2.1,x1.2.2.2.1,())) (x.1,A.len .i64 x.1,A.lit 0,x.2.1,())
def Ro (A:Alg) (afj:Pt A EK) (afk:Ft A EK) (x:Tup A.ah [.l .i64,.i]):Ot A EL:=
 A.l1 .b (A.bl false) fun x0=>
 A.cl afj afk (x.1,x.2.1,()) fun x1=>
 A.l1 .b (A.cmp .geq x1.1 (A.lit 0)) fun x2=>
 A.ret _ (x2.1,x1.2.1,())
def X6 (A:Alg) (afl:Pt A EL) (afm:Ft A EL) (x:Tup A.ah [.x .poly,.i]):Ot A Bq:=
 A.l1 .b (A.bl false) fun x0=>
 A.iter [.l .mono,.i,.i,.i] (fun x1=>
 A.cond (A.cmp .lss x1.2.2.1 x1.2.1) (A.bd .mono x1.1 x1.2.2.1<|
 A.l1 (.x .mono) (A.get .mono x1.1 x1.2.2.1) fun x2=>
 A.cl afl afm (A.fL .mono 1 .i64 x2.1,x1.2.2.2.1,()) fun x3=>
 A.cond x3.1 (A.l1 .b (A.bl false) fun x4=>
 A.inr _<|A.ret _ (x4.1,()))<|
 A.inl _ (x1.1,x1.2.1,A.arith .add .i64 x1.2.2.1 (A.lit 1),x3.2.1,()))<|
 A.inr _<|A.rb (A.bl true)) (A.fL .poly 0 .mono x.1,A.len .mono (A.fL .poly 0 .mono x.1),A.lit 0,x.2.1,())
def afn (A:Alg) (x:Tup A.ah [.i]):Ot A MO:=
 A.l1 .b (A.bl false) fun x0=>
 A.rb (A.cmp .neq x.1 x.1)
def afo (A:Alg) (X7:Pt A MO) (X8:Ft A MO) (x:Tup A.ah [.i,.i]):Ot A EM:=
 A.l1 .i (A.lit 0) fun x0=>
 A.cl X7 X8 (x.1,()) fun x1=>
 A.l1 .b x1.1 fun x2=>
 A.cl X7 X8 (x.2.1,()) fun x3=>
 A.l1 .b x3.1 fun x4=>
 A.cond x2.1 (A.cond x4.1 (A.l1 .i (A.lit 0) fun x5=>
 A.ret _ (x5.1,()))<|
 A.l1 .i (A.lit (-1)) fun x5=>
 A.ret _ (x5.1,()))<|
 A.cond x4.1 (A.l1 .i (A.lit 1) fun x5=>
 A.ret _ (x5.1,()))<|
 A.cond (A.cmp .lss x.1 x.2.1) (A.l1 .i (A.lit (-1)) fun x5=>
 A.ret _ (x5.1,()))<|
 A.cond (A.cmp .gtr x.1 x.2.1) (A.l1 .i (A.lit 1) fun x5=>
 A.ret _ (x5.1,()))<|
 A.l1 .i (A.lit 0) fun x5=>
 A.ret _ (x5.1,())
def afp (A:Alg) (x:Tup A.ah [.l .i64]):Ot A MQ:=
 A.l1 .i (A.lit 0) fun x0=>
 A.l1 .i (A.lit 0) fun x1=>
 A.iter [.i,.l .i64,.i,.i] (fun x2=>
 A.cond (A.cmp .lss x2.2.2.2.1 x2.2.2.1) (A.bd .i64 x2.2.1 x2.2.2.2.1<|
 A.l1 .i (A.fI .i64 0 (A.get .i64 x2.2.1 x2.2.2.2.1)) fun x3=>
 A.cond (A.cmp .neq x3.1 x2.1) (A.l1 .i x3.1 fun x4=>
 A.inr _<|A.ret _ (x4.1,()))<|
 A.inl _ (x2.1,x2.2.1,x2.2.2.1,A.arith .add .i64 x2.2.2.2.1 (A.lit 1),()))<|
 A.inr _<|A.l1 .i x2.1 fun x3=>
 A.ret _ (x3.1,())) (x1.1,x.1,A.len .i64 x.1,A.lit 0,())
def X9 (A:Alg) (V3:Pt A EM) (V4:Ft A EM) (x:Tup A.ah [.l .i64,.l .i64]):Ot A MR:=
 A.l1 .i (A.lit 0) fun x0=>
 A.iter [.l .i64,.l .i64,.l .i64,.i,.i] (fun x1=>
 A.cond (A.cmp .lss x1.q.1 x1.2.2.2.1) (A.bd .i64 x1.2.2.1 x1.q.1<|
 A.l1 .i x1.q.1 fun x2=>
 A.l1 .i (A.fI .i64 0 (A.get .i64 x1.2.2.1 x1.q.1)) fun x3=>
 A.cond (A.cmp .geq x2.1 (A.len .i64 x1.2.1)) (A.l1 .i (A.lit 1) fun x4=>
 A.inr _<|A.ret _ (x4.1,()))<|
 A.bd .i64 x1.2.1 x2.1<|
 A.l1 .i (A.fI .i64 0 (A.get .i64 x1.2.1 x2.1)) fun x4=>
 A.cl V3 V4 (x3.1,x4.1,()) fun x5=>
 A.l1 .i x5.1 fun x6=>
 A.cond (A.cmp .neq x6.1 (A.lit 0)) (A.l1 .i x6.1 fun x7=>
 A.inr _<|A.ret _ (x7.1,()))<|
 A.inl _ (x1.1,x1.2.1,x1.2.2.1,x1.2.2.2.1,A.arith .add .i64 x1.q.1 (A.lit 1),()))<|
 A.inr _<|A.cond (A.cmp .lss (A.len .i64 x1.1) (A.len .i64 x1.2.1)) (A.l1 .i (A.lit (-1)) fun x2=>
 A.ret _ (x2.1,()))<|
 A.l1 .i (A.lit 0) fun x2=>
 A.ret _ (x2.1,())) (x.1,x.2.1,x.1,A.len .i64 x.1,A.lit 0,())
def Ya (A:Alg) (afq:Pt A MQ) (afr:Ft A MQ) (V3:Pt A EM) (V4:Ft A EM) (ald:Pt A MR) (ale:Ft A MR) (x:Tup A.ah [.l .i64,.l .i64]):Ot A nZ:=
 A.l1 .i (A.lit 0) fun x0=>
 A.cl V3 V4 (A.len .i64 x.1,A.len .i64 x.2.1,()) fun x1=>
 A.cl ald ale (x.1,x.2.1,()) fun x2=>
 A.l1 (.l .i64) (A.lst .i64 [A.mkX .i64 (x1.1,()),A.mkX .i64 (x2.1,())]) fun x3=>
 A.cl afq afr (x3.1,()) fun x4=>
 A.l1 .i x4.1 fun x5=>
 A.ret _ (x5.1,())
def afs (A:Alg) (X7:Pt A MO) (X8:Ft A MO) (x:Tup A.ah [.i,.i]):Ot A EN:=
 A.l1 .b (A.bl false) fun x0=>
 A.cl X7 X8 (x.1,()) fun x1=>
 A.cg x1.1 X7 X8 (x.2.1,()) fun x2=>
 A.rb (A.ak (A.ak x1.1 (A.aA x2.1) (A.bl false)) (A.bl true) (A.cmp .lss x.1 x.2.1))
def Rp (A:Alg) (Yb:Pt A EN) (Yc:Ft A EN) (x:Tup A.ah [.l .i64]):Ot A EO:=
 A.l1 .b (A.bl false) fun x0=>
 A.l1 .i (A.arith .sub .i64 (A.len .i64 x.1) (A.lit 1)) fun x1=>
 A.iter [.l .i64,.i] (fun x2=>
 A.cond (A.cmp .gtr x2.2.1 (A.lit 0)) (A.bd .i64 x2.1 x2.2.1<|
 A.bd .i64 x2.1 (A.arith .sub .i64 x2.2.1 (A.lit 1))<|
 A.cl Yb Yc (A.fI .i64 0 (A.get .i64 x2.1 x2.2.1),A.fI .i64 0 (A.get .i64 x2.1 (A.arith .sub .i64 x2.2.1 (A.lit 1))),()) fun x3=>
 A.cond x3.1 (A.l1 .b (A.bl false) fun x4=>
 A.inr _<|A.ret _ (x4.1,()))<|
 A.l1 .i (A.arith .sub .i64 x2.2.1 (A.lit 1)) fun x4=>
 A.inl _ (x2.1,x4.1,()))<|
 A.inr _<|A.rb (A.bl true)) (x.1,x1.1,())
def Yd (A:Alg) (x:Tup A.ah [.x .mono]):Ot A MS:=
 A.l1 .b (A.bl false) fun x0=>
 A.chk (A.orB (A.aA (A.cmp .gtr (A.len .i64 (A.fL .mono 1 .i64 x.1)) (A.lit 0))) (A.cmp .leq (A.lit 0) (A.lit 0)))<|
 A.chk (A.orB (A.aA (A.cmp .gtr (A.len .i64 (A.fL .mono 1 .i64 x.1)) (A.lit 0))) (A.cmp .lss (A.lit 0) (A.len .i64 (A.fL .mono 1 .i64 x.1))))<|
 A.rb (A.ak (A.cmp .gtr (A.len .i64 (A.fL .mono 1 .i64 x.1)) (A.lit 0)) (A.cmp .lss (A.fI .i64 0 (A.get .i64 (A.fL .mono 1 .i64 x.1) (A.lit 0))) (A.lit 0)) (A.bl false))
def Rq (A:Alg) (alf:Pt A MS) (alg:Ft A MS) (x:Tup A.ah [.l .mono]):Ot A EP:=
 A.l1 .i (A.lit 0) fun x0=>
 A.iter [.l .mono,.i,.i] (fun x1=>
 A.cond (A.cmp .lss x1.2.2.1 x1.2.1) (A.l1 .i x1.2.2.1 fun x2=>
 A.bd .mono x1.1 x2.1<|
 A.cl alf alg (A.get .mono x1.1 x2.1,()) fun x3=>
 A.cond x3.1 (A.l1 .i x2.1 fun x4=>
 A.inr _<|A.ret _ (x4.1,()))<|
 A.inl _ (x1.1,x1.2.1,A.arith .add .i64 x1.2.2.1 (A.lit 1),()))<|
 A.inr _<|A.l1 .i (A.lit (-1)) fun x2=>
 A.ret _ (x2.1,())) (x.1,A.len .mono x.1,A.lit 0,())
def Rs (A:Alg) (aft:Pt A EP) (afu:Ft A EP) (x:Tup A.ah [.l .mono]):Ot A ER:=
 A.l1 .b (A.bl false) fun x0=>
 A.cl aft afu (x.1,()) fun x1=>
 A.rb (A.cmp .geq x1.1 (A.lit 0))
def Ye (A:Alg) (fZ:Pt A bZ) (gq:Ft A bZ) (Ux:Pt A Bq) (Uy:Ft A Bq) (afv:Pt A EO) (afw:Ft A EO) (FL:Pt A nZ) (FN:Ft A nZ) (afx:Pt A ER) (afy:Ft A ER) (x:Tup A.ah [.x .poly]):Ot A iG:=
 A.l1 .b (A.bl false) fun x0=>
 A.iter [.l .mono,.i,.i,.x .poly] (fun x1=>
 A.cond (A.cmp .lss x1.2.2.1 x1.2.1) (A.bd .mono x1.1 x1.2.2.1<|
 A.l1 .i x1.2.2.1 fun x2=>
 A.l1 (.x .mono) (A.get .mono x1.1 x1.2.2.1) fun x3=>
 A.cl fZ gq (A.fI .mono 0 x3.1,A.lit 1,A.lit 65535,()) fun x4=>
 A.cg (A.aA (A.ak (A.aA x4.1) (A.bl true) (A.cmp .gtr (A.len .i64 (A.fL .mono 1 .i64 x3.1)) (A.lit 4)))) afv afw (A.fL .mono 1 .i64 x3.1,()) fun x5=>
 A.chk (A.orB (A.aA (A.mJ (A.aA (A.ak (A.ak (A.aA x4.1) (A.bl true) (A.cmp .gtr (A.len .i64 (A.fL .mono 1 .i64 x3.1)) (A.lit 4))) (A.bl true) (A.aA x5.1))) (A.cmp .gtr x2.1 (A.lit 0)))) (A.cmp .leq (A.lit 0) (A.arith .sub .i64 x2.1 (A.lit 1))))<|
 A.chk (A.orB (A.aA (A.mJ (A.aA (A.ak (A.ak (A.aA x4.1) (A.bl true) (A.cmp .gtr (A.len .i64 (A.fL .mono 1 .i64 x3.1)) (A.lit 4))) (A.bl true) (A.aA x5.1))) (A.cmp .gtr x2.1 (A.lit 0)))) (A.cmp .lss (A.arith .sub .i64 x2.1 (A.lit 1)) (A.len .mono (A.fL .poly 0 .mono x1.2.2.2.1))))<|
 A.cg (A.mJ (A.aA (A.ak (A.ak (A.aA x4.1) (A.bl true) (A.cmp .gtr (A.len .i64 (A.fL .mono 1 .i64 x3.1)) (A.lit 4))) (A.bl true) (A.aA x5.1))) (A.cmp .gtr x2.1 (A.lit 0))) FL FN (A.fL .mono 1 .i64 (A.get .mono (A.fL .poly 0 .mono x1.2.2.2.1) (A.arith .sub .i64 x2.1 (A.lit 1))),A.fL .mono 1 .i64 x3.1,()) fun x6=>
 A.cond (A.ak (A.ak (A.ak (A.aA x4.1) (A.bl true) (A.cmp .gtr (A.len .i64 (A.fL .mono 1 .i64 x3.1)) (A.lit 4))) (A.bl true) (A.aA x5.1)) (A.bl true) (A.ak (A.cmp .gtr x2.1 (A.lit 0)) (A.cmp .geq x6.1 (A.lit 0)) (A.bl false))) (A.l1 .b (A.bl false) fun x7=>
 A.inr _<|A.ret _ (x7.1,()))<|
 A.inl _ (x1.1,x1.2.1,A.arith .add .i64 x1.2.2.1 (A.lit 1),x1.2.2.2.1,()))<|
 A.inr _<|A.cg (A.cmp .leq (A.len .mono (A.fL .poly 0 .mono x1.2.2.2.1)) (A.lit 12)) Ux Uy (x1.2.2.2.1,A.lit 200,()) fun x2=>
 A.cg (A.ak (A.cmp .leq (A.len .mono (A.fL .poly 0 .mono x1.2.2.2.1)) (A.lit 12)) x2.1 (A.bl false)) afx afy (A.fL .poly 0 .mono x1.2.2.2.1,()) fun x3=>
 A.rb (A.ak (A.ak (A.cmp .leq (A.len .mono (A.fL .poly 0 .mono x1.2.2.2.1)) (A.lit 12)) x2.1 (A.bl false)) (A.aA x3.1) (A.bl false))) (A.fL .poly 0 .mono x.1,A.len .mono (A.fL .poly 0 .mono x.1),A.lit 0,x.1,())
def Yf (A:Alg) (fZ:Pt A bZ) (gq:Ft A bZ) (XK:Pt A Bj) (XL:Ft A Bj) (Ux:Pt A Bq) (Uy:Ft A Bq) (kR:Pt A iG) (kS:Ft A iG) (Uv:Pt A Bh) (Uw:Ft A Bh) (x:Tup A.ah [.x .atom,.i]):Ot A Br:=
 A.l1 .b (A.bl false) fun x0=>
 A.cond (A.cmp .eql (A.fI .atom 0 x.1) (A.lit 4)) (A.cl XK XL (A.fI .atom 1 x.1,()) fun x1=>
 A.cg x1.1 kR kS (A.mkX .poly (A.fL .atom 2 .mono x.1,()),()) fun x2=>
 A.cg (A.ak x1.1 x2.1 (A.bl false)) kR kS (A.mkX .poly (A.fL .atom 3 .mono x.1,()),()) fun x3=>
 A.cg (A.ak (A.ak x1.1 x2.1 (A.bl false)) x3.1 (A.bl false)) Ux Uy (A.mkX .poly (A.fL .atom 2 .mono x.1,()),x.2.1,()) fun x4=>
 A.cg (A.ak (A.ak (A.ak x1.1 x2.1 (A.bl false)) x3.1 (A.bl false)) x4.1 (A.bl false)) Ux Uy (A.mkX .poly (A.fL .atom 3 .mono x.1,()),x.2.1,()) fun x5=>
 A.rb (A.ak (A.ak (A.ak (A.ak x1.1 x2.1 (A.bl false)) x3.1 (A.bl false)) x4.1 (A.bl false)) x5.1 (A.bl false)))<|
 A.cond (A.cmp .gtr (A.arith .add .i64 (A.len .mono (A.fL .atom 2 .mono x.1)) (A.len .mono (A.fL .atom 3 .mono x.1))) (A.lit 0)) (A.rb (A.bl false))<|
 A.cg (A.cmp .eql (A.fI .atom 0 x.1) (A.lit 1)) Uv Uw (A.fI .atom 1 x.1,()) fun x1=>
 A.cg (A.mJ (A.aA (A.ak (A.cmp .eql (A.fI .atom 0 x.1) (A.lit 1)) x1.1 (A.bl false))) (A.ak (A.cmp .eql (A.fI .atom 0 x.1) (A.lit 2)) (A.bl true) (A.cmp .eql (A.fI .atom 0 x.1) (A.lit 3)))) fZ gq (A.fI .atom 1 x.1,A.lit 0,A.lit 199,()) fun x2=>
 A.rb (A.ak (A.ak (A.cmp .eql (A.fI .atom 0 x.1) (A.lit 1)) x1.1 (A.bl false)) (A.bl true) (A.ak (A.ak (A.cmp .eql (A.fI .atom 0 x.1) (A.lit 2)) (A.bl true) (A.cmp .eql (A.fI .atom 0 x.1) (A.lit 3))) x2.1 (A.bl false)))
def Yg (A:Alg) (afq:Pt A MQ) (afr:Ft A MQ) (V3:Pt A EM) (V4:Ft A EM) (FL:Pt A nZ) (FN:Ft A nZ) (x:Tup A.ah [.x .poly,.x .poly]):Ot A uD:=
 A.l1 .i (A.lit 0) fun x0=>
 A.cl V3 V4 (A.len .mono (A.fL .poly 0 .mono x.1),A.len .mono (A.fL .poly 0 .mono x.2.1),()) fun x1=>
 A.l1 .i x1.1 fun x2=>
 A.cond (A.cmp .neq x2.1 (A.lit 0)) (A.l1 .i x2.1 fun x3=>
 A.ret _ (x3.1,()))<|
 A.iter [.l .mono,.i,.i,.x .poly] (fun x3=>
 A.cond (A.cmp .lss x3.2.2.1 x3.2.1) (A.bd .mono x3.1 x3.2.2.1<|
 A.l1 .i x3.2.2.1 fun x4=>
 A.l1 (.x .mono) (A.get .mono x3.1 x3.2.2.1) fun x5=>
 A.bd .mono (A.fL .poly 0 .mono x3.2.2.2.1) x4.1<|
 A.bd .mono (A.fL .poly 0 .mono x3.2.2.2.1) x4.1<|
 A.cl FL FN (A.fL .mono 1 .i64 x5.1,A.fL .mono 1 .i64 (A.get .mono (A.fL .poly 0 .mono x3.2.2.2.1) x4.1),()) fun x6=>
 A.cl V3 V4 (A.fI .mono 0 x5.1,A.fI .mono 0 (A.get .mono (A.fL .poly 0 .mono x3.2.2.2.1) x4.1),()) fun x7=>
 A.cl afq afr (A.lst .i64 [A.mkX .i64 (x6.1,()),A.mkX .i64 (x7.1,())],()) fun x8=>
 A.l1 .i x8.1 fun x9=>
 A.cond (A.cmp .neq x9.1 (A.lit 0)) (A.l1 .i x9.1 fun x10=>
 A.inr _<|A.ret _ (x10.1,()))<|
 A.inl _ (x3.1,x3.2.1,A.arith .add .i64 x3.2.2.1 (A.lit 1),x3.2.2.2.1,()))<|
 A.inr _<|A.l1 .i (A.lit 0) fun x4=>
 A.ret _ (x4.1,())) (A.fL .poly 0 .mono x.1,A.len .mono (A.fL .poly 0 .mono x.1),A.lit 0,x.2.1,())
def Yh (A:Alg) (Nu:Pt A uD) (Nv:Ft A uD) (x:Tup A.ah [.x .poly,.x .poly]):Ot A jr:=
 A.l1 .b (A.bl false) fun x0=>
 A.cl Nu Nv (x.1,x.2.1,()) fun x1=>
 A.rb (A.cmp .eql x1.1 (A.lit 0))
def Yi (A:Alg) (lK:Pt A jr) (lM:Ft A jr) (x:Tup A.ah [.x .atom,.x .atom]):Ot A MU:=
 A.l1 .b (A.bl false) fun x0=>
 A.cg (A.ak (A.cmp .eql (A.fI .atom 0 x.1) (A.fI .atom 0 x.2.1)) (A.cmp .eql (A.fI .atom 1 x.1) (A.fI .atom 1 x.2.1)) (A.bl false)) lK lM (A.mkX .poly (A.fL .atom 2 .mono x.1,()),A.mkX .poly (A.fL .atom 2 .mono x.2.1,()),()) fun x1=>
 A.cg (A.ak (A.ak (A.cmp .eql (A.fI .atom 0 x.1) (A.fI .atom 0 x.2.1)) (A.cmp .eql (A.fI .atom 1 x.1) (A.fI .atom 1 x.2.1)) (A.bl false)) x1.1 (A.bl false)) lK lM (A.mkX .poly (A.fL .atom 3 .mono x.1,()),A.mkX .poly (A.fL .atom 3 .mono x.2.1,()),()) fun x2=>
 A.rb (A.ak (A.ak (A.ak (A.cmp .eql (A.fI .atom 0 x.1) (A.fI .atom 0 x.2.1)) (A.cmp .eql (A.fI .atom 1 x.1) (A.fI .atom 1 x.2.1)) (A.bl false)) x1.1 (A.bl false)) x2.1 (A.bl false))
def Yj (A:Alg) (alh:Pt A MU) (ali:Ft A MU) (x:Tup A.ah [.x .atom,.x .atom]):Ot A MV:=
 A.l1 .b (A.bl false) fun x0=>
 A.cl alh ali (x.2.1,x.1,()) fun x1=>
 A.l1 .b x1.1 fun x2=>
 A.ret _ (x2.1,x.2.1,())
def Rt (A:Alg) (alj:Pt A MV) (alk:Ft A MV) (x:Tup A.ah [.l .atom,.x .atom]):Ot A ET:=
 A.l1 .i (A.lit 0) fun x0=>
 A.iter [.l .atom,.i,.i,.x .atom] (fun x1=>
 A.cond (A.cmp .lss x1.2.2.1 x1.2.1) (A.l1 .i x1.2.2.1 fun x2=>
 A.bd .atom x1.1 x2.1<|
 A.cl alj alk (A.get .atom x1.1 x2.1,x1.2.2.2.1,()) fun x3=>
 A.cond x3.1 (A.l1 .i x2.1 fun x4=>
 A.inr _<|A.ret _ (x4.1,x3.2.1,()))<|
 A.inl _ (x1.1,x1.2.1,A.arith .add .i64 x1.2.2.1 (A.lit 1),x3.2.1,()))<|
 A.inr _<|A.l1 .i (A.lit (-1)) fun x2=>
 A.ret _ (x2.1,x1.2.2.2.1,())) (x.1,A.len .atom x.1,A.lit 0,x.2.1,())
def Yk (A:Alg) (afz:Pt A ET) (afA:Ft A ET) (x:Tup A.ah [.x .tab,.x .atom]):Ot A Bu:=
 A.l1 .i (A.lit 0) fun x0=>
 A.cl afz afA (A.fL .tab 0 .atom x.1,x.2.1,()) fun x1=>
 A.l1 .i x1.1 fun x2=>
 A.ret _ (x2.1,())
def Yl (A:Alg) (x:Tup A.ah [.l .atom]):Ot A MW:=
 A.chk (A.cmp .leq (A.lit 0) (A.lit 0))<|
 A.chk (A.cmp .leq (A.lit 0) (A.len .atom x.1))<|
 A.chk (A.cmp .leq (A.len .atom x.1) (A.len .atom x.1))<|
 A.chk (A.cmp .eql (A.len .atom x.1) (A.len .atom x.1))<|
 A.ret _ (A.sub .atom x.1 (A.lit 0) (A.len .atom x.1),())
def Ym (A:Alg) (Yn:Pt A Br) (Yo:Ft A Br) (Yp:Pt A Bu) (Yq:Ft A Bu) (alm:Pt A MW) (aln:Ft A MW) (x:Tup A.ah [.x .tab,.x .atom]):Ot A Bv:=
 A.l1 .i (A.lit 0) fun x0=>
 A.cl Yp Yq (x.1,x.2.1,()) fun x1=>
 A.l1 .i x1.1 fun x2=>
 A.cond (A.cmp .geq x2.1 (A.lit 0)) (A.l1 (.x .tab) x.1 fun x3=>
 A.l1 .i x2.1 fun x4=>
 A.ret _ (x3.1,x4.1,()))<|
 A.cl Yn Yo (x.2.1,A.len .atom (A.fL .tab 0 .atom x.1),()) fun x3=>
 A.cond (A.ak (A.aA x3.1) (A.bl true) (A.cmp .eql (A.len .atom (A.fL .tab 0 .atom x.1)) (A.lit 200))) (A.l1 (.x .tab) x.1 fun x4=>
 A.l1 .i (A.lit (-1)) fun x5=>
 A.ret _ (x4.1,x5.1,()))<|
 A.cl alm aln (A.fL .tab 0 .atom x.1,()) fun x4=>
 A.chk (A.orB (A.cmp .lss (A.lit 0) (A.len .atom (A.lst .atom [x.2.1]))) (A.cmp .eql (A.len .atom x4.1) (A.lit 0)))<|
 A.chk (A.cmp .leq (A.addN (A.len .atom x4.1) (A.len .atom (A.lst .atom [x.2.1]))) (A.lit 1073741824))<|
 A.l1 (.l .atom) (A.app .atom x4.1 (A.lst .atom [x.2.1])) fun x5=>
 A.l1 .i (A.len .atom (A.fL .tab 0 .atom x.1)) fun x6=>
 A.ret _ (A.mkX .tab (x5.1,()),x6.1,())
def Yr (A:Alg) (fZ:Pt A bZ) (gq:Ft A bZ) (x:Tup A.ah [.i]):Ot A Bw:=
 A.cl fZ gq (x.1,A.lit 0,A.lit 199,()) fun x0=>
 A.cond (A.aA x0.1) (A.ret _ (A.bN .mono,()))<|
 A.l1 (.l .i64) (A.lst .i64 [A.mkX .i64 (x.1,())]) fun x1=>
 A.l1 (.l .mono) (A.lst .mono [A.mkX .mono (A.lit 1,x1.1,())]) fun x2=>
 A.ret _ (x2.1,())
def Yt (A:Alg) (Yu:Pt A Bw) (Yv:Ft A Bw) (Yw:Pt A Bv) (Yx:Ft A Bv) (x:Tup A.ah [.i,.i,.l .atom,.b]):Ot A Bz:=
 A.cl Yw Yx (A.mkX .tab (x.2.2.1,()),A.mkX .atom (x.1,x.2.1,A.bN .mono,A.bN .mono,()),()) fun x0=>
 A.l1 (.x .tab) x0.1 fun x1=>
 A.l1 .i x0.2.1 fun x2=>
 A.cond (A.cmp .lss x2.1 (A.lit 0)) (A.l1 .b (A.bl true) fun x3=>
 A.ret _ (A.mkX .poly (A.bN .mono,()),x.2.2.1,x3.1,()))<|
 A.l1 (.x .tab) x1.1 fun x3=>
 A.cl Yu Yv (x2.1,()) fun x4=>
 A.ret _ (A.mkX .poly (x4.1,()),A.fL .tab 0 .atom x3.1,x.2.2.2.1,())
def Yy (A:Alg) (Uz:Pt A Bz) (UA:Ft A Bz) (x:Tup A.ah [.l .atom,.b]):Ot A BA:=
 A.iter [.i,.l .atom,.b,.l .poly] (fun x0=>
 A.cond (A.cmp .lss x0.1 (A.lit 4)) (A.l1 .i x0.1 fun x1=>
 A.cl Uz UA (A.lit 1,x1.1,x0.2.1,x0.2.2.1,()) fun x2=>
 A.l1 (.l .poly) (A.lst .poly [x2.1]) fun x3=>
 A.chk (A.cmp .leq (A.addN (A.len .poly x0.2.2.2.1) (A.len .poly x3.1)) (A.lit 1073741824))<|
 A.l1 (.l .poly) (A.app .poly x0.2.2.2.1 x3.1) fun x4=>
 A.inl _ (A.arith .add .i64 x0.1 (A.lit 1),x2.2.1,x2.2.2.1,x4.1,()))<|
 A.inr _<|A.ret _ (x0.2.1,x0.2.2.1,x0.2.2.2.1,())) (A.lit 0,x.1,x.2.1,A.bN .poly,())
def Yz (A:Alg) (x:Tup A.ah [.l .i64]):Ot A BD:=
 A.chk (A.cmp .leq (A.len .i64 x.1) (A.lit 1073741824))<|
 A.l1 (.l .i64) x.1 fun x0=>
 A.ret _ (x0.1,())
def YA (A:Alg) (YB:Pt A BD) (YC:Ft A BD) (x:Tup A.ah [.x .poly]):Ot A uE:=
 A.iter [.l .mono,.i,.i,.l .mono] (fun x0=>
 A.cond (A.cmp .lss x0.2.2.1 x0.2.1) (A.bd .mono x0.1 x0.2.2.1<|
 A.l1 (.x .mono) (A.get .mono x0.1 x0.2.2.1) fun x1=>
 A.cl YB YC (A.fL .mono 1 .i64 x1.1,()) fun x2=>
 A.l1 (.l .mono) (A.lst .mono [A.mkX .mono (A.fI .mono 0 x1.1,x2.1,())]) fun x3=>
 A.chk (A.cmp .leq (A.addN (A.len .mono x0.2.2.2.1) (A.len .mono x3.1)) (A.lit 1073741824))<|
 A.l1 (.l .mono) (A.app .mono x0.2.2.2.1 x3.1) fun x4=>
 A.inl _ (x0.1,x0.2.1,A.arith .add .i64 x0.2.2.1 (A.lit 1),x4.1,()))<|
 A.inr _<|A.ret _ (x0.2.2.2.1,())) (A.fL .poly 0 .mono x.1,A.len .mono (A.fL .poly 0 .mono x.1),A.lit 0,A.bN .mono,())
def YD (A:Alg) (zq:Pt A uE) (zu:Ft A uE) (x:Tup A.ah [.x .tab]):Ot A BF:=
 A.iter [.l .atom,.i,.i,.l .atom] (fun x0=>
 A.cond (A.cmp .lss x0.2.2.1 x0.2.1) (A.bd .atom x0.1 x0.2.2.1<|
 A.l1 (.x .atom) (A.get .atom x0.1 x0.2.2.1) fun x1=>
 A.cl zq zu (A.mkX .poly (A.fL .atom 2 .mono x1.1,()),()) fun x2=>
 A.cl zq zu (A.mkX .poly (A.fL .atom 3 .mono x1.1,()),()) fun x3=>
 A.l1 (.l .atom) (A.lst .atom [A.mkX .atom (A.fI .atom 0 x1.1,A.fI .atom 1 x1.1,x2.1,x3.1,())]) fun x4=>
 A.chk (A.cmp .leq (A.addN (A.len .atom x0.2.2.2.1) (A.len .atom x4.1)) (A.lit 1073741824))<|
 A.l1 (.l .atom) (A.app .atom x0.2.2.2.1 x4.1) fun x5=>
 A.inl _ (x0.1,x0.2.1,A.arith .add .i64 x0.2.2.1 (A.lit 1),x5.1,()))<|
 A.inr _<|A.ret _ (x0.2.2.2.1,())) (A.fL .tab 0 .atom x.1,A.len .atom (A.fL .tab 0 .atom x.1),A.lit 0,A.bN .atom,())
def YE (A:Alg) (YF:Pt A BF) (YG:Ft A BF) (YH:Pt A BA) (YI:Ft A BA) (x:Tup A.ah []):Ot A MX:=
 A.cl YH YI (A.bN .atom,A.bl false,()) fun x0=>
 A.cl YF YG (A.mkX .tab (x0.1,()),()) fun x1=>
 A.ret _ (A.mkX .tab (x1.1,()),x0.2.2.1,())
def YJ (A:Alg) (fZ:Pt A bZ) (gq:Ft A bZ) (x:Tup A.ah [.x .iop]):Ot A MZ:=
 A.l1 .b (A.bl false) fun x0=>
 A.cl fZ gq (A.fI .iop 0 x.1,A.lit 4,A.lit 7,()) fun x1=>
 A.rb x1.1
def YK (A:Alg) (Yn:Pt A Br) (Yo:Ft A Br) (Yp:Pt A Bu) (Yq:Ft A Bu) (x:Tup A.ah [.x .tab]):Ot A M0:=
 A.l1 .b (A.bl false) fun x0=>
 A.iter [.l .atom,.i,.i,.x .tab] (fun x1=>
 A.cond (A.cmp .lss x1.2.2.1 x1.2.1) (A.bd .atom x1.1 x1.2.2.1<|
 A.l1 .i x1.2.2.1 fun x2=>
 A.l1 (.x .atom) (A.get .atom x1.1 x1.2.2.1) fun x3=>
 A.cl Yn Yo (x3.1,x2.1,()) fun x4=>
 A.cg (A.aA (A.aA x4.1)) Yp Yq (x1.2.2.2.1,x3.1,()) fun x5=>
 A.cond (A.ak (A.aA x4.1) (A.bl true) (A.cmp .neq x5.1 x2.1)) (A.l1 .b (A.bl false) fun x6=>
 A.inr _<|A.ret _ (x6.1,()))<|
 A.inl _ (x1.1,x1.2.1,A.arith .add .i64 x1.2.2.1 (A.lit 1),x1.2.2.2.1,()))<|
 A.inr _<|A.rb (A.cmp .leq (A.len .atom (A.fL .tab 0 .atom x1.2.2.2.1)) (A.lit 200))) (A.fL .tab 0 .atom x.1,A.len .atom (A.fL .tab 0 .atom x.1),A.lit 0,x.1,())
def YL (A:Alg) (x:Tup A.ah [.l .poly]):Ot A M4:=
 A.chk (A.cmp .neq (A.len .poly x.1) (A.lit 0))<|
 A.cond (A.bl false) (A.ret _ (x.1,A.bN .poly,()))<|
 A.l1 (.l .poly) (A.lst .poly []) fun x0=>
 A.chk (A.cmp .leq (A.addN (A.len .poly x0.1) (A.len .poly x.1)) (A.lit 1073741824))<|
 A.l1 (.l .poly) (A.app .poly x0.1 x.1) fun x1=>
 A.ret _ (x.1,x1.1,())
def YM (A:Alg) (fZ:Pt A bZ) (gq:Ft A bZ) (x:Tup A.ah [.i]):Ot A uF:=
 A.cl fZ gq (x.1,A.lit 1,A.lit 65535,()) fun x0=>
 A.cond (A.aA x0.1) (A.ret _ (A.bN .mono,()))<|
 A.l1 (.l .mono) (A.lst .mono [A.mkX .mono (x.1,A.bN .i64,())]) fun x1=>
 A.ret _ (x1.1,())
def YN (A:Alg) (x:Tup A.ah [.i]):Ot A uG:=
 A.l1 .i (A.lit 0) fun x0=>
 A.l1 .i (A.arith .and .i64 x.1 (A.lit 65535)) fun x1=>
 A.ret _ (x1.1,())
def YO (A:Alg) (qx:Pt A jo) (qy:Ft A jo) (FP:Pt A uG) (FQ:Ft A uG) (x:Tup A.ah [.i,.i,.i]):Ot A BG:=
 A.l1 .i (A.lit 0) fun x0=>
 A.cl qx qy (x.2.1,()) fun x1=>
 A.cg (A.aA (A.aA x1.1)) qx qy (x.2.2.1,()) fun x2=>
 A.cond (A.ak (A.aA x1.1) (A.bl true) (A.aA x2.1)) (A.l1 .i (A.lit 0) fun x3=>
 A.ret _ (x3.1,()))<|
 A.l1 .b (A.cmp .eql x.1 (A.lit 1)) fun x3=>
 A.cond x3.1 (A.cl FP FQ (A.arith .add .i64 x.2.1 x.2.2.1,()) fun x4=>
 A.l1 .i x4.1 fun x5=>
 A.ret _ (x5.1,()))<|
 A.l1 .b (A.cmp .eql x.1 (A.lit 2)) fun x4=>
 A.cond x4.1 (A.cl FP FQ (A.arith .sub .i64 x.2.1 x.2.2.1,()) fun x5=>
 A.l1 .i x5.1 fun x6=>
 A.ret _ (x6.1,()))<|
 A.l1 .b (A.cmp .eql x.1 (A.lit 3)) fun x5=>
 A.cond x5.1 (A.cl FP FQ (A.arith .mul .i64 x.2.1 x.2.2.1,()) fun x6=>
 A.l1 .i x6.1 fun x7=>
 A.ret _ (x7.1,()))<|
 A.l1 .b (A.cmp .eql x.1 (A.lit 4)) fun x6=>
 A.cond x6.1 (A.l1 .i (A.arith .and .i64 x.2.1 x.2.2.1) fun x7=>
 A.ret _ (x7.1,()))<|
 A.l1 .b (A.cmp .eql x.1 (A.lit 5)) fun x7=>
 A.cond x7.1 (A.l1 .i (A.arith .xor .i64 x.2.1 x.2.2.1) fun x8=>
 A.ret _ (x8.1,()))<|
 A.l1 .i (A.lit 0) fun x8=>
 A.ret _ (x8.1,())
def YP (A:Alg) (kR:Pt A iG) (kS:Ft A iG) (x:Tup A.ah [.x .poly]):Ot A BH:=
 A.l1 .i (A.lit 0) fun x0=>
 A.l1 .b (A.bl false) fun x1=>
 A.cl kR kS (x.1,()) fun x2=>
 A.l1 .b (A.aA x2.1) fun x3=>
 A.cond x3.1 (A.l1 .i (A.lit 0) fun x4=>
 A.l1 .b (A.bl false) fun x5=>
 A.ret _ (x4.1,x5.1,()))<|
 A.l1 .b (A.cmp .eql (A.len .mono (A.fL .poly 0 .mono x.1)) (A.lit 0)) fun x4=>
 A.cond x4.1 (A.l1 .i (A.lit 0) fun x5=>
 A.l1 .b (A.bl true) fun x6=>
 A.ret _ (x5.1,x6.1,()))<|
 A.chk (A.orB (A.aA (A.cmp .eql (A.len .mono (A.fL .poly 0 .mono x.1)) (A.lit 1))) (A.cmp .leq (A.lit 0) (A.lit 0)))<|
 A.chk (A.orB (A.aA (A.cmp .eql (A.len .mono (A.fL .poly 0 .mono x.1)) (A.lit 1))) (A.cmp .lss (A.lit 0) (A.len .mono (A.fL .poly 0 .mono x.1))))<|
 A.l1 .b (A.ak (A.cmp .eql (A.len .mono (A.fL .poly 0 .mono x.1)) (A.lit 1)) (A.cmp .eql (A.len .i64 (A.fL .mono 1 .i64 (A.get .mono (A.fL .poly 0 .mono x.1) (A.lit 0)))) (A.lit 0)) (A.bl false)) fun x5=>
 A.cond x5.1 (A.bd .mono (A.fL .poly 0 .mono x.1) (A.lit 0)<|
 A.l1 .i (A.fI .mono 0 (A.get .mono (A.fL .poly 0 .mono x.1) (A.lit 0))) fun x6=>
 A.l1 .b (A.bl true) fun x7=>
 A.ret _ (x6.1,x7.1,()))<|
 A.l1 .i (A.lit 0) fun x6=>
 A.l1 .b (A.bl false) fun x7=>
 A.ret _ (x6.1,x7.1,())
def YQ (A:Alg) (FL:Pt A nZ) (FN:Ft A nZ) (x:Tup A.ah [.x .mono,.x .mono]):Ot A BI:=
 A.l1 .i (A.lit 0) fun x0=>
 A.cl FL FN (A.fL .mono 1 .i64 x.1,A.fL .mono 1 .i64 x.2.1,()) fun x1=>
 A.l1 .i x1.1 fun x2=>
 A.ret _ (x2.1,())
def Rv (A:Alg) (Nw:Pt A BI) (Ny:Ft A BI) (x:Tup A.ah [.i,.i,.l .mono]):Ot A EU:=
 A.l1 .i (A.arith .add .i64 x.1 (A.lit 1)) fun x0=>
 A.iter [.i,.i,.i,.l .mono] (fun x1=>
 A.cond (A.cmp .lss x1.2.2.1 x1.2.1) (A.l1 .i x1.2.2.1 fun x2=>
 A.iter [.i,.i,.i,.i,.l .mono] (fun x3=>
 A.chk (A.orB (A.aA (A.cmp .gtr x3.2.2.2.1 x3.1)) (A.cmp .leq (A.lit 0) x3.2.2.2.1))<|
 A.chk (A.orB (A.aA (A.cmp .gtr x3.2.2.2.1 x3.1)) (A.cmp .lss x3.2.2.2.1 (A.len .mono x3.q.1)))<|
 A.chk (A.orB (A.aA (A.cmp .gtr x3.2.2.2.1 x3.1)) (A.cmp .leq (A.lit 0) x3.2.2.2.1))<|
 A.chk (A.orB (A.aA (A.cmp .gtr x3.2.2.2.1 x3.1)) (A.cmp .lss x3.2.2.2.1 (A.len .mono x3.q.1)))<|
 A.chk (A.orB (A.aA (A.cmp .gtr x3.2.2.2.1 x3.1)) (A.cmp .leq (A.lit 0) (A.arith .sub .i64 x3.2.2.2.1 (A.lit 1))))<|
 A.chk (A.orB (A.aA (A.cmp .gtr x3.2.2.2.1 x3.1)) (A.cmp .lss (A.arith .sub .i64 x3.2.2.2.1 (A.lit 1)) (A.len .mono x3.q.1)))<|
 A.chk (A.orB (A.aA (A.cmp .gtr x3.2.2.2.1 x3.1)) (A.cmp .leq (A.lit 0) (A.arith .sub .i64 x3.2.2.2.1 (A.lit 1))))<|
 A.chk (A.orB (A.aA (A.cmp .gtr x3.2.2.2.1 x3.1)) (A.cmp .lss (A.arith .sub .i64 x3.2.2.2.1 (A.lit 1)) (A.len .mono x3.q.1)))<|
 A.cg (A.cmp .gtr x3.2.2.2.1 x3.1) Nw Ny (A.get .mono x3.q.1 x3.2.2.2.1,A.get .mono x3.q.1 (A.arith .sub .i64 x3.2.2.2.1 (A.lit 1)),()) fun x4=>
 A.cond (A.ak (A.cmp .gtr x3.2.2.2.1 x3.1) (A.cmp .lss x4.1 (A.lit 0)) (A.bl false)) (A.bd .mono x3.q.1 (A.arith .sub .i64 x3.2.2.2.1 (A.lit 1))<|
 A.bd .mono x3.q.1 (A.arith .sub .i64 x3.2.2.2.1 (A.lit 1))<|
 A.bd .mono x3.q.1 x3.2.2.2.1<|
 A.bd .mono x3.q.1 x3.2.2.2.1<|
 A.bd .mono x3.q.1 x3.2.2.2.1<|
 A.bd .mono x3.q.1 x3.2.2.2.1<|
 A.l1 (.x .mono) (A.get .mono x3.q.1 (A.arith .sub .i64 x3.2.2.2.1 (A.lit 1))) fun x5=>
 A.bd .mono (A.set .mono x3.q.1 x3.2.2.2.1 x5.1) (A.arith .sub .i64 x3.2.2.2.1 (A.lit 1))<|
 A.bd .mono (A.set .mono x3.q.1 x3.2.2.2.1 x5.1) (A.arith .sub .i64 x3.2.2.2.1 (A.lit 1))<|
 A.l1 (.x .mono) (A.get .mono x3.q.1 x3.2.2.2.1) fun x6=>
 A.l1 .i (A.arith .sub .i64 x3.2.2.2.1 (A.lit 1)) fun x7=>
 A.inl _ (x3.1,x3.2.1,x3.2.2.1,x7.1,A.set .mono (A.set .mono x3.q.1 x3.2.2.2.1 x5.1) (A.arith .sub .i64 x3.2.2.2.1 (A.lit 1)) x6.1,()))<|
 A.inr _<|A.l1 .i (A.arith .add .i64 x3.2.2.1 (A.lit 1)) fun x5=>
 A.inl _ (x3.1,x3.2.1,x5.1,x3.q.1,())) (x1.1,x1.2.1,x1.2.2.1,x2.1,x1.2.2.2.1,()))<|
 A.inr _<|A.ret _ (x1.2.2.2.1,())) (x.1,x.2.1,x0.1,x.2.2.1,())
def Rw (A:Alg) (x:Tup A.ah [.i,.i,.i,.l .mono]):Ot A EW:=
 A.l1 .i (A.lit 0) fun x0=>
 A.iter [.i,.i,.i,.i,.l .mono] (fun x1=>
 A.cond (A.cmp .lss x1.2.2.2.1 x1.2.2.1) (A.bd .mono x1.q.1 (A.arith .add .i64 x1.2.1 x1.2.2.2.1)<|
 A.bd .mono x1.q.1 (A.arith .add .i64 x1.2.1 x1.2.2.2.1)<|
 A.bd .mono x1.q.1 (A.arith .add .i64 x1.1 x1.2.2.2.1)<|
 A.bd .mono x1.q.1 (A.arith .add .i64 x1.1 x1.2.2.2.1)<|
 A.bd .mono x1.q.1 (A.arith .add .i64 x1.1 x1.2.2.2.1)<|
 A.bd .mono x1.q.1 (A.arith .add .i64 x1.1 x1.2.2.2.1)<|
 A.l1 (.x .mono) (A.get .mono x1.q.1 (A.arith .add .i64 x1.2.1 x1.2.2.2.1)) fun x2=>
 A.bd .mono (A.set .mono x1.q.1 (A.arith .add .i64 x1.1 x1.2.2.2.1) x2.1) (A.arith .add .i64 x1.2.1 x1.2.2.2.1)<|
 A.bd .mono (A.set .mono x1.q.1 (A.arith .add .i64 x1.1 x1.2.2.2.1) x2.1) (A.arith .add .i64 x1.2.1 x1.2.2.2.1)<|
 A.l1 (.x .mono) (A.get .mono x1.q.1 (A.arith .add .i64 x1.1 x1.2.2.2.1)) fun x3=>
 A.l1 .i (A.arith .add .i64 x1.2.2.2.1 (A.lit 1)) fun x4=>
 A.inl _ (x1.1,x1.2.1,x1.2.2.1,x4.1,A.set .mono (A.set .mono x1.q.1 (A.arith .add .i64 x1.1 x1.2.2.2.1) x2.1) (A.arith .add .i64 x1.2.1 x1.2.2.2.1) x3.1,()))<|
 A.inr _<|A.ret _ (x1.q.1,())) (x.1,x.2.1,x.2.2.1,x0.1,x.2.2.2.1,())
def Rx (A:Alg) (Ry:Pt A EW) (Rz:Ft A EW) (x:Tup A.ah [.i,.i,.i,.l .mono]):Ot A EX:=
 A.l1 .i (A.arith .sub .i64 x.2.1 x.1) fun x0=>
 A.l1 .i (A.arith .sub .i64 x.2.2.1 x.2.1) fun x1=>
 A.iter [.i,.i,.i,.l .mono] (fun x2=>
 A.cond (A.cmp .neq x2.2.1 x2.2.2.1) (A.bind [.i,.i,.i,.l .mono] (A.cond (A.cmp .gtr x2.2.1 x2.2.2.1) (A.cl Ry Rz (A.arith .sub .i64 x2.1 x2.2.1,x2.1,x2.2.2.1,x2.2.2.2.1,()) fun x3=>
 A.l1 .i (A.arith .sub .i64 x2.2.1 x2.2.2.1) fun x4=>
 A.ret _ (x2.1,x4.1,x2.2.2.1,x3.1,()))<|
 A.cl Ry Rz (A.arith .sub .i64 x2.1 x2.2.1,A.arith .sub .i64 (A.arith .add .i64 x2.1 x2.2.2.1) x2.2.1,x2.2.1,x2.2.2.2.1,()) fun x3=>
 A.l1 .i (A.arith .sub .i64 x2.2.2.1 x2.2.1) fun x4=>
 A.ret _ (x2.1,x2.2.1,x4.1,x3.1,())) fun x3=>
 A.inl _ (x3.1,x3.2.1,x3.2.2.1,x3.2.2.2.1,()))<|
 A.inr _<|A.cl Ry Rz (A.arith .sub .i64 x2.1 x2.2.1,x2.1,x2.2.1,x2.2.2.2.1,()) fun x3=>
 A.ret _ (x3.1,())) (x.2.1,x0.1,x1.1,x.2.2.2.1,())
def FR (A:Alg) (Nw:Pt A BI) (Ny:Ft A BI) (afB:Pt A EX) (afC:Ft A EX) (FT:Pt A mU) (FU:Ft A mU) (x:Tup A.ah [.i,.i,.i,.l .mono]):Ot A mU:=
 A.cond (A.cmp .eql (A.arith .sub .i64 x.2.1 x.1) (A.lit 1)) (A.l1 .i x.2.1 fun x0=>
 A.l1 .i x.2.2.1 fun x1=>
 A.iter [.i,.i,.i,.l .mono] (fun x2=>
 A.cond (A.cmp .lss x2.2.1 x2.2.2.1) (A.chk (A.cmp .leq (A.lit 0) (A.lit 1))<|
 A.l1 .i (A.conv .i64 (A.arith .shr .u64 (A.conv .u64 (A.arith .add .i64 x2.2.1 x2.2.2.1)) (A.lit 1))) fun x3=>
 A.bd .mono x2.2.2.2.1 x3.1<|
 A.bd .mono x2.2.2.2.1 x3.1<|
 A.bd .mono x2.2.2.2.1 x2.1<|
 A.bd .mono x2.2.2.2.1 x2.1<|
 A.cl Nw Ny (A.get .mono x2.2.2.2.1 x3.1,A.get .mono x2.2.2.2.1 x2.1,()) fun x4=>
 A.bind [.i,.i,.i,.l .mono] (A.cond (A.cmp .lss x4.1 (A.lit 0)) (A.l1 .i (A.arith .add .i64 x3.1 (A.lit 1)) fun x5=>
 A.ret _ (x2.1,x5.1,x2.2.2.1,x2.2.2.2.1,()))<|
 A.l1 .i x3.1 fun x5=>
 A.ret _ (x2.1,x2.2.1,x5.1,x2.2.2.2.1,())) fun x5=>
 A.inl _ (x5.1,x5.2.1,x5.2.2.1,x5.2.2.2.1,()))<|
 A.inr _<|A.l1 .i x2.1 fun x3=>
 A.iter [.i,.i,.l .mono] (fun x4=>
 A.cond (A.cmp .lss x4.2.1 (A.arith .sub .i64 x4.1 (A.lit 1))) (A.bd .mono x4.2.2.1 (A.arith .add .i64 x4.2.1 (A.lit 1))<|
 A.bd .mono x4.2.2.1 (A.arith .add .i64 x4.2.1 (A.lit 1))<|
 A.bd .mono x4.2.2.1 x4.2.1<|
 A.bd .mono x4.2.2.1 x4.2.1<|
 A.bd .mono x4.2.2.1 x4.2.1<|
 A.bd .mono x4.2.2.1 x4.2.1<|
 A.l1 (.x .mono) (A.get .mono x4.2.2.1 (A.arith .add .i64 x4.2.1 (A.lit 1))) fun x5=>
 A.bd .mono (A.set .mono x4.2.2.1 x4.2.1 x5.1) (A.arith .add .i64 x4.2.1 (A.lit 1))<|
 A.bd .mono (A.set .mono x4.2.2.1 x4.2.1 x5.1) (A.arith .add .i64 x4.2.1 (A.lit 1))<|
 A.l1 (.x .mono) (A.get .mono x4.2.2.1 x4.2.1) fun x6=>
 A.l1 .i (A.arith .add .i64 x4.2.1 (A.lit 1)) fun x7=>
 A.inl _ (x4.1,x7.1,A.set .mono (A.set .mono x4.2.2.1 x4.2.1 x5.1) (A.arith .add .i64 x4.2.1 (A.lit 1)) x6.1,()))<|
 A.inr _<|A.ret _ (x4.2.2.1,())) (x2.2.1,x3.1,x2.2.2.2.1,())) (x.1,x0.1,x1.1,x.2.2.2.1,()))<|
 A.cond (A.cmp .eql (A.arith .sub .i64 x.2.2.1 x.2.1) (A.lit 1)) (A.l1 .i x.1 fun x0=>
 A.l1 .i x.2.1 fun x1=>
 A.iter [.i,.i,.i,.l .mono] (fun x2=>
 A.cond (A.cmp .lss x2.2.1 x2.2.2.1) (A.chk (A.cmp .leq (A.lit 0) (A.lit 1))<|
 A.l1 .i (A.conv .i64 (A.arith .shr .u64 (A.conv .u64 (A.arith .add .i64 x2.2.1 x2.2.2.1)) (A.lit 1))) fun x3=>
 A.bd .mono x2.2.2.2.1 x2.1<|
 A.bd .mono x2.2.2.2.1 x2.1<|
 A.bd .mono x2.2.2.2.1 x3.1<|
 A.bd .mono x2.2.2.2.1 x3.1<|
 A.cl Nw Ny (A.get .mono x2.2.2.2.1 x2.1,A.get .mono x2.2.2.2.1 x3.1,()) fun x4=>
 A.bind [.i,.i,.i,.l .mono] (A.cond (A.aA (A.cmp .lss x4.1 (A.lit 0))) (A.l1 .i (A.arith .add .i64 x3.1 (A.lit 1)) fun x5=>
 A.ret _ (x2.1,x5.1,x2.2.2.1,x2.2.2.2.1,()))<|
 A.l1 .i x3.1 fun x5=>
 A.ret _ (x2.1,x2.2.1,x5.1,x2.2.2.2.1,())) fun x5=>
 A.inl _ (x5.1,x5.2.1,x5.2.2.1,x5.2.2.2.1,()))<|
 A.inr _<|A.l1 .i x2.1 fun x3=>
 A.iter [.i,.i,.l .mono] (fun x4=>
 A.cond (A.cmp .gtr x4.2.1 x4.1) (A.bd .mono x4.2.2.1 (A.arith .sub .i64 x4.2.1 (A.lit 1))<|
 A.bd .mono x4.2.2.1 (A.arith .sub .i64 x4.2.1 (A.lit 1))<|
 A.bd .mono x4.2.2.1 x4.2.1<|
 A.bd .mono x4.2.2.1 x4.2.1<|
 A.bd .mono x4.2.2.1 x4.2.1<|
 A.bd .mono x4.2.2.1 x4.2.1<|
 A.l1 (.x .mono) (A.get .mono x4.2.2.1 (A.arith .sub .i64 x4.2.1 (A.lit 1))) fun x5=>
 A.bd .mono (A.set .mono x4.2.2.1 x4.2.1 x5.1) (A.arith .sub .i64 x4.2.1 (A.lit 1))<|
 A.bd .mono (A.set .mono x4.2.2.1 x4.2.1 x5.1) (A.arith .sub .i64 x4.2.1 (A.lit 1))<|
 A.l1 (.x .mono) (A.get .mono x4.2.2.1 x4.2.1) fun x6=>
 A.l1 .i (A.arith .sub .i64 x4.2.1 (A.lit 1)) fun x7=>
 A.inl _ (x4.1,x7.1,A.set .mono (A.set .mono x4.2.2.1 x4.2.1 x5.1) (A.arith .sub .i64 x4.2.1 (A.lit 1)) x6.1,()))<|
 A.inr _<|A.ret _ (x4.2.2.1,())) (x2.2.1,x3.1,x2.2.2.2.1,())) (x.2.1,x0.1,x1.1,x.2.2.2.1,()))<|
 A.chk (A.cmp .leq (A.lit 0) (A.lit 1))<|
 A.l1 .i (A.conv .i64 (A.arith .shr .u64 (A.conv .u64 (A.arith .add .i64 x.1 x.2.2.1)) (A.lit 1))) fun x0=>
 A.l1 .i (A.arith .add .i64 x0.1 x.2.1) fun x1=>
 A.l1 .i (A.lit 0) fun x2=>
 A.l1 .i (A.lit 0) fun x3=>
 A.bind [.i,.i,.i,.i,.i,.i,.i,.l .mono] (A.cond (A.cmp .gtr x.2.1 x0.1) (A.l1 .i (A.arith .sub .i64 x1.1 x.2.2.1) fun x4=>
 A.l1 .i x0.1 fun x5=>
 A.ret _ (x.1,x.2.1,x.2.2.1,x0.1,x1.1,x4.1,x5.1,x.2.2.2.1,()))<|
 A.l1 .i x.1 fun x4=>
 A.l1 .i x.2.1 fun x5=>
 A.ret _ (x.1,x.2.1,x.2.2.1,x0.1,x1.1,x4.1,x5.1,x.2.2.2.1,())) fun x4=>
 A.l1 .i (A.arith .sub .i64 x4.q.1 (A.lit 1)) fun x5=>
 A.iter [.i,.i,.i,.i,.i,.i,.i,.i,.l .mono] (fun x6=>
 A.cond (A.cmp .lss x6.q.2.1 x6.q.2.2.1) (A.chk (A.cmp .leq (A.lit 0) (A.lit 1))<|
 A.l1 .i (A.conv .i64 (A.arith .shr .u64 (A.conv .u64 (A.arith .add .i64 x6.q.2.1 x6.q.2.2.1)) (A.lit 1))) fun x7=>
 A.bd .mono x6.o.1 (A.arith .sub .i64 x6.q.2.2.2.1 x7.1)<|
 A.bd .mono x6.o.1 (A.arith .sub .i64 x6.q.2.2.2.1 x7.1)<|
 A.bd .mono x6.o.1 x7.1<|
 A.bd .mono x6.o.1 x7.1<|
 A.cl Nw Ny (A.get .mono x6.o.1 (A.arith .sub .i64 x6.q.2.2.2.1 x7.1),A.get .mono x6.o.1 x7.1,()) fun x8=>
 A.bind [.i,.i,.i,.i,.i,.i,.i,.i,.l .mono] (A.cond (A.aA (A.cmp .lss x8.1 (A.lit 0))) (A.l1 .i (A.arith .add .i64 x7.1 (A.lit 1)) fun x9=>
 A.ret _ (x6.1,x6.2.1,x6.2.2.1,x6.2.2.2.1,x6.q.1,x9.1,x6.q.2.2.1,x6.q.2.2.2.1,x6.o.1,()))<|
 A.l1 .i x7.1 fun x9=>
 A.ret _ (x6.1,x6.2.1,x6.2.2.1,x6.2.2.2.1,x6.q.1,x6.q.2.1,x9.1,x6.q.2.2.2.1,x6.o.1,())) fun x9=>
 A.inl _ (x9.1,x9.2.1,x9.2.2.1,x9.2.2.2.1,x9.q.1,x9.q.2.1,x9.q.2.2.1,x9.q.2.2.2.1,x9.o.1,()))<|
 A.inr _<|A.l1 .i (A.arith .sub .i64 x6.q.1 x6.q.2.1) fun x7=>
 A.bind [.i,.i,.i,.i,.i,.l .mono] (A.cond (A.ak (A.cmp .lss x6.q.2.1 x6.2.1) (A.cmp .lss x6.2.1 x7.1) (A.bl false)) (A.cl afB afC (x6.q.2.1,x6.2.1,x7.1,x6.o.1,()) fun x8=>
 A.ret _ (x6.1,x6.2.2.1,x6.2.2.2.1,x6.q.2.1,x7.1,x8.1,()))<|
 A.ret _ (x6.1,x6.2.2.1,x6.2.2.2.1,x6.q.2.1,x7.1,x6.o.1,())) fun x8=>
 A.bind [.i,.i,.i,.l .mono] (A.cond (A.ak (A.cmp .lss x8.1 x8.2.2.2.1) (A.cmp .lss x8.2.2.2.1 x8.2.2.1) (A.bl false)) (A.cl FT FU (x8.1,x8.2.2.2.1,x8.2.2.1,x8.q.2.1,()) fun x9=>
 A.ret _ (x8.2.1,x8.2.2.1,x8.q.1,x9.1,()))<|
 A.ret _ (x8.2.1,x8.2.2.1,x8.q.1,x8.q.2.1,())) fun x9=>
 A.bind [.l .mono] (A.cond (A.ak (A.cmp .lss x9.2.1 x9.2.2.1) (A.cmp .lss x9.2.2.1 x9.1) (A.bl false)) (A.cl FT FU (x9.2.1,x9.2.2.1,x9.1,x9.2.2.2.1,()) fun x10=>
 A.ret _ (x10.1,()))<|
 A.ret _ (x9.2.2.2.1,())) fun x10=>
 A.ret _ (x10.1,())) (x4.1,x4.2.1,x4.2.2.1,x4.2.2.2.1,x4.q.1,x4.q.2.1,x4.q.2.2.1,x5.1,x4.q.2.2.2.1,())
def RA (A:Alg) (YR:Pt A EU) (YS:Ft A EU) (FT:Pt A mU) (FU:Ft A mU) (x:Tup A.ah [.i,.l .mono]):Ot A EY:=
 A.l1 .i (A.lit 20) fun x0=>
 A.l1 .i (A.lit 0) fun x1=>
 A.l1 .i x0.1 fun x2=>
 A.iter [.i,.i,.i,.i,.l .mono] (fun x3=>
 A.cond (A.cmp .leq x3.2.2.2.1 x3.1) (A.cl YR YS (x3.2.2.1,x3.2.2.2.1,x3.q.1,()) fun x4=>
 A.l1 .i x3.2.2.2.1 fun x5=>
 A.l1 .i (A.arith .add .i64 x3.2.2.2.1 x3.2.1) fun x6=>
 A.inl _ (x3.1,x3.2.1,x5.1,x6.1,x4.1,()))<|
 A.inr _<|A.cl YR YS (x3.2.2.1,x3.1,x3.q.1,()) fun x4=>
 A.iter [.i,.i,.l .mono] (fun x5=>
 A.cond (A.cmp .lss x5.2.1 x5.1) (A.l1 .i (A.lit 0) fun x6=>
 A.l1 .i (A.arith .mul .i64 (A.lit 2) x5.2.1) fun x7=>
 A.iter [.i,.i,.i,.i,.l .mono] (fun x8=>
 A.cond (A.cmp .leq x8.2.2.2.1 x8.1) (A.cl FT FU (x8.2.2.1,A.arith .add .i64 x8.2.2.1 x8.2.1,x8.2.2.2.1,x8.q.1,()) fun x9=>
 A.l1 .i x8.2.2.2.1 fun x10=>
 A.l1 .i (A.arith .add .i64 x8.2.2.2.1 (A.arith .mul .i64 (A.lit 2) x8.2.1)) fun x11=>
 A.inl _ (x8.1,x8.2.1,x10.1,x11.1,x9.1,()))<|
 A.inr _<|A.l1 .i (A.arith .add .i64 x8.2.2.1 x8.2.1) fun x9=>
 A.bind [.i,.i,.l .mono] (A.cond (A.cmp .lss x9.1 x8.1) (A.cl FT FU (x8.2.2.1,x9.1,x8.1,x8.q.1,()) fun x10=>
 A.ret _ (x8.1,x8.2.1,x10.1,()))<|
 A.ret _ (x8.1,x8.2.1,x8.q.1,())) fun x10=>
 A.l1 .i (A.arith .mul .i64 x10.2.1 (A.lit 2)) fun x11=>
 A.inl _ (x10.1,x11.1,x10.2.2.1,())) (x5.1,x5.2.1,x6.1,x7.1,x5.2.2.1,()))<|
 A.inr _<|A.ret _ (x5.2.2.1,())) (x3.1,x3.2.1,x4.1,())) (x.1,x0.1,x1.1,x2.1,x.2.1,())
def RD (A:Alg) (afD:Pt A EY) (afE:Ft A EY) (x:Tup A.ah [.l .mono]):Ot A EZ:=
 A.cl afD afE (A.len .mono x.1,x.1,()) fun x0=>
 A.ret _ (x0.1,())
def YT (A:Alg) (FL:Pt A nZ) (FN:Ft A nZ) (kR:Pt A iG) (kS:Ft A iG) (FP:Pt A uG) (FQ:Ft A uG) (YB:Pt A BD) (YC:Ft A BD) (afF:Pt A EZ) (afG:Ft A EZ) (x:Tup A.ah [.l .mono]):Ot A BJ:=
 A.l1 .b (A.bl false) fun x0=>
 A.cl afF afG (x.1,()) fun x1=>
 A.l1 .i (A.lit 0) fun x2=>
 A.iter [.i,.l .mono,.l .mono] (fun x3=>
 A.cond (A.cmp .lss x3.1 (A.len .mono x3.2.1)) (A.bd .mono x3.2.1 x3.1<|
 A.bd .mono x3.2.1 x3.1<|
 A.l1 .i (A.lit 0) fun x4=>
 A.l1 (.x .mono) (A.get .mono x3.2.1 x3.1) fun x5=>
 A.iter [.i,.i,.l .mono,.x .mono,.l .mono] (fun x6=>
 A.chk (A.orB (A.aA (A.cmp .lss x6.1 (A.len .mono x6.2.2.1))) (A.cmp .leq (A.lit 0) x6.1))<|
 A.chk (A.orB (A.aA (A.cmp .lss x6.1 (A.len .mono x6.2.2.1))) (A.cmp .lss x6.1 (A.len .mono x6.2.2.1)))<|
 A.chk (A.orB (A.aA (A.cmp .lss x6.1 (A.len .mono x6.2.2.1))) (A.cmp .leq (A.lit 0) x6.1))<|
 A.chk (A.orB (A.aA (A.cmp .lss x6.1 (A.len .mono x6.2.2.1))) (A.cmp .lss x6.1 (A.len .mono x6.2.2.1)))<|
 A.cg (A.cmp .lss x6.1 (A.len .mono x6.2.2.1)) FL FN (A.fL .mono 1 .i64 x6.2.2.2.1,A.fL .mono 1 .i64 (A.get .mono x6.2.2.1 x6.1),()) fun x7=>
 A.cond (A.ak (A.cmp .lss x6.1 (A.len .mono x6.2.2.1)) (A.cmp .eql x7.1 (A.lit 0)) (A.bl false)) (A.bd .mono x6.2.2.1 x6.1<|
 A.bd .mono x6.2.2.1 x6.1<|
 A.cl FP FQ (A.arith .add .i64 x6.2.1 (A.fI .mono 0 (A.get .mono x6.2.2.1 x6.1)),()) fun x8=>
 A.l1 .i x8.1 fun x9=>
 A.l1 .i (A.arith .add .i64 x6.1 (A.lit 1)) fun x10=>
 A.inl _ (x10.1,x9.1,x6.2.2.1,x6.2.2.2.1,x6.q.1,()))<|
 A.inr _<|A.bind [.i,.l .mono,.l .mono] (A.cond (A.cmp .gtr x6.2.1 (A.lit 0)) (A.cl YB YC (A.fL .mono 1 .i64 x6.2.2.2.1,()) fun x8=>
 A.l1 (.l .mono) (A.lst .mono [A.mkX .mono (x6.2.1,x8.1,())]) fun x9=>
 A.chk (A.cmp .leq (A.addN (A.len .mono x6.q.1) (A.len .mono x9.1)) (A.lit 1073741824))<|
 A.l1 (.l .mono) (A.app .mono x6.q.1 x9.1) fun x10=>
 A.ret _ (x6.1,x6.2.2.1,x10.1,()))<|
 A.ret _ (x6.1,x6.2.2.1,x6.q.1,())) fun x8=>
 A.inl _ (x8.1,x8.2.1,x8.2.2.1,())) (x3.1,x4.1,x3.2.1,x5.1,x3.2.2.1,()))<|
 A.inr _<|A.cl kR kS (A.mkX .poly (x3.2.2.1,()),()) fun x4=>
 A.cond (A.aA x4.1) (A.l1 .b (A.bl false) fun x5=>
 A.ret _ (x5.1,x3.2.1,A.bN .mono,()))<|
 A.l1 .b (A.bl true) fun x5=>
 A.ret _ (x5.1,x3.2.1,x3.2.2.1,())) (x2.1,x1.1,A.bN .mono,())
def RF (A:Alg) (x:Tup A.ah [.i]):Ot A E5:=
 A.cond (A.cmp .lss x.1 (A.lit 0)) (A.fail)<|
 A.l1 .i (A.arith .sub .i64 x.1 (A.arith .sub .i64 (A.lit 0) (A.lit 0))) fun x0=>
 A.bind [.l .mono] (A.cond (A.cmp .gtr x0.1 (A.lit 0)) (A.chk (A.cmp .eql (A.lit 0) (A.lit 0))<|
 A.chk (A.cmp .eql (A.lit 0) (A.lit 0))<|
 A.chk (A.cmp .leq (A.lit 0) x0.1)<|
 A.chk (A.cmp .leq x0.1 (A.lit 1073741824))<|
 A.chk (A.cmp .leq (A.len .mono (A.rep .mono x0.1 (A.mkX .mono (A.lit 0,A.bN .i64,())))) (A.lit 1073741824))<|
 A.l1 (.l .mono) (A.rep .mono x0.1 (A.mkX .mono (A.lit 0,A.bN .i64,()))) fun x1=>
 A.chk (A.cmp .leq (A.lit 0) (A.lit 0))<|
 A.chk (A.cmp .leq (A.lit 0) (A.lit 0))<|
 A.chk (A.cmp .leq (A.lit 0) (A.len .mono x1.1))<|
 A.chk (A.cmp .eql (A.lit 0) (A.lit 0))<|
 A.chk (A.cmp .leq (A.lit 0) (A.Cg (A.lit 0) (A.lit 0)))<|
 A.chk (A.cmp .leq (A.Cg (A.lit 0) (A.lit 0)) (A.len .mono x1.1))<|
 A.ret _ (A.sub .mono x1.1 (A.lit 0) (A.Cg (A.lit 0) (A.lit 0)),()))<|
 A.ret _ (A.bN .mono,())) fun x1=>
 A.ret _ (x1.1,())
def YU (A:Alg) (afH:Pt A E5) (afI:Ft A E5) (x:Tup A.ah [.l .poly]):Ot A M5:=
 A.l1 .i (A.lit 0) fun x0=>
 A.iter [.l .poly,.i,.l .poly,.i,.i] (fun x1=>
 A.cond (A.cmp .lss x1.q.1 x1.2.2.2.1) (A.bd .poly x1.2.2.1 x1.q.1<|
 A.l1 (.l .mono) (A.fL .poly 0 .mono (A.get .poly x1.2.2.1 x1.q.1)) fun x2=>
 A.l1 .i (A.arith .add .i64 x1.2.1 (A.len .mono x2.1)) fun x3=>
 A.cond (A.cmp .lss x3.1 (A.lit 0)) (A.fail)<|
 A.inl _ (x1.1,x3.1,x1.2.2.1,x1.2.2.2.1,A.arith .add .i64 x1.q.1 (A.lit 1),()))<|
 A.inr _<|A.cl afH afI (x1.2.1,()) fun x2=>
 A.iter [.l .poly,.i,.i,.l .mono] (fun x3=>
 A.cond (A.cmp .lss x3.2.2.1 x3.2.1) (A.bd .poly x3.1 x3.2.2.1<|
 A.l1 (.l .mono) (A.fL .poly 0 .mono (A.get .poly x3.1 x3.2.2.1)) fun x4=>
 A.chk (A.cmp .leq (A.addN (A.len .mono x3.2.2.2.1) (A.len .mono x4.1)) (A.lit 1073741824))<|
 A.l1 (.l .mono) (A.app .mono x3.2.2.2.1 x4.1) fun x5=>
 A.inl _ (x3.1,x3.2.1,A.arith .add .i64 x3.2.2.1 (A.lit 1),x5.1,()))<|
 A.inr _<|A.ret _ (x3.2.2.2.1,())) (x1.1,A.len .poly x1.1,A.lit 0,x2.1,())) (x.1,x0.1,x.1,A.len .poly x.1,A.lit 0,())
def YV (A:Alg) (kR:Pt A iG) (kS:Ft A iG) (YW:Pt A BJ) (YX:Ft A BJ) (alo:Pt A M5) (alp:Ft A M5) (x:Tup A.ah [.x .poly,.x .poly]):Ot A M6:=
 A.l1 .b (A.bl false) fun x0=>
 A.cl kR kS (x.1,()) fun x1=>
 A.cg (A.aA (A.aA x1.1)) kR kS (x.2.1,()) fun x2=>
 A.cond (A.ak (A.aA x1.1) (A.bl true) (A.aA x2.1)) (A.l1 .b (A.bl false) fun x3=>
 A.ret _ (x3.1,A.bN .mono,()))<|
 A.l1 (.l .poly) (A.lst .poly [A.mkX .poly (A.fL .poly 0 .mono x.1,()),A.mkX .poly (A.fL .poly 0 .mono x.2.1,())]) fun x3=>
 A.cl alo alp (x3.1,()) fun x4=>
 A.cl YW YX (x4.1,()) fun x5=>
 A.l1 .b x5.1 fun x6=>
 A.ret _ (x6.1,x5.2.2.1,())
def RG (A:Alg) (x:Tup A.ah [.i]):Ot A E8:=
 A.cond (A.cmp .lss x.1 (A.lit 0)) (A.fail)<|
 A.l1 .i (A.arith .sub .i64 x.1 (A.arith .sub .i64 (A.lit 0) (A.lit 0))) fun x0=>
 A.bind [.l .i64] (A.cond (A.cmp .gtr x0.1 (A.lit 0)) (A.chk (A.cmp .eql (A.lit 0) (A.lit 0))<|
 A.chk (A.cmp .eql (A.lit 0) (A.lit 0))<|
 A.chk (A.cmp .leq (A.lit 0) x0.1)<|
 A.chk (A.cmp .leq x0.1 (A.lit 1073741824))<|
 A.chk (A.cmp .leq (A.len .i64 (A.rep .i64 x0.1 (A.mkX .i64 (A.lit 0,())))) (A.lit 1073741824))<|
 A.l1 (.l .i64) (A.rep .i64 x0.1 (A.mkX .i64 (A.lit 0,()))) fun x1=>
 A.chk (A.cmp .leq (A.lit 0) (A.lit 0))<|
 A.chk (A.cmp .leq (A.lit 0) (A.lit 0))<|
 A.chk (A.cmp .leq (A.lit 0) (A.len .i64 x1.1))<|
 A.chk (A.cmp .eql (A.lit 0) (A.lit 0))<|
 A.chk (A.cmp .leq (A.lit 0) (A.Cg (A.lit 0) (A.lit 0)))<|
 A.chk (A.cmp .leq (A.Cg (A.lit 0) (A.lit 0)) (A.len .i64 x1.1))<|
 A.ret _ (A.sub .i64 x1.1 (A.lit 0) (A.Cg (A.lit 0) (A.lit 0)),()))<|
 A.ret _ (A.bN .i64,())) fun x1=>
 A.ret _ (x1.1,())
def RH (A:Alg) (afJ:Pt A E8) (afK:Ft A E8) (x:Tup A.ah [.l .ints]):Ot A E9:=
 A.l1 .i (A.lit 0) fun x0=>
 A.iter [.l .ints,.i,.l .ints,.i,.i] (fun x1=>
 A.cond (A.cmp .lss x1.q.1 x1.2.2.2.1) (A.bd .ints x1.2.2.1 x1.q.1<|
 A.l1 (.l .i64) (A.fL .ints 0 .i64 (A.get .ints x1.2.2.1 x1.q.1)) fun x2=>
 A.l1 .i (A.arith .add .i64 x1.2.1 (A.len .i64 x2.1)) fun x3=>
 A.cond (A.cmp .lss x3.1 (A.lit 0)) (A.fail)<|
 A.inl _ (x1.1,x3.1,x1.2.2.1,x1.2.2.2.1,A.arith .add .i64 x1.q.1 (A.lit 1),()))<|
 A.inr _<|A.cl afJ afK (x1.2.1,()) fun x2=>
 A.iter [.l .ints,.i,.i,.l .i64] (fun x3=>
 A.cond (A.cmp .lss x3.2.2.1 x3.2.1) (A.bd .ints x3.1 x3.2.2.1<|
 A.l1 (.l .i64) (A.fL .ints 0 .i64 (A.get .ints x3.1 x3.2.2.1)) fun x4=>
 A.chk (A.cmp .leq (A.addN (A.len .i64 x3.2.2.2.1) (A.len .i64 x4.1)) (A.lit 1073741824))<|
 A.l1 (.l .i64) (A.app .i64 x3.2.2.2.1 x4.1) fun x5=>
 A.inl _ (x3.1,x3.2.1,A.arith .add .i64 x3.2.2.1 (A.lit 1),x5.1,()))<|
 A.inr _<|A.ret _ (x3.2.2.2.1,())) (x1.1,A.len .ints x1.1,A.lit 0,x2.1,())) (x.1,x0.1,x.1,A.len .ints x.1,A.lit 0,())
def RJ (A:Alg) (Yb:Pt A EN) (Yc:Ft A EN) (x:Tup A.ah [.i,.i,.l .i64]):Ot A Fa:=
 A.l1 .i (A.arith .add .i64 x.1 (A.lit 1)) fun x0=>
 A.iter [.i,.i,.i,.l .i64] (fun x1=>
 A.cond (A.cmp .lss x1.2.2.1 x1.2.1) (A.l1 .i x1.2.2.1 fun x2=>
 A.iter [.i,.i,.i,.i,.l .i64] (fun x3=>
 A.chk (A.orB (A.aA (A.cmp .gtr x3.2.2.2.1 x3.1)) (A.cmp .leq (A.lit 0) x3.2.2.2.1))<|
 A.chk (A.orB (A.aA (A.cmp .gtr x3.2.2.2.1 x3.1)) (A.cmp .lss x3.2.2.2.1 (A.len .i64 x3.q.1)))<|
 A.chk (A.orB (A.aA (A.cmp .gtr x3.2.2.2.1 x3.1)) (A.cmp .leq (A.lit 0) x3.2.2.2.1))<|
 A.chk (A.orB (A.aA (A.cmp .gtr x3.2.2.2.1 x3.1)) (A.cmp .lss x3.2.2.2.1 (A.len .i64 x3.q.1)))<|
 A.chk (A.orB (A.aA (A.cmp .gtr x3.2.2.2.1 x3.1)) (A.cmp .leq (A.lit 0) (A.arith .sub .i64 x3.2.2.2.1 (A.lit 1))))<|
 A.chk (A.orB (A.aA (A.cmp .gtr x3.2.2.2.1 x3.1)) (A.cmp .lss (A.arith .sub .i64 x3.2.2.2.1 (A.lit 1)) (A.len .i64 x3.q.1)))<|
 A.chk (A.orB (A.aA (A.cmp .gtr x3.2.2.2.1 x3.1)) (A.cmp .leq (A.lit 0) (A.arith .sub .i64 x3.2.2.2.1 (A.lit 1))))<|
 A.chk (A.orB (A.aA (A.cmp .gtr x3.2.2.2.1 x3.1)) (A.cmp .lss (A.arith .sub .i64 x3.2.2.2.1 (A.lit 1)) (A.len .i64 x3.q.1)))<|
 A.cg (A.cmp .gtr x3.2.2.2.1 x3.1) Yb Yc (A.fI .i64 0 (A.get .i64 x3.q.1 x3.2.2.2.1),A.fI .i64 0 (A.get .i64 x3.q.1 (A.arith .sub .i64 x3.2.2.2.1 (A.lit 1))),()) fun x4=>
 A.cond (A.ak (A.cmp .gtr x3.2.2.2.1 x3.1) x4.1 (A.bl false)) (A.bd .i64 x3.q.1 (A.arith .sub .i64 x3.2.2.2.1 (A.lit 1))<|
 A.bd .i64 x3.q.1 (A.arith .sub .i64 x3.2.2.2.1 (A.lit 1))<|
 A.bd .i64 x3.q.1 x3.2.2.2.1<|
 A.bd .i64 x3.q.1 x3.2.2.2.1<|
 A.bd .i64 x3.q.1 x3.2.2.2.1<|
 A.bd .i64 x3.q.1 x3.2.2.2.1<|
 A.l1 .i (A.fI .i64 0 (A.get .i64 x3.q.1 (A.arith .sub .i64 x3.2.2.2.1 (A.lit 1)))) fun x5=>
 A.bd .i64 (A.set .i64 x3.q.1 x3.2.2.2.1 (A.mkX .i64 (x5.1,()))) (A.arith .sub .i64 x3.2.2.2.1 (A.lit 1))<|
 A.bd .i64 (A.set .i64 x3.q.1 x3.2.2.2.1 (A.mkX .i64 (x5.1,()))) (A.arith .sub .i64 x3.2.2.2.1 (A.lit 1))<|
 A.l1 .i (A.fI .i64 0 (A.get .i64 x3.q.1 x3.2.2.2.1)) fun x6=>
 A.l1 .i (A.arith .sub .i64 x3.2.2.2.1 (A.lit 1)) fun x7=>
 A.inl _ (x3.1,x3.2.1,x3.2.2.1,x7.1,A.set .i64 (A.set .i64 x3.q.1 x3.2.2.2.1 (A.mkX .i64 (x5.1,()))) (A.arith .sub .i64 x3.2.2.2.1 (A.lit 1)) (A.mkX .i64 (x6.1,())),()))<|
 A.inr _<|A.l1 .i (A.arith .add .i64 x3.2.2.1 (A.lit 1)) fun x5=>
 A.inl _ (x3.1,x3.2.1,x5.1,x3.q.1,())) (x1.1,x1.2.1,x1.2.2.1,x2.1,x1.2.2.2.1,()))<|
 A.inr _<|A.ret _ (x1.2.2.2.1,())) (x.1,x.2.1,x0.1,x.2.2.1,())
def RL (A:Alg) (Yb:Pt A EN) (Yc:Ft A EN) (afL:Pt A Fa) (afM:Ft A Fa) (afN:Pt A Fb) (afO:Ft A Fb) (afP:Pt A Fe) (afQ:Ft A Fe) (afR:Pt A Fg) (afS:Ft A Fg) (afT:Pt A Fh) (afU:Ft A Fh) (afV:Pt A Fj) (afW:Ft A Fj) (afX:Pt A Fp) (afY:Ft A Fp) (afZ:Pt A Fq) (af0:Ft A Fq) (Kr:Pt A oO) (Kt:Ft A oO) (x:Tup A.ah [.i,.i,.i,.l .i64]):Ot A oO:=
 A.l1 .b (A.bl true) fun x0=>
 A.l1 .b (A.bl true) fun x1=>
 A.iter [.i,.i,.i,.b,.b,.l .i64] (fun x2=>
 A.jR [.i,.i,.i,.b,.b,.l .i64] (A.l1 .i (A.arith .sub .i64 x2.2.1 x2.1) fun x3=>
 A.cond (A.cmp .leq x3.1 (A.lit 12)) (A.cl afL afM (x2.1,x2.2.1,x2.q.2.1,()) fun x4=>
 A.inr _<|A.inr _<|A.ret _ (x4.1,()))<|
 A.cond (A.cmp .eql x2.2.2.1 (A.lit 0)) (A.cl afN afO (x2.1,x2.2.1,x2.q.2.1,()) fun x4=>
 A.inr _<|A.inr _<|A.ret _ (x4.1,()))<|
 A.bind [.i,.i,.i,.b,.b,.i,.l .i64] (A.cond (A.aA x2.2.2.2.1) (A.cl afP afQ (x2.1,x2.2.1,x2.q.2.1,()) fun x4=>
 A.l1 .i (A.arith .sub .i64 x2.2.2.1 (A.lit 1)) fun x5=>
 A.ret _ (x2.1,x2.2.1,x5.1,x2.2.2.2.1,x2.q.1,x3.1,x4.1,()))<|
 A.ret _ (x2.1,x2.2.1,x2.2.2.1,x2.2.2.2.1,x2.q.1,x3.1,x2.q.2.1,())) fun x4=>
 A.cl afR afS (x4.1,x4.2.1,x4.q.2.2.1,()) fun x5=>
 A.l1 .i x5.1 fun x6=>
 A.l1 .i x5.2.1 fun x7=>
 A.bind [.i,.i,.i,.b,.b,.i,.i,.i,.l .i64] (A.cond (A.cmp .eql x7.1 (A.lit 2)) (A.cl afT afU (x4.1,x4.2.1,x5.2.2.1,()) fun x8=>
 A.l1 .i (A.arith .sub .i64 (A.arith .sub .i64 x4.2.1 (A.lit 1)) (A.arith .sub .i64 x6.1 x4.1)) fun x9=>
 A.l1 .i (A.lit 1) fun x10=>
 A.ret _ (x4.1,x4.2.1,x4.2.2.1,x4.2.2.2.1,x4.q.1,x4.q.2.1,x9.1,x10.1,x8.1,()))<|
 A.ret _ (x4.1,x4.2.1,x4.2.2.1,x4.2.2.2.1,x4.q.1,x4.q.2.1,x6.1,x7.1,x5.2.2.1,())) fun x8=>
 A.jR [.i,.i,.i,.b,.b,.i,.i,.l .i64] (A.cond (A.ak (A.ak x8.2.2.2.1 x8.q.1 (A.bl false)) (A.cmp .eql x8.q.2.2.2.1 (A.lit 1)) (A.bl false)) (A.cl afV afW (x8.1,x8.2.1,x8.o.1,()) fun x9=>
 A.cond x9.1 (A.inr _<|A.inr _<|A.inr _<|A.ret _ (x9.2.1,()))<|
 A.inl _ (x8.1,x8.2.1,x8.2.2.1,x8.2.2.2.1,x8.q.1,x8.q.2.1,x8.q.2.2.1,x9.2.1,()))<|
 A.inl _ (x8.1,x8.2.1,x8.2.2.1,x8.2.2.2.1,x8.q.1,x8.q.2.1,x8.q.2.2.1,x8.o.1,())) fun x9=>
 A.chk (A.orB (A.aA (A.cmp .gtr x9.1 (A.lit 0))) (A.cmp .leq (A.lit 0) (A.arith .sub .i64 x9.1 (A.lit 1))))<|
 A.chk (A.orB (A.aA (A.cmp .gtr x9.1 (A.lit 0))) (A.cmp .lss (A.arith .sub .i64 x9.1 (A.lit 1)) (A.len .i64 x9.q.2.2.2.1)))<|
 A.chk (A.orB (A.aA (A.cmp .gtr x9.1 (A.lit 0))) (A.cmp .leq (A.lit 0) (A.arith .sub .i64 x9.1 (A.lit 1))))<|
 A.chk (A.orB (A.aA (A.cmp .gtr x9.1 (A.lit 0))) (A.cmp .lss (A.arith .sub .i64 x9.1 (A.lit 1)) (A.len .i64 x9.q.2.2.2.1)))<|
 A.chk (A.orB (A.aA (A.cmp .gtr x9.1 (A.lit 0))) (A.cmp .leq (A.lit 0) x9.q.2.2.1))<|
 A.chk (A.orB (A.aA (A.cmp .gtr x9.1 (A.lit 0))) (A.cmp .lss x9.q.2.2.1 (A.len .i64 x9.q.2.2.2.1)))<|
 A.chk (A.orB (A.aA (A.cmp .gtr x9.1 (A.lit 0))) (A.cmp .leq (A.lit 0) x9.q.2.2.1))<|
 A.chk (A.orB (A.aA (A.cmp .gtr x9.1 (A.lit 0))) (A.cmp .lss x9.q.2.2.1 (A.len .i64 x9.q.2.2.2.1)))<|
 A.cg (A.cmp .gtr x9.1 (A.lit 0)) Yb Yc (A.fI .i64 0 (A.get .i64 x9.q.2.2.2.1 (A.arith .sub .i64 x9.1 (A.lit 1))),A.fI .i64 0 (A.get .i64 x9.q.2.2.2.1 x9.q.2.2.1),()) fun x10=>
 A.cond (A.ak (A.cmp .gtr x9.1 (A.lit 0)) (A.aA x10.1) (A.bl false)) (A.cl afX afY (x9.1,x9.2.1,x9.q.2.2.1,x9.q.2.2.2.1,()) fun x11=>
 A.l1 .i x11.1 fun x12=>
 A.l1 .i x12.1 fun x13=>
 A.inl _ (x13.1,x9.2.1,x9.2.2.1,x9.2.2.2.1,x9.q.1,x11.2.1,()))<|
 A.cl afZ af0 (x9.1,x9.2.1,x9.q.2.2.1,x9.q.2.2.2.1,()) fun x11=>
 A.l1 .i x11.1 fun x12=>
 A.l1 .b x11.2.1 fun x13=>
 A.l1 .b x13.1 fun x14=>
 A.l1 .i (A.arith .sub .i64 x12.1 x9.1) fun x15=>
 A.l1 .i (A.arith .sub .i64 x9.2.1 x12.1) fun x16=>
 A.chk (A.cmp .neq (A.lit 8) (A.lit 0))<|
 A.l1 .i (A.arith .quo .i64 x9.q.2.1 (A.lit 8)) fun x17=>
 A.bind [.i,.i,.i,.b,.b,.l .i64] (A.cond (A.cmp .lss x15.1 x16.1) (A.l1 .b (A.cmp .geq x15.1 x17.1) fun x18=>
 A.cl Kr Kt (x9.1,x12.1,x9.2.2.1,x11.2.2.1,()) fun x19=>
 A.l1 .i (A.arith .add .i64 x12.1 (A.lit 1)) fun x20=>
 A.ret _ (x20.1,x9.2.1,x9.2.2.1,x18.1,x14.1,x19.1,()))<|
 A.l1 .b (A.cmp .geq x16.1 x17.1) fun x18=>
 A.cl Kr Kt (A.arith .add .i64 x12.1 (A.lit 1),x9.2.1,x9.2.2.1,x11.2.2.1,()) fun x19=>
 A.l1 .i x12.1 fun x20=>
 A.ret _ (x9.1,x20.1,x9.2.2.1,x18.1,x14.1,x19.1,())) fun x18=>
 A.inl _ (x18.1,x18.2.1,x18.2.2.1,x18.2.2.2.1,x18.q.1,x18.q.2.1,())) fun x3=>
 A.inl _ (x3.1,x3.2.1,x3.2.2.1,x3.2.2.2.1,x3.q.1,x3.q.2.1,())) (x.1,x.2.1,x.2.2.1,x0.1,x1.1,x.2.2.2.1,())
def RN (A:Alg) (Kr:Pt A oO) (Kt:Ft A oO) (alq:Pt A Uu) (alr:Ft A Uu) (x:Tup A.ah [.l .i64]):Ot A Fu:=
 A.l1 .i (A.len .i64 x.1) fun x0=>
 A.cl alq alr (A.conv .u64 x0.1,()) fun x1=>
 A.cl Kr Kt (A.lit 0,x0.1,x1.1,x.1,()) fun x2=>
 A.ret _ (x2.1,())
def YZ (A:Alg) (kR:Pt A iG) (kS:Ft A iG) (FP:Pt A uG) (FQ:Ft A uG) (YW:Pt A BJ) (YX:Ft A BJ) (af2:Pt A E9) (af3:Ft A E9) (af4:Pt A Fu) (af5:Ft A Fu) (x:Tup A.ah [.x .poly,.x .poly]):Ot A BK:=
 A.l1 .b (A.bl false) fun x0=>
 A.cl kR kS (x.1,()) fun x1=>
 A.cg (A.aA (A.aA x1.1)) kR kS (x.2.1,()) fun x2=>
 A.cond (A.ak (A.aA x1.1) (A.bl true) (A.aA x2.1)) (A.l1 .b (A.bl false) fun x3=>
 A.ret _ (x3.1,A.bN .mono,()))<|
 A.iter [.l .mono,.i,.i,.x .poly,.l .mono] (fun x3=>
 A.cond (A.cmp .lss x3.2.2.1 x3.2.1) (A.bd .mono x3.1 x3.2.2.1<|
 A.l1 (.x .mono) (A.get .mono x3.1 x3.2.2.1) fun x4=>
 A.iter [.l .mono,.i,.i,.l .mono,.i,.i,.x .poly,.l .mono,.x .mono] (fun x5=>
 A.cond (A.cmp .lss x5.q.2.1 x5.q.1) (A.bd .mono x5.2.2.2.1 x5.q.2.1<|
 A.l1 (.x .mono) (A.get .mono x5.2.2.2.1 x5.q.2.1) fun x6=>
 A.l1 (.l .ints) (A.lst .ints [A.mkX .ints (A.fL .mono 1 .i64 x5.o.1,()),A.mkX .ints (A.fL .mono 1 .i64 x6.1,())]) fun x7=>
 A.cl af2 af3 (x7.1,()) fun x8=>
 A.cl af4 af5 (x8.1,()) fun x9=>
 A.cl FP FQ (A.arith .mul .i64 (A.fI .mono 0 x5.o.1) (A.fI .mono 0 x6.1),()) fun x10=>
 A.l1 (.l .mono) (A.lst .mono [A.mkX .mono (x10.1,x9.1,())]) fun x11=>
 A.chk (A.cmp .leq (A.addN (A.len .mono x5.q.2.2.2.1) (A.len .mono x11.1)) (A.lit 1073741824))<|
 A.l1 (.l .mono) (A.app .mono x5.q.2.2.2.1 x11.1) fun x12=>
 A.inl _ (x5.1,x5.2.1,x5.2.2.1,x5.2.2.2.1,x5.q.1,A.arith .add .i64 x5.q.2.1 (A.lit 1),x5.q.2.2.1,x12.1,x5.o.1,()))<|
 A.inr _<|A.inl _ (x5.1,x5.2.1,A.arith .add .i64 x5.2.2.1 (A.lit 1),x5.q.2.2.1,x5.q.2.2.2.1,())) (x3.1,x3.2.1,x3.2.2.1,A.fL .poly 0 .mono x3.2.2.2.1,A.len .mono (A.fL .poly 0 .mono x3.2.2.2.1),A.lit 0,x3.2.2.2.1,x3.q.1,x4.1,()))<|
 A.inr _<|A.cl YW YX (x3.q.1,()) fun x4=>
 A.l1 .b x4.1 fun x5=>
 A.ret _ (x5.1,x4.2.2.1,())) (A.fL .poly 0 .mono x.1,A.len .mono (A.fL .poly 0 .mono x.1),A.lit 0,x.2.1,A.bN .mono,())
def Y0 (A:Alg) (kR:Pt A iG) (kS:Ft A iG) (Nz:Pt A uF) (NA:Ft A uF) (qx:Pt A jo) (qy:Ft A jo) (Y1:Pt A BK) (Y2:Ft A BK) (x:Tup A.ah [.x .poly,.i]):Ot A M7:=
 A.cl kR kS (x.1,()) fun x0=>
 A.cg (A.aA (A.aA x0.1)) qx qy (x.2.1,()) fun x1=>
 A.cond (A.ak (A.aA x0.1) (A.bl true) (A.aA x1.1)) (A.ret _ (A.bN .mono,()))<|
 A.cl Nz NA (x.2.1,()) fun x2=>
 A.cl Y1 Y2 (x.1,A.mkX .poly (x2.1,()),()) fun x3=>
 A.l1 .b x3.1 fun x4=>
 A.ret _ (x3.2.1,())
def Y3 (A:Alg) (lK:Pt A jr) (lM:Ft A jr) (Nz:Pt A uF) (NA:Ft A uF) (Y4:Pt A BG) (Y5:Ft A BG) (acK:Pt A M6) (acL:Ft A M6) (Y1:Pt A BK) (Y2:Ft A BK) (als:Pt A M7) (alu:Ft A M7) (NC:Pt A BH) (ND:Ft A BH) (x:Tup A.ah [.i,.x .poly,.x .poly]):Ot A M8:=
 A.l1 .b (A.bl false) fun x0=>
 A.l1 .b (A.cmp .eql x.1 (A.lit 1)) fun x1=>
 A.cond x1.1 (A.cl acK acL (x.2.1,x.2.2.1,()) fun x2=>
 A.l1 .b x2.1 fun x3=>
 A.ret _ (A.mkX .poly (x2.2.1,()),x3.1,()))<|
 A.l1 .b (A.cmp .eql x.1 (A.lit 2)) fun x2=>
 A.cond x2.1 (A.cl als alu (x.2.2.1,A.lit 65535,()) fun x3=>
 A.cl acK acL (x.2.1,A.mkX .poly (x3.1,()),()) fun x4=>
 A.l1 .b x4.1 fun x5=>
 A.ret _ (A.mkX .poly (x4.2.1,()),x5.1,()))<|
 A.l1 .b (A.cmp .eql x.1 (A.lit 3)) fun x3=>
 A.cond x3.1 (A.cl Y1 Y2 (x.2.1,x.2.2.1,()) fun x4=>
 A.l1 .b x4.1 fun x5=>
 A.ret _ (A.mkX .poly (x4.2.1,()),x5.1,()))<|
 A.cl NC ND (x.2.1,()) fun x4=>
 A.l1 .i x4.1 fun x5=>
 A.l1 .b x4.2.1 fun x6=>
 A.cl NC ND (x.2.2.1,()) fun x7=>
 A.l1 .i x7.1 fun x8=>
 A.l1 .b x7.2.1 fun x9=>
 A.l1 .b (A.ak x6.1 x9.1 (A.bl false)) fun x10=>
 A.cond x10.1 (A.cl Y4 Y5 (x.1,x5.1,x8.1,()) fun x11=>
 A.cl Nz NA (x11.1,()) fun x12=>
 A.l1 .b (A.bl true) fun x13=>
 A.ret _ (A.mkX .poly (x12.1,()),x13.1,()))<|
 A.cl lK lM (x.2.1,x.2.2.1,()) fun x11=>
 A.l1 .b (A.ak x11.1 (A.cmp .eql x.1 (A.lit 4)) (A.bl false)) fun x12=>
 A.cond x12.1 (A.l1 (.x .poly) x.2.1 fun x13=>
 A.l1 .b (A.bl true) fun x14=>
 A.ret _ (x13.1,x14.1,()))<|
 A.cl lK lM (x.2.1,x.2.2.1,()) fun x13=>
 A.l1 .b x13.1 fun x14=>
 A.cond x14.1 (A.l1 .b (A.bl true) fun x15=>
 A.ret _ (A.mkX .poly (A.bN .mono,()),x15.1,()))<|
 A.bind [.i,.i,.b,.x .poly] (A.cond x6.1 (A.l1 (.x .poly) x.2.2.1 fun x15=>
 A.l1 .i x5.1 fun x16=>
 A.l1 .b (A.bl true) fun x17=>
 A.ret _ (x.1,x16.1,x17.1,x15.1,()))<|
 A.ret _ (x.1,x8.1,x9.1,x.2.1,())) fun x15=>
 A.l1 .b (A.ak (A.ak x15.2.2.1 (A.cmp .eql x15.1 (A.lit 4)) (A.bl false)) (A.cmp .eql x15.2.1 (A.lit 0)) (A.bl false)) fun x16=>
 A.cond x16.1 (A.l1 .b (A.bl true) fun x17=>
 A.ret _ (A.mkX .poly (A.bN .mono,()),x17.1,()))<|
 A.l1 .b (A.ak x15.2.2.1 (A.ak (A.ak (A.cmp .eql x15.1 (A.lit 4)) (A.cmp .eql x15.2.1 (A.lit 65535)) (A.bl false)) (A.bl true) (A.ak (A.cmp .eql x15.1 (A.lit 5)) (A.cmp .eql x15.2.1 (A.lit 0)) (A.bl false))) (A.bl false)) fun x17=>
 A.cond x17.1 (A.l1 (.x .poly) x15.2.2.2.1 fun x18=>
 A.l1 .b (A.bl true) fun x19=>
 A.ret _ (x18.1,x19.1,()))<|
 A.l1 .b (A.bl false) fun x18=>
 A.ret _ (A.mkX .poly (A.bN .mono,()),x18.1,())
def Y6 (A:Alg) (Nu:Pt A uD) (Nv:Ft A uD) (alv:Pt A M8) (alx:Ft A M8) (Yw:Pt A Bv) (Yx:Ft A Bv) (Yu:Pt A Bw) (Yv:Ft A Bw) (x:Tup A.ah [.x .tab,.i,.x .poly,.x .poly]):Ot A M9:=
 A.l1 .b (A.bl false) fun x0=>
 A.cl alv alx (x.2.1,x.2.2.1,x.2.2.2.1,()) fun x1=>
 A.l1 (.x .poly) x1.1 fun x2=>
 A.l1 .b x1.2.1 fun x3=>
 A.cond x3.1 (A.l1 (.x .tab) x.1 fun x4=>
 A.l1 (.x .poly) x2.1 fun x5=>
 A.l1 .b (A.bl true) fun x6=>
 A.ret _ (x4.1,x5.1,x6.1,()))<|
 A.cg (A.cmp .neq x.2.1 (A.lit 2)) Nu Nv (x.2.2.1,x.2.2.2.1,()) fun x4=>
 A.bind [.i,.x .tab,.x .poly,.x .poly] (A.cond (A.ak (A.cmp .neq x.2.1 (A.lit 2)) (A.cmp .gtr x4.1 (A.lit 0)) (A.bl false)) (A.l1 (.x .poly) x.2.2.2.1 fun x5=>
 A.l1 (.x .poly) x.2.2.1 fun x6=>
 A.ret _ (x.2.1,x.1,x5.1,x6.1,()))<|
 A.ret _ (x.2.1,x.1,x.2.2.1,x.2.2.2.1,())) fun x5=>
 A.cl Yw Yx (x5.2.1,A.mkX .atom (A.lit 4,x5.1,A.fL .poly 0 .mono x5.2.2.1,A.fL .poly 0 .mono x5.2.2.2.1,()),()) fun x6=>
 A.l1 (.x .tab) x6.1 fun x7=>
 A.l1 .i x6.2.1 fun x8=>
 A.cond (A.cmp .lss x8.1 (A.lit 0)) (A.l1 .b (A.bl false) fun x9=>
 A.ret _ (A.mkX .tab (A.bN .atom,()),A.mkX .poly (A.bN .mono,()),x9.1,()))<|
 A.cl Yu Yv (x8.1,()) fun x9=>
 A.l1 (.x .tab) x7.1 fun x10=>
 A.l1 .b (A.bl true) fun x11=>
 A.ret _ (x10.1,A.mkX .poly (x9.1,()),x11.1,())
def Y7 (A:Alg) (qx:Pt A jo) (qy:Ft A jo) (x:Tup A.ah [.i,.i,.i]):Ot A BL:=
 A.l1 .b (A.bl false) fun x0=>
 A.cl qx qy (x.2.1,()) fun x1=>
 A.cg x1.1 qx qy (x.2.2.1,()) fun x2=>
 A.rb (A.ak (A.ak x1.1 x2.1 (A.bl false)) (A.ak (A.ak (A.cmp .eql x.1 (A.lit 1)) (A.cmp .eql x.2.1 x.2.2.1) (A.bl false)) (A.bl true) (A.ak (A.cmp .eql x.1 (A.lit 2)) (A.cmp .lss x.2.1 x.2.2.1) (A.bl false))) (A.bl false))
def Y8 (A:Alg) (zq:Pt A uE) (zu:Ft A uE) (x:Tup A.ah [.l .poly]):Ot A Na:=
 A.iter [.l .poly,.i,.i,.l .poly] (fun x0=>
 A.cond (A.cmp .lss x0.2.2.1 x0.2.1) (A.bd .poly x0.1 x0.2.2.1<|
 A.l1 (.x .poly) (A.get .poly x0.1 x0.2.2.1) fun x1=>
 A.cl zq zu (x1.1,()) fun x2=>
 A.l1 (.l .poly) (A.lst .poly [A.mkX .poly (x2.1,())]) fun x3=>
 A.chk (A.cmp .leq (A.addN (A.len .poly x0.2.2.2.1) (A.len .poly x3.1)) (A.lit 1073741824))<|
 A.l1 (.l .poly) (A.app .poly x0.2.2.2.1 x3.1) fun x4=>
 A.inl _ (x0.1,x0.2.1,A.arith .add .i64 x0.2.2.1 (A.lit 1),x4.1,()))<|
 A.inr _<|A.ret _ (x0.2.2.2.1,())) (x.1,A.len .poly x.1,A.lit 0,A.bN .poly,())
def Y9 (A:Alg) (zq:Pt A uE) (zu:Ft A uE) (acM:Pt A Na) (acN:Ft A Na) (x:Tup A.ah [.x .sym]):Ot A Nb:=
 A.cl acM acN (A.fL .sym 1 .poly x.1,()) fun x0=>
 A.cl zq zu (A.mkX .poly (A.fL .sym 3 .mono x.1,()),()) fun x1=>
 A.cl zq zu (A.mkX .poly (A.fL .sym 4 .mono x.1,()),()) fun x2=>
 A.iter [.l .ev,.i,.i,.i,.i,.i,.i,.l .ev,.l .poly,.l .mono,.l .mono] (fun x3=>
 A.cond (A.cmp .lss x3.2.2.1 x3.2.1) (A.bd .ev x3.1 x3.2.2.1<|
 A.l1 (.x .ev) (A.get .ev x3.1 x3.2.2.1) fun x4=>
 A.cl zq zu (A.mkX .poly (A.fL .ev 2 .mono x4.1,()),()) fun x5=>
 A.cl zq zu (A.mkX .poly (A.fL .ev 3 .mono x4.1,()),()) fun x6=>
 A.cl acM acN (A.fL .ev 4 .poly x4.1,()) fun x7=>
 A.l1 (.l .ev) (A.lst .ev [A.mkX .ev (A.fI .ev 0 x4.1,A.fI .ev 1 x4.1,x5.1,x6.1,x7.1,())]) fun x8=>
 A.chk (A.cmp .leq (A.addN (A.len .ev x3.q.2.2.2.1) (A.len .ev x8.1)) (A.lit 1073741824))<|
 A.l1 (.l .ev) (A.app .ev x3.q.2.2.2.1 x8.1) fun x9=>
 A.inl _ (x3.1,x3.2.1,A.arith .add .i64 x3.2.2.1 (A.lit 1),x3.2.2.2.1,x3.q.1,x3.q.2.1,x3.q.2.2.1,x9.1,x3.o.1,x3.o.2.1,x3.o.2.2.1,()))<|
 A.inr _<|A.ret _ (x3.q.2.1,x3.q.2.2.1,x3.q.2.2.2.1,x3.o.1,x3.o.2.1,x3.o.2.2.1,())) (A.fL .sym 0 .ev x.1,A.len .ev (A.fL .sym 0 .ev x.1),A.lit 0,A.lit 0,A.lit 0,A.fI .sym 2 x.1,A.fI .sym 5 x.1,A.bN .ev,x0.1,x1.1,x2.1,())
def Za (A:Alg) (NC:Pt A BH) (ND:Ft A BH) (kR:Pt A iG) (kS:Ft A iG) (Nu:Pt A uD) (Nv:Ft A uD) (aly:Pt A Nb) (alz:Ft A Nb) (lK:Pt A jr) (lM:Ft A jr) (Zb:Pt A BL) (Zc:Ft A BL) (x:Tup A.ah [.x .sym,.i]):Ot A Nc:=
 A.cl kR kS (A.mkX .poly (A.fL .sym 3 .mono x.1,()),()) fun x0=>
 A.cg (A.aA (A.aA x0.1)) kR kS (A.mkX .poly (A.fL .sym 4 .mono x.1,()),()) fun x1=>
 A.cond (A.ak (A.aA x0.1) (A.bl true) (A.aA x1.1)) (A.ret _ (A.mkX .sym (A.bN .ev,A.bN .poly,A.lit 0,A.bN .mono,A.bN .mono,A.lit 0,()),()))<|
 A.cl aly alz (x.1,()) fun x2=>
 A.cl NC ND (A.mkX .poly (A.fL .sym 3 .mono x.1,()),()) fun x3=>
 A.l1 .i x3.1 fun x4=>
 A.l1 .b x3.2.1 fun x5=>
 A.cl NC ND (A.mkX .poly (A.fL .sym 4 .mono x.1,()),()) fun x6=>
 A.l1 .i x6.1 fun x7=>
 A.l1 .b x6.2.1 fun x8=>
 A.l1 .i (A.arith .add .i64 (A.arith .sub .i64 (A.fI .sym 2 x.1) (A.lit 3)) (A.lit 1)) fun x9=>
 A.l1 .b (A.ak (A.cmp .eql (A.fI .sym 2 x.1) (A.lit 2)) x5.1 (A.bl false)) fun x10=>
 A.bind [.i,.i,.i,.i,.l .ev,.l .poly,.l .mono,.l .mono] (A.cond x10.1 (A.l1 .i (A.lit 1) fun x11=>
 A.l1 .i x4.1 fun x12=>
 A.ret _ (A.lit 0,A.lit 0,x11.1,x12.1,x2.2.2.1,x2.2.2.2.1,A.bN .mono,A.bN .mono,()))<|
 A.l1 .b (A.ak (A.cmp .neq (A.fI .sym 2 x.1) (A.lit 3)) (A.cmp .neq (A.fI .sym 2 x.1) (A.lit 4)) (A.bl false)) fun x11=>
 A.bind [.i,.i,.i,.i,.l .ev,.l .poly,.l .mono,.l .mono] (A.cond x11.1 (A.ret _ (A.lit 0,A.lit 0,x2.1,x2.2.1,x2.2.2.1,x2.2.2.2.1,x2.q.1,x2.q.2.1,()))<|
 A.cl lK lM (A.mkX .poly (A.fL .sym 3 .mono x.1,()),A.mkX .poly (A.fL .sym 4 .mono x.1,()),()) fun x12=>
 A.l1 .b (A.ak x12.1 (A.bl true) (A.ak x5.1 x8.1 (A.bl false))) fun x13=>
 A.bind [.i,.i,.i,.i,.l .ev,.l .poly,.l .mono,.l .mono] (A.cond x13.1 (A.cl lK lM (A.mkX .poly (A.fL .sym 3 .mono x.1,()),A.mkX .poly (A.fL .sym 4 .mono x.1,()),()) fun x14=>
 A.cg (A.mJ (A.aA (A.ak x14.1 (A.cmp .eql (A.fI .sym 2 x.1) (A.lit 3)) (A.bl false))) (A.ak x5.1 x8.1 (A.bl false))) Zb Zc (x9.1,x4.1,x7.1,()) fun x15=>
 A.l1 .b (A.ak (A.ak x14.1 (A.cmp .eql (A.fI .sym 2 x.1) (A.lit 3)) (A.bl false)) (A.bl true) (A.ak (A.ak x5.1 x8.1 (A.bl false)) x15.1 (A.bl false))) fun x16=>
 A.l1 .i (A.lit 1) fun x17=>
 A.bind [.i,.i,.i,.i,.l .ev,.l .poly] (A.cond (A.aA x16.1) (A.l1 .i x.2.1 fun x18=>
 A.ret _ (A.lit 0,A.lit 0,x17.1,x18.1,x2.2.2.1,x2.2.2.2.1,()))<|
 A.ret _ (A.lit 0,A.lit 0,x17.1,x2.2.1,x2.2.2.1,x2.2.2.2.1,())) fun x18=>
 A.ret _ (x18.1,x18.2.1,x18.2.2.1,x18.2.2.2.1,x18.q.1,x18.q.2.1,A.bN .mono,A.bN .mono,()))<|
 A.cg (A.cmp .eql (A.fI .sym 2 x.1) (A.lit 3)) Nu Nv (A.mkX .poly (A.fL .sym 3 .mono x.1,()),A.mkX .poly (A.fL .sym 4 .mono x.1,()),()) fun x14=>
 A.l1 .b (A.ak (A.cmp .eql (A.fI .sym 2 x.1) (A.lit 3)) (A.cmp .gtr x14.1 (A.lit 0)) (A.bl false)) fun x15=>
 A.bind [.i,.i,.i,.i,.l .ev,.l .poly,.l .mono,.l .mono] (A.cond x15.1 (A.ret _ (A.lit 0,A.lit 0,x2.1,x2.2.1,x2.2.2.1,x2.2.2.2.1,x2.q.2.1,x2.q.1,()))<|
 A.ret _ (A.lit 0,A.lit 0,x2.1,x2.2.1,x2.2.2.1,x2.2.2.2.1,x2.q.1,x2.q.2.1,())) fun x16=>
 A.ret _ (x16.1,x16.2.1,x16.2.2.1,x16.2.2.2.1,x16.q.1,x16.q.2.1,x16.q.2.2.1,x16.q.2.2.2.1,())) fun x14=>
 A.ret _ (x14.1,x14.2.1,x14.2.2.1,x14.2.2.2.1,x14.q.1,x14.q.2.1,x14.q.2.2.1,x14.q.2.2.2.1,())) fun x12=>
 A.ret _ (x12.1,x12.2.1,x12.2.2.1,x12.2.2.2.1,x12.q.1,x12.q.2.1,x12.q.2.2.1,x12.q.2.2.2.1,())) fun x11=>
 A.ret _ (A.mkX .sym (x11.q.1,x11.q.2.1,x11.2.2.1,x11.q.2.2.1,x11.q.2.2.2.1,x11.2.2.2.1,()),())
def Zd (A:Alg) (FJ:Pt A nY) (FK:Ft A nY) (rR:Pt A jq) (rT:Ft A jq) (alA:Pt A MZ) (alB:Ft A MZ) (FD:Pt A nX) (FH:Ft A nX) (Nz:Pt A uF) (NA:Ft A uF) (alC:Pt A Nc) (alD:Ft A Nc) (alE:Pt A M0) (alF:Ft A M0) (YF:Pt A BF) (YG:Ft A BF) (alG:Pt A M9) (alH:Ft A M9) (Uz:Pt A Bz) (UA:Ft A Bz) (YH:Pt A BA) (YI:Ft A BA) (alI:Pt A M4) (alJ:Ft A M4) (x:Tup A.ah [.x .tab,.x .blk]):Ot A Ng:=
 A.cl alE alF (x.1,()) fun x0=>
 A.cg (A.aA (A.ak (A.aA x0.1) (A.bl true) (A.cmp .gtr (A.len .atom (A.fL .tab 0 .atom x.1)) (A.lit 100)))) rR rT (x.2.1,()) fun x1=>
 A.cond (A.ak (A.ak (A.aA x0.1) (A.bl true) (A.cmp .gtr (A.len .atom (A.fL .tab 0 .atom x.1)) (A.lit 100))) (A.bl true) (A.aA x1.1)) (A.ret _ (A.mkX .tab (A.bN .atom,()),A.mkX .sym (A.bN .ev,A.bN .poly,A.lit 0,A.bN .mono,A.bN .mono,A.lit 0,()),()))<|
 A.cl YH YI (A.fL .tab 0 .atom x.1,A.bl false,()) fun x2=>
 A.chk (A.cmp .eql (A.len .iop (A.fL .blk 2 .iop x.2.1)) (A.len .iop (A.fL .blk 2 .iop x.2.1)))<|
 A.chk (A.cmp .leq (A.lit 0) (A.len .iop (A.fL .blk 2 .iop x.2.1)))<|
 A.chk (A.cmp .leq (A.len .iop (A.fL .blk 2 .iop x.2.1)) (A.lit 1073741824))<|
 A.l1 (.l .poly) (A.rep .poly (A.len .iop (A.fL .blk 2 .iop x.2.1)) (A.mkX .poly (A.bN .mono,()))) fun x3=>
 A.l1 .i (A.lit 0) fun x4=>
 A.l1 .i (A.lit 0) fun x5=>
 A.iter [.i,.i,.l .iop,.i,.i,.x .blk,.i,.i,.l .atom,.b,.i,.i,.l .poly,.l .ev,.l .poly] (fun x6=>
 A.cond (A.cmp .lss x6.q.1 x6.2.2.2.1) (A.bd .iop x6.2.2.1 x6.q.1<|
 A.l1 .i x6.q.1 fun x7=>
 A.l1 (.x .iop) (A.get .iop x6.2.2.1 x6.q.1) fun x8=>
 A.cl FD FH (x8.1,()) fun x9=>
 A.l1 .b x9.1 fun x10=>
 A.l1 .b x9.2.1 fun x11=>
 A.l1 .b x9.2.2.1 fun x12=>
 A.l1 .b x9.2.2.2.1 fun x13=>
 A.bind [.i,.i,.i,.b,.l .iop,.i,.i,.x .blk,.i,.i,.l .atom,.b,.i,.i,.l .poly,.x .iop,.x .poly,.l .ev,.l .poly] (A.cond x10.1 (A.bd .poly x6.o.q.1 (A.fI .iop 1 x8.1)<|
 A.bd .poly x6.o.q.1 (A.fI .iop 1 x8.1)<|
 A.l1 (.x .poly) (A.get .poly x6.o.q.1 (A.fI .iop 1 x8.1)) fun x14=>
 A.ret _ (x6.1,x6.2.1,x7.1,x11.1,x6.2.2.1,x6.2.2.2.1,x6.q.1,x6.q.2.1,x6.q.2.2.1,x6.q.2.2.2.1,x6.o.1,x6.o.2.1,x6.o.2.2.1,x6.o.2.2.2.1,x6.o.q.1,x8.1,x14.1,x6.o.q.2.1,x6.o.q.2.2.1,()))<|
 A.ret _ (x6.1,x6.2.1,x7.1,x11.1,x6.2.2.1,x6.2.2.2.1,x6.q.1,x6.q.2.1,x6.q.2.2.1,x6.q.2.2.2.1,x6.o.1,x6.o.2.1,x6.o.2.2.1,x6.o.2.2.2.1,x6.o.q.1,x8.1,A.mkX .poly (A.bN .mono,()),x6.o.q.2.1,x6.o.q.2.2.1,())) fun x14=>
 A.bind [.i,.i,.i,.l .iop,.i,.i,.x .blk,.i,.i,.l .atom,.b,.i,.i,.l .poly,.x .iop,.x .poly,.x .poly,.l .ev,.l .poly] (A.cond x14.2.2.2.1 (A.bd .poly x14.o.q.2.2.1 (A.fI .iop 2 x14.o.q.2.2.2.1)<|
 A.bd .poly x14.o.q.2.2.1 (A.fI .iop 2 x14.o.q.2.2.2.1)<|
 A.l1 (.x .poly) (A.get .poly x14.o.q.2.2.1 (A.fI .iop 2 x14.o.q.2.2.2.1)) fun x15=>
 A.ret _ (x14.1,x14.2.1,x14.2.2.1,x14.q.1,x14.q.2.1,x14.q.2.2.1,x14.q.2.2.2.1,x14.o.1,x14.o.2.1,x14.o.2.2.1,x14.o.2.2.2.1,x14.o.q.1,x14.o.q.2.1,x14.o.q.2.2.1,x14.o.q.2.2.2.1,x14.o.o.1,x15.1,x14.o.o.2.1,x14.o.o.2.2.1,()))<|
 A.ret _ (x14.1,x14.2.1,x14.2.2.1,x14.q.1,x14.q.2.1,x14.q.2.2.1,x14.q.2.2.2.1,x14.o.1,x14.o.2.1,x14.o.2.2.1,x14.o.2.2.2.1,x14.o.q.1,x14.o.q.2.1,x14.o.q.2.2.1,x14.o.q.2.2.2.1,x14.o.o.1,A.mkX .poly (A.bN .mono,()),x14.o.o.2.1,x14.o.o.2.2.1,())) fun x15=>
 A.cl alA alB (x15.o.q.2.2.1,()) fun x16=>
 A.bind [.i,.i,.i,.l .iop,.i,.i,.x .blk,.i,.i,.l .atom,.b,.i,.i,.l .poly,.x .iop,.x .poly,.x .poly,.l .ev,.l .poly] (A.cond x16.1 (A.bind [.i,.i,.i,.l .iop,.i,.i,.x .blk,.i,.i,.l .atom,.b,.i,.i,.l .poly,.x .iop,.x .poly,.x .poly,.i,.i,.l .mono,.l .mono,.l .ev,.l .poly,.l .poly] (A.cond (A.ak (A.cmp .eql (A.fI .iop 0 x15.o.q.2.2.1) (A.lit 4)) (A.bl true) (A.cmp .eql (A.fI .iop 0 x15.o.q.2.2.1) (A.lit 5))) (A.cl alI alJ (x15.o.o.2.2.1,()) fun x17=>
 A.ret _ (x15.1,x15.2.1,x15.2.2.1,x15.2.2.2.1,x15.q.1,x15.q.2.1,x15.q.2.2.1,x15.q.2.2.2.1,x15.o.1,x15.o.2.1,x15.o.2.2.1,x15.o.2.2.2.1,x15.o.q.1,x15.o.q.2.1,x15.o.q.2.2.1,x15.o.q.2.2.2.1,x15.o.o.1,A.fI .iop 0 x15.o.q.2.2.1,A.fI .iop 4 x15.o.q.2.2.1,A.fL .poly 0 .mono x15.o.q.2.2.2.1,A.fL .poly 0 .mono x15.o.o.1,x15.o.o.2.1,x17.1,x17.2.1,()))<|
 A.ret _ (x15.1,x15.2.1,x15.2.2.1,x15.2.2.2.1,x15.q.1,x15.q.2.1,x15.q.2.2.1,x15.q.2.2.2.1,x15.o.1,x15.o.2.1,x15.o.2.2.1,x15.o.2.2.2.1,x15.o.q.1,x15.o.q.2.1,x15.o.q.2.2.1,x15.o.q.2.2.2.1,x15.o.o.1,A.fI .iop 0 x15.o.q.2.2.1,A.fI .iop 4 x15.o.q.2.2.1,A.fL .poly 0 .mono x15.o.q.2.2.2.1,A.fL .poly 0 .mono x15.o.o.1,x15.o.o.2.1,x15.o.o.2.2.1,A.bN .poly,())) fun x17=>
 A.l1 (.l .ev) (A.lst .ev [A.mkX .ev (x17.o.o.2.1,x17.o.o.2.2.1,x17.o.o.2.2.2.1,x17.o.o.q.1,x17.o.o.q.2.2.2.1,())]) fun x18=>
 A.chk (A.cmp .leq (A.addN (A.len .ev x17.o.o.q.2.1) (A.len .ev x18.1)) (A.lit 1073741824))<|
 A.l1 (.l .ev) (A.app .ev x17.o.o.q.2.1 x18.1) fun x19=>
 A.ret _ (x17.1,x17.2.1,x17.2.2.1,x17.2.2.2.1,x17.q.1,x17.q.2.1,x17.q.2.2.1,x17.q.2.2.2.1,x17.o.1,x17.o.2.1,x17.o.2.2.1,x17.o.2.2.2.1,x17.o.q.1,x17.o.q.2.1,x17.o.q.2.2.1,x17.o.q.2.2.2.1,x17.o.o.1,x19.1,x17.o.o.q.2.2.1,()))<|
 A.ret _ (x15.1,x15.2.1,x15.2.2.1,x15.2.2.2.1,x15.q.1,x15.q.2.1,x15.q.2.2.1,x15.q.2.2.2.1,x15.o.1,x15.o.2.1,x15.o.2.2.1,x15.o.2.2.2.1,x15.o.q.1,x15.o.q.2.1,x15.o.q.2.2.1,x15.o.q.2.2.2.1,x15.o.o.1,x15.o.o.2.1,x15.o.o.2.2.1,())) fun x17=>
 A.l1 .b (A.cmp .eql (A.fI .iop 0 x17.o.q.2.2.1) (A.lit 1)) fun x18=>
 A.jR [.i,.i,.l .iop,.i,.i,.x .blk,.i,.i,.l .atom,.b,.i,.i,.l .poly,.l .ev,.l .poly] (A.cond x18.1 (A.cl Nz NA (A.fI .iop 3 x17.o.q.2.2.1,()) fun x19=>
 A.bd .poly x17.o.q.2.1 x17.2.2.1<|
 A.bd .poly x17.o.q.2.1 x17.2.2.1<|
 A.inl _ (x17.1,x17.2.1,x17.2.2.2.1,x17.q.1,x17.q.2.1,x17.q.2.2.1,x17.q.2.2.2.1,x17.o.1,x17.o.2.1,x17.o.2.2.1,x17.o.2.2.2.1,x17.o.q.1,A.set .poly x17.o.q.2.1 x17.2.2.1 (A.mkX .poly (x19.1,())),x17.o.o.2.1,x17.o.o.2.2.1,()))<|
 A.l1 .b (A.cmp .eql (A.fI .iop 0 x17.o.q.2.2.1) (A.lit 2)) fun x19=>
 A.jR [.i,.i,.l .iop,.i,.i,.x .blk,.i,.i,.l .atom,.b,.i,.i,.l .poly,.l .ev,.l .poly] (A.cond x19.1 (A.bd .poly x17.o.o.2.2.1 (A.fI .iop 3 x17.o.q.2.2.1)<|
 A.bd .poly x17.o.o.2.2.1 (A.fI .iop 3 x17.o.q.2.2.1)<|
 A.bd .poly x17.o.q.2.1 x17.2.2.1<|
 A.bd .poly x17.o.q.2.1 x17.2.2.1<|
 A.l1 (.x .poly) (A.get .poly x17.o.o.2.2.1 (A.fI .iop 3 x17.o.q.2.2.1)) fun x20=>
 A.inl _ (x17.1,x17.2.1,x17.2.2.2.1,x17.q.1,x17.q.2.1,x17.q.2.2.1,x17.q.2.2.2.1,x17.o.1,x17.o.2.1,x17.o.2.2.1,x17.o.2.2.2.1,x17.o.q.1,A.set .poly x17.o.q.2.1 x17.2.2.1 x20.1,x17.o.o.2.1,x17.o.o.2.2.1,()))<|
 A.l1 .b (A.cmp .eql (A.fI .iop 0 x17.o.q.2.2.1) (A.lit 3)) fun x20=>
 A.jR [.i,.i,.l .iop,.i,.i,.x .blk,.i,.i,.l .atom,.b,.i,.i,.l .poly,.l .ev,.l .poly] (A.cond x20.1 (A.cl alG alH (A.mkX .tab (x17.o.2.1,()),A.fI .iop 3 x17.o.q.2.2.1,x17.o.q.2.2.2.1,x17.o.o.1,()) fun x21=>
 A.l1 (.x .tab) x21.1 fun x22=>
 A.l1 (.x .poly) x21.2.1 fun x23=>
 A.l1 .b x21.2.2.1 fun x24=>
 A.cond (A.aA x24.1) (A.inr _<|A.inr _<|A.inr _<|A.inr _<|A.ret _ (A.mkX .tab (A.bN .atom,()),A.mkX .sym (A.bN .ev,A.bN .poly,A.lit 0,A.bN .mono,A.bN .mono,A.lit 0,()),()))<|
 A.l1 (.x .tab) x22.1 fun x25=>
 A.bd .poly x17.o.q.2.1 x17.2.2.1<|
 A.bd .poly x17.o.q.2.1 x17.2.2.1<|
 A.l1 (.x .poly) x23.1 fun x26=>
 A.inl _ (x17.1,x17.2.1,x17.2.2.2.1,x17.q.1,x17.q.2.1,x17.q.2.2.1,x17.q.2.2.2.1,x17.o.1,A.fL .tab 0 .atom x25.1,x17.o.2.2.1,x17.o.2.2.2.1,x17.o.q.1,A.set .poly x17.o.q.2.1 x17.2.2.1 x26.1,x17.o.o.2.1,x17.o.o.2.2.1,()))<|
 A.l1 .b (A.cmp .eql (A.fI .iop 0 x17.o.q.2.2.1) (A.lit 4)) fun x21=>
 A.bind [.i,.i,.l .iop,.i,.i,.x .blk,.i,.i,.l .atom,.b,.i,.i,.l .poly,.l .ev,.l .poly] (A.cond x21.1 (A.cl Uz UA (A.lit 2,x17.1,x17.o.2.1,x17.o.2.2.1,()) fun x22=>
 A.bd .poly x17.o.q.2.1 x17.2.2.1<|
 A.bd .poly x17.o.q.2.1 x17.2.2.1<|
 A.l1 (.x .poly) x22.1 fun x23=>
 A.l1 .i (A.arith .add .i64 x17.1 (A.lit 1)) fun x24=>
 A.ret _ (x24.1,x17.2.1,x17.2.2.2.1,x17.q.1,x17.q.2.1,x17.q.2.2.1,x17.q.2.2.2.1,x17.o.1,x22.2.1,x22.2.2.1,x17.o.2.2.2.1,x17.o.q.1,A.set .poly x17.o.q.2.1 x17.2.2.1 x23.1,x17.o.o.2.1,x17.o.o.2.2.1,()))<|
 A.l1 .b (A.cmp .eql (A.fI .iop 0 x17.o.q.2.2.1) (A.lit 6)) fun x22=>
 A.bind [.i,.i,.l .iop,.i,.i,.x .blk,.i,.i,.l .atom,.b,.i,.i,.l .poly,.l .ev,.l .poly] (A.cond x22.1 (A.cl Uz UA (A.lit 3,x17.2.1,x17.o.2.1,x17.o.2.2.1,()) fun x23=>
 A.bd .poly x17.o.q.2.1 x17.2.2.1<|
 A.bd .poly x17.o.q.2.1 x17.2.2.1<|
 A.l1 (.x .poly) x23.1 fun x24=>
 A.l1 .i (A.arith .add .i64 x17.2.1 (A.lit 1)) fun x25=>
 A.ret _ (x17.1,x25.1,x17.2.2.2.1,x17.q.1,x17.q.2.1,x17.q.2.2.1,x17.q.2.2.2.1,x17.o.1,x23.2.1,x23.2.2.1,x17.o.2.2.2.1,x17.o.q.1,A.set .poly x17.o.q.2.1 x17.2.2.1 x24.1,x17.o.o.2.1,x17.o.o.2.2.1,()))<|
 A.l1 .b (A.cmp .eql (A.fI .iop 0 x17.o.q.2.2.1) (A.lit 8)) fun x23=>
 A.bind [.i,.i,.l .iop,.i,.i,.x .blk,.i,.i,.l .atom,.b,.i,.i,.l .poly,.l .ev,.l .poly] (A.cond x23.1 (A.bd .poly x17.o.o.2.2.1 (A.fI .iop 3 x17.o.q.2.2.1)<|
 A.bd .poly x17.o.o.2.2.1 (A.fI .iop 3 x17.o.q.2.2.1)<|
 A.l1 (.x .poly) x17.o.q.2.2.2.1 fun x24=>
 A.ret _ (x17.1,x17.2.1,x17.2.2.2.1,x17.q.1,x17.q.2.1,x17.q.2.2.1,x17.q.2.2.2.1,x17.o.1,x17.o.2.1,x17.o.2.2.1,x17.o.2.2.2.1,x17.o.q.1,x17.o.q.2.1,x17.o.o.2.1,A.set .poly x17.o.o.2.2.1 (A.fI .iop 3 x17.o.q.2.2.1) x24.1,()))<|
 A.ret _ (x17.1,x17.2.1,x17.2.2.2.1,x17.q.1,x17.q.2.1,x17.q.2.2.1,x17.q.2.2.2.1,x17.o.1,x17.o.2.1,x17.o.2.2.1,x17.o.2.2.2.1,x17.o.q.1,x17.o.q.2.1,x17.o.o.2.1,x17.o.o.2.2.1,())) fun x24=>
 A.ret _ (x24.1,x24.2.1,x24.2.2.1,x24.2.2.2.1,x24.q.1,x24.q.2.1,x24.q.2.2.1,x24.q.2.2.2.1,x24.o.1,x24.o.2.1,x24.o.2.2.1,x24.o.2.2.2.1,x24.o.q.1,x24.o.q.2.1,x24.o.q.2.2.1,())) fun x23=>
 A.ret _ (x23.1,x23.2.1,x23.2.2.1,x23.2.2.2.1,x23.q.1,x23.q.2.1,x23.q.2.2.1,x23.q.2.2.2.1,x23.o.1,x23.o.2.1,x23.o.2.2.1,x23.o.2.2.2.1,x23.o.q.1,x23.o.q.2.1,x23.o.q.2.2.1,())) fun x22=>
 A.inl _ (x22.1,x22.2.1,x22.2.2.1,x22.2.2.2.1,x22.q.1,x22.q.2.1,x22.q.2.2.1,x22.q.2.2.2.1,x22.o.1,x22.o.2.1,x22.o.2.2.1,x22.o.2.2.2.1,x22.o.q.1,x22.o.q.2.1,x22.o.q.2.2.1,())) fun x21=>
 A.inl _ (x21.1,x21.2.1,x21.2.2.1,x21.2.2.2.1,x21.q.1,x21.q.2.1,x21.q.2.2.1,x21.q.2.2.2.1,x21.o.1,x21.o.2.1,x21.o.2.2.1,x21.o.2.2.2.1,x21.o.q.1,x21.o.q.2.1,x21.o.q.2.2.1,())) fun x20=>
 A.inl _ (x20.1,x20.2.1,x20.2.2.1,x20.2.2.2.1,x20.q.1,x20.q.2.1,x20.q.2.2.1,x20.q.2.2.2.1,x20.o.1,x20.o.2.1,x20.o.2.2.1,x20.o.2.2.2.1,x20.o.q.1,x20.o.q.2.1,x20.o.q.2.2.1,())) fun x19=>
 A.inl _ (x19.1,x19.2.1,x19.2.2.1,x19.2.2.2.1,A.arith .add .i64 x19.q.1 (A.lit 1),x19.q.2.1,x19.q.2.2.1,x19.q.2.2.2.1,x19.o.1,x19.o.2.1,x19.o.2.2.1,x19.o.2.2.2.1,x19.o.q.1,x19.o.q.2.1,x19.o.q.2.2.1,()))<|
 A.inr _<|A.cl FJ FK (x6.q.2.1,()) fun x7=>
 A.l1 .b x7.1 fun x8=>
 A.l1 .b x7.2.1 fun x9=>
 A.l1 .b x7.2.2.1 fun x10=>
 A.bind [.b,.x .blk,.i,.i,.l .atom,.b,.i,.l .mono,.i,.l .poly,.l .ev,.l .poly] (A.cond x8.1 (A.bd .poly x6.o.q.1 (A.fI .blk 4 x6.q.2.1)<|
 A.bd .poly x6.o.q.1 (A.fI .blk 4 x6.q.2.1)<|
 A.l1 (.x .poly) (A.get .poly x6.o.q.1 (A.fI .blk 4 x6.q.2.1)) fun x11=>
 A.ret _ (x9.1,x6.q.2.1,x6.q.2.2.1,x6.q.2.2.2.1,x6.o.1,x6.o.2.1,x6.o.2.2.1,A.fL .poly 0 .mono x11.1,x6.o.2.2.2.1,x6.o.q.1,x6.o.q.2.1,x6.o.q.2.2.1,()))<|
 A.ret _ (x9.1,x6.q.2.1,x6.q.2.2.1,x6.q.2.2.2.1,x6.o.1,x6.o.2.1,x6.o.2.2.1,A.bN .mono,x6.o.2.2.2.1,x6.o.q.1,x6.o.q.2.1,x6.o.q.2.2.1,())) fun x11=>
 A.bind [.x .blk,.i,.i,.l .atom,.b,.i,.l .mono,.l .mono,.i,.l .ev,.l .poly] (A.cond x11.1 (A.bd .poly x11.o.2.1 (A.fI .blk 5 x11.2.1)<|
 A.bd .poly x11.o.2.1 (A.fI .blk 5 x11.2.1)<|
 A.l1 (.x .poly) (A.get .poly x11.o.2.1 (A.fI .blk 5 x11.2.1)) fun x12=>
 A.ret _ (x11.2.1,x11.2.2.1,x11.2.2.2.1,x11.q.1,x11.q.2.1,x11.q.2.2.1,x11.q.2.2.2.1,A.fL .poly 0 .mono x12.1,x11.o.1,x11.o.2.2.1,x11.o.2.2.2.1,()))<|
 A.ret _ (x11.2.1,x11.2.2.1,x11.2.2.2.1,x11.q.1,x11.q.2.1,x11.q.2.2.1,x11.q.2.2.2.1,A.bN .mono,x11.o.1,x11.o.2.2.1,x11.o.2.2.2.1,())) fun x12=>
 A.cond x12.q.1 (A.ret _ (A.mkX .tab (A.bN .atom,()),A.mkX .sym (A.bN .ev,A.bN .poly,A.lit 0,A.bN .mono,A.bN .mono,A.lit 0,()),()))<|
 A.cl YF YG (A.mkX .tab (x12.2.2.2.1,()),()) fun x13=>
 A.cl alC alD (A.mkX .sym (x12.o.2.1,x12.o.2.2.1,x12.q.2.1,x12.q.2.2.1,x12.q.2.2.2.1,x12.o.1,()),A.arith .add .i64 (A.fI .blk 0 x12.1) (A.fI .blk 1 x12.1),()) fun x14=>
 A.l1 (.x .sym) x14.1 fun x15=>
 A.ret _ (A.mkX .tab (x13.1,()),x15.1,())) (x4.1,x5.1,A.fL .blk 2 .iop x.2.1,A.len .iop (A.fL .blk 2 .iop x.2.1),A.lit 0,x.2.1,A.lit 0,A.lit 0,x2.1,x2.2.1,A.fI .blk 3 x.2.1,A.fI .blk 6 x.2.1,x3.1,A.bN .ev,x2.2.2.1,())
def Ze (A:Alg) (lK:Pt A jr) (lM:Ft A jr) (x:Tup A.ah [.x .poly,.x .poly]):Ot A Nh:=
 A.l1 .b (A.bl false) fun x0=>
 A.cl lK lM (x.1,x.2.1,()) fun x1=>
 A.rb x1.1
def RO (A:Alg) (alK:Pt A Nh) (alL:Ft A Nh) (x:Tup A.ah [.l .poly,.l .poly]):Ot A Fv:=
 A.l1 .b (A.bl false) fun x0=>
 A.cond (A.cmp .neq (A.len .poly x.1) (A.len .poly x.2.1)) (A.rb (A.bl false))<|
 A.iter [.l .poly,.l .poly,.i,.i] (fun x1=>
 A.cond (A.cmp .lss x1.2.2.2.1 x1.2.2.1) (A.bd .poly x1.2.1 x1.2.2.2.1<|
 A.l1 .i x1.2.2.2.1 fun x2=>
 A.l1 (.x .poly) (A.get .poly x1.2.1 x1.2.2.2.1) fun x3=>
 A.bd .poly x1.1 x2.1<|
 A.l1 (.x .poly) (A.get .poly x1.1 x2.1) fun x4=>
 A.cl alK alL (x3.1,x4.1,()) fun x5=>
 A.cond (A.aA x5.1) (A.l1 .b (A.bl false) fun x6=>
 A.inr _<|A.ret _ (x6.1,()))<|
 A.inl _ (x1.1,x1.2.1,x1.2.2.1,A.arith .add .i64 x1.2.2.2.1 (A.lit 1),()))<|
 A.inr _<|A.rb (A.bl true)) (x.2.1,x.1,A.len .poly x.1,A.lit 0,())
def Zf (A:Alg) (af6:Pt A Fv) (af7:Ft A Fv) (x:Tup A.ah [.l .poly,.l .poly]):Ot A BM:=
 A.l1 .b (A.bl false) fun x0=>
 A.cl af6 af7 (x.1,x.2.1,()) fun x1=>
 A.rb x1.1
def Zg (A:Alg) (lK:Pt A jr) (lM:Ft A jr) (Zh:Pt A BM) (Zi:Ft A BM) (x:Tup A.ah [.x .ev,.x .ev]):Ot A Ni:=
 A.l1 .b (A.bl false) fun x0=>
 A.cg (A.ak (A.cmp .eql (A.fI .ev 0 x.1) (A.fI .ev 0 x.2.1)) (A.cmp .eql (A.fI .ev 1 x.1) (A.fI .ev 1 x.2.1)) (A.bl false)) lK lM (A.mkX .poly (A.fL .ev 2 .mono x.1,()),A.mkX .poly (A.fL .ev 2 .mono x.2.1,()),()) fun x1=>
 A.cg (A.ak (A.ak (A.cmp .eql (A.fI .ev 0 x.1) (A.fI .ev 0 x.2.1)) (A.cmp .eql (A.fI .ev 1 x.1) (A.fI .ev 1 x.2.1)) (A.bl false)) x1.1 (A.bl false)) lK lM (A.mkX .poly (A.fL .ev 3 .mono x.1,()),A.mkX .poly (A.fL .ev 3 .mono x.2.1,()),()) fun x2=>
 A.cg (A.ak (A.ak (A.ak (A.cmp .eql (A.fI .ev 0 x.1) (A.fI .ev 0 x.2.1)) (A.cmp .eql (A.fI .ev 1 x.1) (A.fI .ev 1 x.2.1)) (A.bl false)) x1.1 (A.bl false)) x2.1 (A.bl false)) Zh Zi (A.fL .ev 4 .poly x.1,A.fL .ev 4 .poly x.2.1,()) fun x3=>
 A.rb (A.ak (A.ak (A.ak (A.ak (A.cmp .eql (A.fI .ev 0 x.1) (A.fI .ev 0 x.2.1)) (A.cmp .eql (A.fI .ev 1 x.1) (A.fI .ev 1 x.2.1)) (A.bl false)) x1.1 (A.bl false)) x2.1 (A.bl false)) x3.1 (A.bl false))
def RP (A:Alg) (alM:Pt A Ni) (alN:Ft A Ni) (x:Tup A.ah [.l .ev,.l .ev]):Ot A Fw:=
 A.l1 .b (A.bl false) fun x0=>
 A.cond (A.cmp .neq (A.len .ev x.1) (A.len .ev x.2.1)) (A.rb (A.bl false))<|
 A.iter [.l .ev,.l .ev,.i,.i] (fun x1=>
 A.cond (A.cmp .lss x1.2.2.2.1 x1.2.2.1) (A.bd .ev x1.2.1 x1.2.2.2.1<|
 A.l1 .i x1.2.2.2.1 fun x2=>
 A.l1 (.x .ev) (A.get .ev x1.2.1 x1.2.2.2.1) fun x3=>
 A.bd .ev x1.1 x2.1<|
 A.l1 (.x .ev) (A.get .ev x1.1 x2.1) fun x4=>
 A.cl alM alN (x3.1,x4.1,()) fun x5=>
 A.cond (A.aA x5.1) (A.l1 .b (A.bl false) fun x6=>
 A.inr _<|A.ret _ (x6.1,()))<|
 A.inl _ (x1.1,x1.2.1,x1.2.2.1,A.arith .add .i64 x1.2.2.2.1 (A.lit 1),()))<|
 A.inr _<|A.rb (A.bl true)) (x.2.1,x.1,A.len .ev x.1,A.lit 0,())
def Zj (A:Alg) (lK:Pt A jr) (lM:Ft A jr) (Zh:Pt A BM) (Zi:Ft A BM) (af8:Pt A Fw) (af9:Ft A Fw) (x:Tup A.ah [.x .sym,.x .sym]):Ot A Nj:=
 A.l1 .b (A.bl false) fun x0=>
 A.cl af8 af9 (A.fL .sym 0 .ev x.1,A.fL .sym 0 .ev x.2.1,()) fun x1=>
 A.l1 .b x1.1 fun x2=>
 A.cg x2.1 Zh Zi (A.fL .sym 1 .poly x.1,A.fL .sym 1 .poly x.2.1,()) fun x3=>
 A.cg (A.ak (A.ak x2.1 x3.1 (A.bl false)) (A.cmp .eql (A.fI .sym 2 x.1) (A.fI .sym 2 x.2.1)) (A.bl false)) lK lM (A.mkX .poly (A.fL .sym 3 .mono x.1,()),A.mkX .poly (A.fL .sym 3 .mono x.2.1,()),()) fun x4=>
 A.cg (A.ak (A.ak (A.ak x2.1 x3.1 (A.bl false)) (A.cmp .eql (A.fI .sym 2 x.1) (A.fI .sym 2 x.2.1)) (A.bl false)) x4.1 (A.bl false)) lK lM (A.mkX .poly (A.fL .sym 4 .mono x.1,()),A.mkX .poly (A.fL .sym 4 .mono x.2.1,()),()) fun x5=>
 A.rb (A.ak (A.ak (A.ak (A.ak (A.ak x2.1 x3.1 (A.bl false)) (A.cmp .eql (A.fI .sym 2 x.1) (A.fI .sym 2 x.2.1)) (A.bl false)) x4.1 (A.bl false)) x5.1 (A.bl false)) (A.cmp .eql (A.fI .sym 5 x.1) (A.fI .sym 5 x.2.1)) (A.bl false))
def Zk (A:Alg) (rR:Pt A jq) (rT:Ft A jq) (alO:Pt A ML) (alP:Ft A ML) (alQ:Pt A MX) (alR:Ft A MX) (acO:Pt A Ng) (acP:Ft A Ng) (alS:Pt A Nj) (alT:Ft A Nj) (x:Tup A.ah [.x .blk,.x .blk]):Ot A Nk:=
 A.l1 .b (A.bl false) fun x0=>
 A.cl rR rT (x.1,()) fun x1=>
 A.cg (A.aA (A.aA x1.1)) rR rT (x.2.1,()) fun x2=>
 A.cond (A.ak (A.ak (A.ak (A.aA x1.1) (A.bl true) (A.aA x2.1)) (A.bl true) (A.cmp .neq (A.fI .blk 0 x.1) (A.fI .blk 0 x.2.1))) (A.bl true) (A.cmp .neq (A.fI .blk 1 x.1) (A.fI .blk 1 x.2.1))) (A.rb (A.bl false))<|
 A.cl alO alP (x.1,x.2.1,()) fun x3=>
 A.cond x3.1 (A.rb (A.bl true))<|
 A.cl alQ alR () fun x4=>
 A.l1 (.x .tab) x4.1 fun x5=>
 A.l1 (.l .poly) x4.2.1 fun x6=>
 A.cl acO acP (x5.1,x.1,()) fun x7=>
 A.l1 (.x .tab) x7.1 fun x8=>
 A.l1 (.x .sym) x7.2.1 fun x9=>
 A.cl acO acP (x8.1,x.2.1,()) fun x10=>
 A.l1 (.x .tab) x10.1 fun x11=>
 A.l1 (.x .sym) x10.2.1 fun x12=>
 A.cl alS alT (x9.1,x12.1,()) fun x13=>
 A.rb x13.1
def RQ (A:Alg) (aga:Pt A EI) (agb:Ft A EI) (agc:Pt A EH) (agd:Ft A EH) (x:Tup A.ah [.l .u8]):Ot A Fx:=
 A.cl aga agb (x.1,()) fun x0=>
 A.cl agc agd (A.lit 12,x0.1,x0.2.1,()) fun x1=>
 A.l1 (.x .blk) x1.1 fun x2=>
 A.ret _ (x2.1,())
def Zl (A:Alg) (XY:Pt A Bp) (XZ:Ft A Bp) (x:Tup A.ah [.x .blk,.l .bool]):Ot A BN:=
 A.chk (A.cmp .eql (A.len .iop (A.fL .blk 2 .iop x.1)) (A.len .iop (A.fL .blk 2 .iop x.1)))<|
 A.chk (A.cmp .leq (A.lit 0) (A.len .iop (A.fL .blk 2 .iop x.1)))<|
 A.chk (A.cmp .leq (A.len .iop (A.fL .blk 2 .iop x.1)) (A.lit 1073741824))<|
 A.l1 (.l .i64) (A.rep .i64 (A.len .iop (A.fL .blk 2 .iop x.1)) (A.mkX .i64 (A.lit 0,()))) fun x0=>
 A.l1 (.x .blk) x.1 fun x1=>
 A.iter [.l .bool,.l .iop,.i,.i,.i,.i,.i,.i,.i,.i,.l .i64,.i,.i,.i,.i,.i,.i,.l .iop] (fun x2=>
 A.cond (A.cmp .lss x2.2.2.2.1 x2.2.2.1) (A.bd .iop x2.2.1 x2.2.2.2.1<|
 A.l1 .i x2.2.2.2.1 fun x3=>
 A.l1 (.x .iop) (A.get .iop x2.2.1 x2.2.2.2.1) fun x4=>
 A.bd .i64 x2.o.2.2.1 x3.1<|
 A.bd .i64 x2.o.2.2.1 x3.1<|
 A.l1 .i (A.len .iop x2.o.o.2.1) fun x5=>
 A.bd .bool x2.1 x3.1<|
 A.bind [.l .bool,.l .iop,.i,.i,.i,.i,.i,.i,.i,.i,.l .i64,.i,.i,.i,.i,.i,.i,.l .iop] (A.cond (A.fB .bool 0 (A.get .bool x2.1 x3.1)) (A.l1 (.l .iop) (A.lst .iop [x4.1]) fun x6=>
 A.chk (A.cmp .leq (A.addN (A.len .iop x2.o.o.2.1) (A.len .iop x6.1)) (A.lit 1073741824))<|
 A.l1 (.l .iop) (A.app .iop x2.o.o.2.1 x6.1) fun x7=>
 A.ret _ (x2.1,x2.2.1,x2.2.2.1,x2.2.2.2.1,x2.q.1,x2.q.2.1,x2.q.2.2.1,x2.q.2.2.2.1,x2.o.1,x2.o.2.1,A.set .i64 x2.o.2.2.1 x3.1 (A.mkX .i64 (x5.1,())),x2.o.2.2.2.1,x2.o.q.1,x2.o.q.2.1,x2.o.q.2.2.1,x2.o.q.2.2.2.1,x2.o.o.1,x7.1,()))<|
 A.ret _ (x2.1,x2.2.1,x2.2.2.1,x2.2.2.2.1,x2.q.1,x2.q.2.1,x2.q.2.2.1,x2.q.2.2.2.1,x2.o.1,x2.o.2.1,A.set .i64 x2.o.2.2.1 x3.1 (A.mkX .i64 (x5.1,())),x2.o.2.2.2.1,x2.o.q.1,x2.o.q.2.1,x2.o.q.2.2.1,x2.o.q.2.2.2.1,x2.o.o.1,x2.o.o.2.1,())) fun x6=>
 A.inl _ (x6.1,x6.2.1,x6.2.2.1,A.arith .add .i64 x6.2.2.2.1 (A.lit 1),x6.q.1,x6.q.2.1,x6.q.2.2.1,x6.q.2.2.2.1,x6.o.1,x6.o.2.1,x6.o.2.2.1,x6.o.2.2.2.1,x6.o.q.1,x6.o.q.2.1,x6.o.q.2.2.1,x6.o.q.2.2.2.1,x6.o.o.1,x6.o.o.2.1,()))<|
 A.inr _<|A.cl XY XZ (x2.o.2.2.1,x2.o.2.2.2.1,x2.o.q.1,x2.o.q.2.1,x2.o.q.2.2.1,x2.o.q.2.2.2.1,x2.o.o.1,x2.o.o.2.1,()) fun x3=>
 A.ret _ (x3.1,x3.2.1,x3.2.2.1,x3.2.2.2.1,x3.q.1,x3.q.2.1,x3.q.2.2.1,())) (x.2.1,A.fL .blk 2 .iop x.1,A.len .iop (A.fL .blk 2 .iop x.1),A.lit 0,A.lit 0,A.lit 0,A.lit 0,A.lit 0,A.lit 0,A.lit 0,x0.1,A.fI .blk 0 x1.1,A.fI .blk 1 x1.1,A.fI .blk 3 x1.1,A.fI .blk 4 x1.1,A.fI .blk 5 x1.1,A.fI .blk 6 x1.1,A.bN .iop,())
def Zm (A:Alg) (Zn:Pt A BN) (Zo:Ft A BN) (alU:Pt A MK) (alV:Ft A MK) (rR:Pt A jq) (rT:Ft A jq) (x:Tup A.ah [.x .blk]):Ot A Nl:=
 A.cl rR rT (x.1,()) fun x0=>
 A.cond (A.aA x0.1) (A.ret _ (A.mkX .blk (A.lit 0,A.lit 0,A.bN .iop,A.lit 0,A.lit 0,A.lit 0,A.lit 0,()),()))<|
 A.cl alU alV (x.1,()) fun x1=>
 A.cl Zn Zo (x.1,x1.1,()) fun x2=>
 A.ret _ (A.mkX .blk (x2.1,x2.2.1,x2.q.2.2.1,x2.2.2.1,x2.2.2.2.1,x2.q.1,x2.q.2.1,()),())
def Zp (A:Alg) (Zn:Pt A BN) (Zo:Ft A BN) (rR:Pt A jq) (rT:Ft A jq) (x:Tup A.ah [.x .blk]):Ot A Nn:=
 A.cl rR rT (x.1,()) fun x0=>
 A.cond (A.aA x0.1) (A.ret _ (A.mkX .blk (A.lit 0,A.lit 0,A.bN .iop,A.lit 0,A.lit 0,A.lit 0,A.lit 0,()),()))<|
 A.chk (A.cmp .eql (A.len .iop (A.fL .blk 2 .iop x.1)) (A.len .iop (A.fL .blk 2 .iop x.1)))<|
 A.chk (A.cmp .leq (A.lit 0) (A.len .iop (A.fL .blk 2 .iop x.1)))<|
 A.chk (A.cmp .leq (A.len .iop (A.fL .blk 2 .iop x.1)) (A.lit 1073741824))<|
 A.l1 (.l .bool) (A.rep .bool (A.len .iop (A.fL .blk 2 .iop x.1)) (A.mkX .bool (A.bl false,()))) fun x1=>
 A.chk (A.cmp .eql (A.lit 4) (A.lit 4))<|
 A.chk (A.cmp .leq (A.lit 0) (A.lit 4))<|
 A.chk (A.cmp .leq (A.lit 4) (A.lit 1073741824))<|
 A.l1 (.l .bool) (A.rep .bool (A.lit 4) (A.mkX .bool (A.bl false,()))) fun x2=>
 A.l1 .i (A.arith .sub .i64 (A.len .iop (A.fL .blk 2 .iop x.1)) (A.lit 1)) fun x3=>
 A.iter [.i,.x .blk,.i,.i,.i,.i,.i,.i,.l .bool,.l .bool] (fun x4=>
 A.cond (A.cmp .geq x4.1 (A.lit 0)) (A.bd .bool x4.o.1 x4.1<|
 A.bd .bool x4.o.1 x4.1<|
 A.l1 .b (A.bl true) fun x5=>
 A.bd .iop (A.fL .blk 2 .iop x4.2.1) x4.1<|
 A.l1 (.x .iop) (A.get .iop (A.fL .blk 2 .iop x4.2.1) x4.1) fun x6=>
 A.l1 .b (A.cmp .eql (A.fI .iop 0 x6.1) (A.lit 8)) fun x7=>
 A.bind [.i,.x .blk,.i,.i,.i,.i,.i,.i,.l .bool,.l .bool] (A.cond x7.1 (A.bd .bool x4.o.2.1 (A.fI .iop 3 x6.1)<|
 A.bd .bool x4.o.2.1 (A.fI .iop 3 x6.1)<|
 A.bd .bool (A.set .bool x4.o.1 x4.1 (A.mkX .bool (x5.1,()))) x4.1<|
 A.bd .bool (A.set .bool x4.o.1 x4.1 (A.mkX .bool (x5.1,()))) x4.1<|
 A.l1 .b (A.aA (A.fB .bool 0 (A.get .bool x4.o.2.1 (A.fI .iop 3 x6.1)))) fun x8=>
 A.bd .bool x4.o.2.1 (A.fI .iop 3 x6.1)<|
 A.bd .bool x4.o.2.1 (A.fI .iop 3 x6.1)<|
 A.l1 .b (A.bl true) fun x9=>
 A.ret _ (x4.1,x4.2.1,x4.2.2.1,x4.2.2.2.1,x4.q.1,x4.q.2.1,x4.q.2.2.1,x4.q.2.2.2.1,A.set .bool (A.set .bool x4.o.1 x4.1 (A.mkX .bool (x5.1,()))) x4.1 (A.mkX .bool (x8.1,())),A.set .bool x4.o.2.1 (A.fI .iop 3 x6.1) (A.mkX .bool (x9.1,())),()))<|
 A.l1 .b (A.cmp .eql (A.fI .iop 0 x6.1) (A.lit 2)) fun x8=>
 A.bind [.i,.x .blk,.i,.i,.i,.i,.i,.i,.l .bool,.l .bool] (A.cond x8.1 (A.bd .bool x4.o.2.1 (A.fI .iop 3 x6.1)<|
 A.bd .bool x4.o.2.1 (A.fI .iop 3 x6.1)<|
 A.l1 .b (A.bl false) fun x9=>
 A.ret _ (x4.1,x4.2.1,x4.2.2.1,x4.2.2.2.1,x4.q.1,x4.q.2.1,x4.q.2.2.1,x4.q.2.2.2.1,A.set .bool x4.o.1 x4.1 (A.mkX .bool (x5.1,())),A.set .bool x4.o.2.1 (A.fI .iop 3 x6.1) (A.mkX .bool (x9.1,())),()))<|
 A.l1 .b (A.cmp .eql (A.fI .iop 0 x6.1) (A.lit 4)) fun x9=>
 A.bind [.i,.b,.x .blk,.i,.i,.i,.i,.i,.i,.l .bool,.l .bool] (A.cond x9.1 (A.ret _ (x4.1,x9.1,x4.2.1,x4.2.2.1,x4.2.2.2.1,x4.q.1,x4.q.2.1,x4.q.2.2.1,x4.q.2.2.2.1,A.set .bool x4.o.1 x4.1 (A.mkX .bool (x5.1,())),x4.o.2.1,()))<|
 A.l1 .b (A.cmp .eql (A.fI .iop 0 x6.1) (A.lit 5)) fun x10=>
 A.ret _ (x4.1,x10.1,x4.2.1,x4.2.2.1,x4.2.2.2.1,x4.q.1,x4.q.2.1,x4.q.2.2.1,x4.q.2.2.2.1,A.set .bool x4.o.1 x4.1 (A.mkX .bool (x5.1,())),x4.o.2.1,())) fun x10=>
 A.bind [.i,.x .blk,.i,.i,.i,.i,.i,.i,.l .bool,.l .bool] (A.cond x10.2.1 (A.ret _ (x10.1,x10.2.2.1,x10.2.2.2.1,x10.q.1,x10.q.2.1,x10.q.2.2.1,x10.q.2.2.2.1,x10.o.1,x10.o.2.1,A.rep .bool (A.len .bool x10.o.2.2.1) (A.mkX .bool (A.bl false,())),()))<|
 A.ret _ (x10.1,x10.2.2.1,x10.2.2.2.1,x10.q.1,x10.q.2.1,x10.q.2.2.1,x10.q.2.2.2.1,x10.o.1,x10.o.2.1,x10.o.2.2.1,())) fun x11=>
 A.ret _ (x11.1,x11.2.1,x11.2.2.1,x11.2.2.2.1,x11.q.1,x11.q.2.1,x11.q.2.2.1,x11.q.2.2.2.1,x11.o.1,x11.o.2.1,())) fun x9=>
 A.ret _ (x9.1,x9.2.1,x9.2.2.1,x9.2.2.2.1,x9.q.1,x9.q.2.1,x9.q.2.2.1,x9.q.2.2.2.1,x9.o.1,x9.o.2.1,())) fun x8=>
 A.l1 .i (A.arith .sub .i64 x8.1 (A.lit 1)) fun x9=>
 A.inl _ (x9.1,x8.2.1,x8.2.2.1,x8.2.2.2.1,x8.q.1,x8.q.2.1,x8.q.2.2.1,x8.q.2.2.2.1,x8.o.1,x8.o.2.1,()))<|
 A.inr _<|A.cl Zn Zo (x4.2.1,x4.o.1,()) fun x5=>
 A.ret _ (A.mkX .blk (x5.1,x5.2.1,x5.q.2.2.1,x5.2.2.1,x5.2.2.2.1,x5.q.1,x5.q.2.1,()),())) (x3.1,x.1,A.lit 0,A.lit 0,A.lit 0,A.lit 0,A.lit 0,A.lit 0,x1.1,x2.1,())
def Zq (A:Alg) (x:Tup A.ah [.i,.i,.i,.i,.i,.i,.i,.l .iop]):Ot A Np:=
 A.l1 .b (A.bl false) fun x0=>
 A.bd .iop x.q.2.2.2.1 x.1<|
 A.bd .iop x.q.2.2.2.1 x.1<|
 A.l1 .b (A.cmp .eql (A.fI .iop 0 (A.get .iop x.q.2.2.2.1 x.1)) (A.lit 1)) fun x1=>
 A.ret _ (x1.1,x.2.1,x.2.2.1,x.2.2.2.1,x.q.1,x.q.2.1,x.q.2.2.1,x.q.2.2.2.1,())
def Zr (A:Alg) (XV:Pt A Bo) (XW:Ft A Bo) (rR:Pt A jq) (rT:Ft A jq) (FV:Pt A Np) (FW:Ft A Np) (Y4:Pt A BG) (Y5:Ft A BG) (Zb:Pt A BL) (Zc:Ft A BL) (x:Tup A.ah [.x .blk]):Ot A Nq:=
 A.cl rR rT (x.1,()) fun x0=>
 A.cond (A.aA x0.1) (A.ret _ (A.mkX .blk (A.lit 0,A.lit 0,A.bN .iop,A.lit 0,A.lit 0,A.lit 0,A.lit 0,()),()))<|
 A.cl XV XW (x.1,()) fun x1=>
 A.iter [.i,.i,.x .blk,.i,.i,.i,.i,.i,.i,.i,.i,.i,.i,.i,.i,.l .iop] (fun x2=>
 A.cond (A.cmp .lss x2.2.1 x2.1) (A.bd .iop x2.o.q.2.2.2.1 x2.2.1<|
 A.bd .iop x2.o.q.2.2.2.1 x2.2.1<|
 A.l1 .i x2.2.1 fun x3=>
 A.l1 (.x .iop) (A.get .iop x2.o.q.2.2.2.1 x2.2.1) fun x4=>
 A.bind [.i,.i,.i,.b,.x .blk,.i,.i,.i,.i,.i,.i,.i,.i,.i,.i,.i,.i,.x .iop,.l .iop] (A.cond (A.cmp .eql (A.fI .iop 0 x4.1) (A.lit 3)) (A.cl FV FW (A.fI .iop 1 x4.1,x2.o.2.1,x2.o.2.2.1,x2.o.2.2.2.1,x2.o.q.1,x2.o.q.2.1,x2.o.q.2.2.1,x2.o.q.2.2.2.1,()) fun x5=>
 A.cond (A.ak (A.cmp .eql (A.fI .iop 0 x4.1) (A.lit 3)) x5.1 (A.bl false)) (A.cl FV FW (A.fI .iop 2 x4.1,x5.2.1,x5.2.2.1,x5.2.2.2.1,x5.q.1,x5.q.2.1,x5.q.2.2.1,x5.q.2.2.2.1,()) fun x6=>
 A.ret _ (x3.1,x2.1,x2.2.1,A.ak (A.ak (A.cmp .eql (A.fI .iop 0 x4.1) (A.lit 3)) x5.1 (A.bl false)) x6.1 (A.bl false),x2.2.2.1,x2.2.2.2.1,x2.q.1,x2.q.2.1,x2.q.2.2.1,x2.q.2.2.2.1,x2.o.1,x6.2.1,x6.2.2.1,x6.2.2.2.1,x6.q.1,x6.q.2.1,x6.q.2.2.1,x4.1,x6.q.2.2.2.1,()))<|
 A.chk (A.aA (A.ak (A.cmp .eql (A.fI .iop 0 x4.1) (A.lit 3)) x5.1 (A.bl false)))<|
 A.ret _ (x3.1,x2.1,x2.2.1,A.bl false,x2.2.2.1,x2.2.2.2.1,x2.q.1,x2.q.2.1,x2.q.2.2.1,x2.q.2.2.2.1,x2.o.1,x5.2.1,x5.2.2.1,x5.2.2.2.1,x5.q.1,x5.q.2.1,x5.q.2.2.1,x4.1,x5.q.2.2.2.1,()))<|
 A.chk (A.aA (A.cmp .eql (A.fI .iop 0 x4.1) (A.lit 3)))<|
 A.cond (A.bl false) (A.cl FV FW (A.fI .iop 2 x4.1,x2.o.2.1,x2.o.2.2.1,x2.o.2.2.2.1,x2.o.q.1,x2.o.q.2.1,x2.o.q.2.2.1,x2.o.q.2.2.2.1,()) fun x5=>
 A.ret _ (x3.1,x2.1,x2.2.1,A.ak (A.bl false) x5.1 (A.bl false),x2.2.2.1,x2.2.2.2.1,x2.q.1,x2.q.2.1,x2.q.2.2.1,x2.q.2.2.2.1,x2.o.1,x5.2.1,x5.2.2.1,x5.2.2.2.1,x5.q.1,x5.q.2.1,x5.q.2.2.1,x4.1,x5.q.2.2.2.1,()))<|
 A.chk (A.aA (A.bl false))<|
 A.ret _ (x3.1,x2.1,x2.2.1,A.bl false,x2.2.2.1,x2.2.2.2.1,x2.q.1,x2.q.2.1,x2.q.2.2.1,x2.q.2.2.2.1,x2.o.1,x2.o.2.1,x2.o.2.2.1,x2.o.2.2.2.1,x2.o.q.1,x2.o.q.2.1,x2.o.q.2.2.1,x4.1,x2.o.q.2.2.2.1,())) fun x5=>
 A.bind [.i,.i,.x .blk,.i,.i,.i,.i,.i,.i,.i,.i,.i,.i,.i,.i,.l .iop] (A.cond x5.2.2.2.1 (A.bd .iop x5.o.o.2.2.1 (A.fI .iop 1 x5.o.o.2.1)<|
 A.bd .iop x5.o.o.2.2.1 (A.fI .iop 1 x5.o.o.2.1)<|
 A.bd .iop x5.o.o.2.2.1 (A.fI .iop 2 x5.o.o.2.1)<|
 A.bd .iop x5.o.o.2.2.1 (A.fI .iop 2 x5.o.o.2.1)<|
 A.cl Y4 Y5 (A.fI .iop 3 x5.o.o.2.1,A.fI .iop 3 (A.get .iop x5.o.o.2.2.1 (A.fI .iop 1 x5.o.o.2.1)),A.fI .iop 3 (A.get .iop x5.o.o.2.2.1 (A.fI .iop 2 x5.o.o.2.1)),()) fun x6=>
 A.bd .iop x5.o.o.2.2.1 x5.1<|
 A.bd .iop x5.o.o.2.2.1 x5.1<|
 A.ret _ (x5.2.1,x5.2.2.1,x5.q.1,x5.q.2.1,x5.q.2.2.1,x5.q.2.2.2.1,x5.o.1,x5.o.2.1,x5.o.2.2.1,x5.o.2.2.2.1,x5.o.q.1,x5.o.q.2.1,x5.o.q.2.2.1,x5.o.q.2.2.2.1,x5.o.o.1,A.set .iop x5.o.o.2.2.1 x5.1 (A.mkX .iop (A.lit 1,A.lit 0,A.lit 0,x6.1,A.lit 0,())),()))<|
 A.ret _ (x5.2.1,x5.2.2.1,x5.q.1,x5.q.2.1,x5.q.2.2.1,x5.q.2.2.2.1,x5.o.1,x5.o.2.1,x5.o.2.2.1,x5.o.2.2.2.1,x5.o.q.1,x5.o.q.2.1,x5.o.q.2.2.1,x5.o.q.2.2.2.1,x5.o.o.1,x5.o.o.2.2.1,())) fun x6=>
 A.inl _ (x6.1,A.arith .add .i64 x6.2.1 (A.lit 1),x6.2.2.1,x6.2.2.2.1,x6.q.1,x6.q.2.1,x6.q.2.2.1,x6.q.2.2.2.1,x6.o.1,x6.o.2.1,x6.o.2.2.1,x6.o.2.2.2.1,x6.o.q.1,x6.o.q.2.1,x6.o.q.2.2.1,x6.o.q.2.2.2.1,()))<|
 A.inr _<|A.bind [.b,.x .blk,.i,.i,.i,.i,.i,.i,.i,.i,.i,.i,.i,.i,.l .iop] (A.cond (A.cmp .eql (A.fI .blk 3 x2.2.2.1) (A.lit 2)) (A.cl FV FW (A.fI .blk 4 x2.2.2.1,x2.o.2.1,x2.o.2.2.1,x2.o.2.2.2.1,x2.o.q.1,x2.o.q.2.1,x2.o.q.2.2.1,x2.o.q.2.2.2.1,()) fun x3=>
 A.l1 .b (A.ak (A.cmp .eql (A.fI .blk 3 x2.2.2.1) (A.lit 2)) x3.1 (A.bl false)) fun x4=>
 A.ret _ (x4.1,x2.2.2.1,x2.2.2.2.1,x2.q.1,x2.q.2.1,x2.q.2.2.1,x2.q.2.2.2.1,x2.o.1,x3.2.1,x3.2.2.1,x3.2.2.2.1,x3.q.1,x3.q.2.1,x3.q.2.2.1,x3.q.2.2.2.1,()))<|
 A.chk (A.aA (A.cmp .eql (A.fI .blk 3 x2.2.2.1) (A.lit 2)))<|
 A.l1 .b (A.bl false) fun x3=>
 A.ret _ (x3.1,x2.2.2.1,x2.2.2.2.1,x2.q.1,x2.q.2.1,x2.q.2.2.1,x2.q.2.2.2.1,x2.o.1,x2.o.2.1,x2.o.2.2.1,x2.o.2.2.2.1,x2.o.q.1,x2.o.q.2.1,x2.o.q.2.2.1,x2.o.q.2.2.2.1,())) fun x3=>
 A.bind [.i,.i,.i,.i,.i,.i,.i,.i,.i,.i,.i,.i,.l .iop] (A.cond x3.1 (A.bd .iop x3.o.q.2.2.1 (A.fI .blk 4 x3.2.1)<|
 A.bd .iop x3.o.q.2.2.1 (A.fI .blk 4 x3.2.1)<|
 A.l1 .i (A.lit 1) fun x4=>
 A.l1 .i (A.lit 0) fun x5=>
 A.l1 .i (A.fI .iop 3 (A.get .iop x3.o.q.2.2.1 (A.fI .blk 4 x3.2.1))) fun x6=>
 A.ret _ (x3.2.2.1,x3.2.2.2.1,x3.q.1,x3.q.2.1,x3.q.2.2.1,x3.q.2.2.2.1,x3.o.1,x3.o.2.1,x4.1,x5.1,x3.o.q.1,x6.1,x3.o.q.2.2.1,()))<|
 A.bind [.b,.x .blk,.i,.i,.i,.i,.i,.i,.i,.i,.i,.i,.i,.i,.l .iop] (A.cond (A.cmp .geq (A.fI .blk 3 x3.2.1) (A.lit 3)) (A.cl FV FW (A.fI .blk 4 x3.2.1,x3.o.1,x3.o.2.1,x3.o.2.2.1,x3.o.2.2.2.1,x3.o.q.1,x3.o.q.2.1,x3.o.q.2.2.1,()) fun x4=>
 A.cond (A.ak (A.cmp .geq (A.fI .blk 3 x3.2.1) (A.lit 3)) x4.1 (A.bl false)) (A.cl FV FW (A.fI .blk 5 x3.2.1,x4.2.1,x4.2.2.1,x4.2.2.2.1,x4.q.1,x4.q.2.1,x4.q.2.2.1,x4.q.2.2.2.1,()) fun x5=>
 A.l1 .b (A.ak (A.ak (A.cmp .geq (A.fI .blk 3 x3.2.1) (A.lit 3)) x4.1 (A.bl false)) x5.1 (A.bl false)) fun x6=>
 A.ret _ (x6.1,x3.2.1,x3.2.2.1,x3.2.2.2.1,x3.q.1,x3.q.2.1,x3.q.2.2.1,x3.q.2.2.2.1,x5.2.1,x5.2.2.1,x5.2.2.2.1,x5.q.1,x5.q.2.1,x5.q.2.2.1,x5.q.2.2.2.1,()))<|
 A.chk (A.aA (A.ak (A.cmp .geq (A.fI .blk 3 x3.2.1) (A.lit 3)) x4.1 (A.bl false)))<|
 A.l1 .b (A.bl false) fun x5=>
 A.ret _ (x5.1,x3.2.1,x3.2.2.1,x3.2.2.2.1,x3.q.1,x3.q.2.1,x3.q.2.2.1,x3.q.2.2.2.1,x4.2.1,x4.2.2.1,x4.2.2.2.1,x4.q.1,x4.q.2.1,x4.q.2.2.1,x4.q.2.2.2.1,()))<|
 A.chk (A.aA (A.cmp .geq (A.fI .blk 3 x3.2.1) (A.lit 3)))<|
 A.cond (A.bl false) (A.cl FV FW (A.fI .blk 5 x3.2.1,x3.o.1,x3.o.2.1,x3.o.2.2.1,x3.o.2.2.2.1,x3.o.q.1,x3.o.q.2.1,x3.o.q.2.2.1,()) fun x4=>
 A.l1 .b (A.ak (A.bl false) x4.1 (A.bl false)) fun x5=>
 A.ret _ (x5.1,x3.2.1,x3.2.2.1,x3.2.2.2.1,x3.q.1,x3.q.2.1,x3.q.2.2.1,x3.q.2.2.2.1,x4.2.1,x4.2.2.1,x4.2.2.2.1,x4.q.1,x4.q.2.1,x4.q.2.2.1,x4.q.2.2.2.1,()))<|
 A.chk (A.aA (A.bl false))<|
 A.l1 .b (A.bl false) fun x4=>
 A.ret _ (x4.1,x3.2.1,x3.2.2.1,x3.2.2.2.1,x3.q.1,x3.q.2.1,x3.q.2.2.1,x3.q.2.2.2.1,x3.o.1,x3.o.2.1,x3.o.2.2.1,x3.o.2.2.2.1,x3.o.q.1,x3.o.q.2.1,x3.o.q.2.2.1,())) fun x4=>
 A.bind [.i,.i,.i,.i,.i,.i,.i,.i,.i,.i,.i,.i,.l .iop] (A.cond x4.1 (A.l1 .i (A.lit 1) fun x5=>
 A.l1 .i (A.lit 0) fun x6=>
 A.l1 .i (A.lit 0) fun x7=>
 A.bd .iop x4.o.q.2.2.1 (A.fI .blk 4 x4.2.1)<|
 A.bd .iop x4.o.q.2.2.1 (A.fI .blk 4 x4.2.1)<|
 A.bd .iop x4.o.q.2.2.1 (A.fI .blk 5 x4.2.1)<|
 A.bd .iop x4.o.q.2.2.1 (A.fI .blk 5 x4.2.1)<|
 A.cl Zb Zc (A.arith .add .i64 (A.arith .sub .i64 (A.fI .blk 3 x4.2.1) (A.lit 3)) (A.lit 1),A.fI .iop 3 (A.get .iop x4.o.q.2.2.1 (A.fI .blk 4 x4.2.1)),A.fI .iop 3 (A.get .iop x4.o.q.2.2.1 (A.fI .blk 5 x4.2.1)),()) fun x8=>
 A.bind [.i,.i,.i,.i,.i,.i,.i,.i,.i,.i,.i,.i,.l .iop] (A.cond (A.aA x8.1) (A.l1 .i (A.arith .add .i64 (A.fI .blk 0 x4.2.1) (A.fI .blk 1 x4.2.1)) fun x9=>
 A.ret _ (x4.2.2.1,x4.2.2.2.1,x4.q.1,x4.q.2.1,x4.q.2.2.1,x4.q.2.2.2.1,x4.o.1,x4.o.2.1,x5.1,x6.1,x7.1,x9.1,x4.o.q.2.2.1,()))<|
 A.ret _ (x4.2.2.1,x4.2.2.2.1,x4.q.1,x4.q.2.1,x4.q.2.2.1,x4.q.2.2.2.1,x4.o.1,x4.o.2.1,x5.1,x6.1,x7.1,x4.o.q.2.1,x4.o.q.2.2.1,())) fun x9=>
 A.ret _ (x9.1,x9.2.1,x9.2.2.1,x9.2.2.2.1,x9.q.1,x9.q.2.1,x9.q.2.2.1,x9.q.2.2.2.1,x9.o.1,x9.o.2.1,x9.o.2.2.1,x9.o.2.2.2.1,x9.o.q.1,()))<|
 A.ret _ (x4.2.2.1,x4.2.2.2.1,x4.q.1,x4.q.2.1,x4.q.2.2.1,x4.q.2.2.2.1,x4.o.1,x4.o.2.1,x4.o.2.2.1,x4.o.2.2.2.1,x4.o.q.1,x4.o.q.2.1,x4.o.q.2.2.1,())) fun x5=>
 A.ret _ (x5.1,x5.2.1,x5.2.2.1,x5.2.2.2.1,x5.q.1,x5.q.2.1,x5.q.2.2.1,x5.q.2.2.2.1,x5.o.1,x5.o.2.1,x5.o.2.2.1,x5.o.2.2.2.1,x5.o.q.1,())) fun x4=>
 A.ret _ (A.mkX .blk (x4.q.2.2.1,x4.q.2.2.2.1,x4.o.q.1,x4.o.1,x4.o.2.1,x4.o.2.2.1,x4.o.2.2.2.1,()),())) (A.len .iop x1.q.2.2.1,A.lit 0,x.1,A.lit 0,A.lit 0,A.lit 0,A.lit 0,A.lit 0,A.lit 0,x1.1,x1.2.1,x1.2.2.1,x1.2.2.2.1,x1.q.1,x1.q.2.1,x1.q.2.2.1,())
def Zt (A:Alg) (alW:Pt A Nq) (alX:Ft A Nq) (alY:Pt A MI) (alZ:Ft A MI) (acQ:Pt A Nl) (acR:Ft A Nl) (al0:Pt A Nn) (al1:Ft A Nn) (x:Tup A.ah [.x .blk]):Ot A Nr:=
 A.cl alY alZ (x.1,()) fun x0=>
 A.cl alW alX (x0.1,()) fun x1=>
 A.cl acQ acR (x1.1,()) fun x2=>
 A.cl al0 al1 (x2.1,()) fun x3=>
 A.cl acQ acR (x3.1,()) fun x4=>
 A.l1 (.x .blk) x4.1 fun x5=>
 A.ret _ (x5.1,())
def Zu (A:Alg) (al2:Pt A Nk) (al3:Ft A Nk) (acS:Pt A Nr) (acT:Ft A Nr) (al4:Pt A MJ) (al5:Ft A MJ) (agf:Pt A Fx) (agh:Ft A Fx) (mV:Pt A gI) (mW:Ft A gI) (x:Tup A.ah [.l .u8]):Ot A acJ:=
 A.l1 .b (A.bl false) fun x0=>
 A.cond (A.cmp .gtr (A.len .u8 x.1) (A.lit 1048576)) (A.rb (A.bl true))<|
 A.cl agf agh (x.1,()) fun x1=>
 A.l1 (.x .blk) x1.1 fun x2=>
 A.cl acS acT (x2.1,()) fun x3=>
 A.l1 (.x .blk) x3.1 fun x4=>
 A.cl acS acT (x4.1,()) fun x5=>
 A.l1 (.x .blk) x5.1 fun x6=>
 A.cl mV mW (x2.1,()) fun x7=>
 A.cond (A.aA x7.1) (A.cg (A.cmp .eql (A.fI .blk 1 x6.1) (A.lit 0)) al4 al5 () fun x8=>
 A.rb (A.ak (A.cmp .eql (A.fI .blk 1 x6.1) (A.lit 0)) x8.1 (A.bl false)))<|
 A.cl al2 al3 (x2.1,x6.1,()) fun x8=>
 A.rb (A.ak x8.1 (A.cmp .leq (A.len .iop (A.fL .blk 2 .iop x6.1)) (A.len .iop (A.fL .blk 2 .iop x4.1))) (A.bl false))
end Go.TX.F
namespace Go.TX.Seat
open Go Go.AE Go.TX Go.Proofs
set_option maxRecDepth 100000
def ty:TypeId→Option TY
 | 2=>some ⟨(.int .i64),1,8,[.d true (.int .i64 0)]⟩
 | 3=>some ⟨(.int .i64),1,8,[.d true (.int .i64 0)]⟩
 | 4=>some ⟨.bool,1,1,[.d true (.bool false)]⟩
 | 5=>some ⟨(.int .u8),1,1,[.d true (.int .u8 0)]⟩
 | 6=>some ⟨(.int .u8),1,1,[.d true (.int .u8 0)]⟩
 | 7=>some ⟨(.struct [(0,2),(1,3),(2,4),(3,6)]),4,24,[.d true (.int .i64 0),.d true (.int .i64 0),.d true (.bool false),.d true (.int .u8 0)]⟩
 | 8=>some ⟨(.struct [(0,2),(1,3),(2,4),(3,6)]),4,24,[.d true (.int .i64 0),.d true (.int .i64 0),.d true (.bool false),.d true (.int .u8 0)]⟩
 | 9=>some ⟨.scalar,1,16,[.d true (.str ⟨#[]⟩)]⟩
 | 10=>some ⟨.scalar,1,16,[.d true (.str ⟨#[]⟩)]⟩
 | 11=>some ⟨.scalar,1,16,[.d true (.str ⟨#[]⟩)]⟩
 | 12=>some ⟨(.int .u64),1,8,[.d true (.int .u64 0)]⟩
 | 13=>some ⟨(.struct [(0,9),(1,12)]),2,24,[.d true (.str ⟨#[]⟩),.d true (.int .u64 0)]⟩
 | 14=>some ⟨(.struct [(0,9),(1,12)]),2,24,[.d true (.str ⟨#[]⟩),.d true (.int .u64 0)]⟩
 | 15=>some ⟨.scalar,1,8,[.np]⟩
 | 16=>some ⟨.scalar,1,8,[.np]⟩
 | 17=>some ⟨.scalar,1,8,[.np]⟩
 | 18=>some ⟨(.struct [(0,17)]),1,8,[.np]⟩
 | 19=>some ⟨(.struct [(0,17)]),1,8,[.np]⟩
 | 21=>some ⟨(.int .i32),1,4,[.d true (.int .i32 0)]⟩
 | 22=>some ⟨(.slice 5),1,24,[.nil]⟩
 | 23=>some ⟨(.slice 34),1,24,[.nil]⟩
 | 24=>some ⟨(.struct [(0,3),(1,3),(2,23),(3,3),(4,3),(5,3),(6,3)]),7,72,[.d true (.int .i64 0),.d true (.int .i64 0),.nil,.d true (.int .i64 0),.d true (.int .i64 0),.d true (.int .i64 0),.d true (.int .i64 0)]⟩
 | 25=>some ⟨(.struct [(0,3),(1,3),(2,23),(3,3),(4,3),(5,3),(6,3)]),7,72,[.d true (.int .i64 0),.d true (.int .i64 0),.nil,.d true (.int .i64 0),.d true (.int .i64 0),.d true (.int .i64 0),.d true (.int .i64 0)]⟩
 | 31=>some ⟨(.slice 4),1,24,[.nil]⟩
 | 33=>some ⟨(.struct [(0,3),(1,3),(2,3),(3,3),(4,3)]),5,40,[.d true (.int .i64 0),.d true (.int .i64 0),.d true (.int .i64 0),.d true (.int .i64 0),.d true (.int .i64 0)]⟩
 | 34=>some ⟨(.struct [(0,3),(1,3),(2,3),(3,3),(4,3)]),5,40,[.d true (.int .i64 0),.d true (.int .i64 0),.d true (.int .i64 0),.d true (.int .i64 0),.d true (.int .i64 0)]⟩
 | 37=>some ⟨(.slice 42),1,24,[.nil]⟩
 | 41=>some ⟨(.struct [(0,25),(7,25)]),14,144,[.d true (.int .i64 0),.d true (.int .i64 0),.nil,.d true (.int .i64 0),.d true (.int .i64 0),.d true (.int .i64 0),.d true (.int .i64 0),.d true (.int .i64 0),.d true (.int .i64 0),.nil,.d true (.int .i64 0),.d true (.int .i64 0),.d true (.int .i64 0),.d true (.int .i64 0)]⟩
 | 42=>some ⟨(.struct [(0,25),(7,25)]),14,144,[.d true (.int .i64 0),.d true (.int .i64 0),.nil,.d true (.int .i64 0),.d true (.int .i64 0),.d true (.int .i64 0),.d true (.int .i64 0),.d true (.int .i64 0),.d true (.int .i64 0),.nil,.d true (.int .i64 0),.d true (.int .i64 0),.d true (.int .i64 0),.d true (.int .i64 0)]⟩
 | 46=>some ⟨(.slice 52),1,24,[.nil]⟩
 | 50=>some ⟨(.slice 3),1,24,[.nil]⟩
 | 51=>some ⟨(.struct [(0,50),(1,25)]),8,96,[.nil,.d true (.int .i64 0),.d true (.int .i64 0),.nil,.d true (.int .i64 0),.d true (.int .i64 0),.d true (.int .i64 0),.d true (.int .i64 0)]⟩
 | 52=>some ⟨(.struct [(0,50),(1,25)]),8,96,[.nil,.d true (.int .i64 0),.d true (.int .i64 0),.nil,.d true (.int .i64 0),.d true (.int .i64 0),.d true (.int .i64 0),.d true (.int .i64 0)]⟩
 | 61=>some ⟨(.struct [(0,50),(1,3),(2,50),(3,3),(4,4),(5,4),(6,3),(7,50),(8,50),(9,3)]),10,136,[.nil,.d true (.int .i64 0),.nil,.d true (.int .i64 0),.d true (.bool false),.d true (.bool false),.d true (.int .i64 0),.nil,.nil,.d true (.int .i64 0)]⟩
 | 62=>some ⟨(.struct [(0,50),(1,3),(2,50),(3,3),(4,4),(5,4),(6,3),(7,50),(8,50),(9,3)]),10,136,[.nil,.d true (.int .i64 0),.nil,.d true (.int .i64 0),.d true (.bool false),.d true (.bool false),.d true (.int .i64 0),.nil,.nil,.d true (.int .i64 0)]⟩
 | 63=>some ⟨(.struct [(0,62),(10,46),(11,37)]),12,184,[.nil,.d true (.int .i64 0),.nil,.d true (.int .i64 0),.d true (.bool false),.d true (.bool false),.d true (.int .i64 0),.nil,.nil,.d true (.int .i64 0),.nil,.nil]⟩
 | 64=>some ⟨(.struct [(0,62),(10,46),(11,37)]),12,184,[.nil,.d true (.int .i64 0),.nil,.d true (.int .i64 0),.d true (.bool false),.d true (.bool false),.d true (.int .i64 0),.nil,.nil,.d true (.int .i64 0),.nil,.nil]⟩
 | 72=>some ⟨.scalar,1,8,[.np]⟩
 | 81=>some ⟨(.slice 169),1,24,[.nil]⟩
 | 82=>some ⟨(.struct [(0,81)]),1,24,[.nil]⟩
 | 83=>some ⟨(.struct [(0,81)]),1,24,[.nil]⟩
 | 84=>some ⟨(.slice 90),1,24,[.nil]⟩
 | 87=>some ⟨(.slice 140),1,24,[.nil]⟩
 | 88=>some ⟨(.slice 173),1,24,[.nil]⟩
 | 89=>some ⟨(.struct [(0,88)]),1,24,[.nil]⟩
 | 90=>some ⟨(.struct [(0,88)]),1,24,[.nil]⟩
 | 91=>some ⟨(.struct [(0,87),(1,84),(2,3),(3,90),(4,90),(5,3)]),6,112,[.nil,.nil,.d true (.int .i64 0),.nil,.nil,.d true (.int .i64 0)]⟩
 | 92=>some ⟨(.struct [(0,87),(1,84),(2,3),(3,90),(4,90),(5,3)]),6,112,[.nil,.nil,.d true (.int .i64 0),.nil,.nil,.d true (.int .i64 0)]⟩
 | 106=>some ⟨(.slice 160),1,24,[.nil]⟩
 | 125=>some ⟨(.struct [(0,22),(1,3)]),2,32,[.nil,.d true (.int .i64 0)]⟩
 | 126=>some ⟨(.struct [(0,22),(1,3)]),2,32,[.nil,.d true (.int .i64 0)]⟩
 | 127=>some ⟨.scalar,1,8,[.np]⟩
 | 133=>some ⟨.scalar,1,8,[.np]⟩
 | 134=>some ⟨(.struct [(0,83),(1,4)]),2,32,[.nil,.d true (.bool false)]⟩
 | 135=>some ⟨(.struct [(0,83),(1,4)]),2,32,[.nil,.d true (.bool false)]⟩
 | 139=>some ⟨(.struct [(0,3),(1,3),(2,90),(3,90),(4,84)]),5,88,[.d true (.int .i64 0),.d true (.int .i64 0),.nil,.nil,.nil]⟩
 | 140=>some ⟨(.struct [(0,3),(1,3),(2,90),(3,90),(4,84)]),5,88,[.d true (.int .i64 0),.d true (.int .i64 0),.nil,.nil,.nil]⟩
 | 159=>some ⟨(.struct [(0,3),(1,3),(2,3),(3,3)]),4,32,[.d true (.int .i64 0),.d true (.int .i64 0),.d true (.int .i64 0),.d true (.int .i64 0)]⟩
 | 160=>some ⟨(.struct [(0,3),(1,3),(2,3),(3,3)]),4,32,[.d true (.int .i64 0),.d true (.int .i64 0),.d true (.int .i64 0),.d true (.int .i64 0)]⟩
 | 168=>some ⟨(.struct [(0,3),(1,3),(2,90),(3,90)]),4,64,[.d true (.int .i64 0),.d true (.int .i64 0),.nil,.nil]⟩
 | 169=>some ⟨(.struct [(0,3),(1,3),(2,90),(3,90)]),4,64,[.d true (.int .i64 0),.d true (.int .i64 0),.nil,.nil]⟩
 | 172=>some ⟨(.struct [(0,3),(1,50)]),2,32,[.d true (.int .i64 0),.nil]⟩
 | 173=>some ⟨(.struct [(0,3),(1,50)]),2,32,[.d true (.int .i64 0),.nil]⟩
 | 190=>some ⟨(.struct [(0,4),(1,22)]),2,32,[.d true (.bool false),.nil]⟩
 | 191=>some ⟨(.struct [(0,4),(1,22)]),2,32,[.d true (.bool false),.nil]⟩
 | 260=>some ⟨(.slice 88),1,24,[.nil]⟩
 | 262=>some ⟨(.slice 50),1,24,[.nil]⟩
 | 266=>some ⟨(.int .u64),1,8,[.d true (.int .u64 0)]⟩
 | 277=>some ⟨(.int .i64),1,8,[.d true (.int .i64 0)]⟩
 | 284=>some ⟨(.int .u32),1,4,[.d true (.int .u32 0)]⟩
 | 286=>some ⟨(.int .u64),1,8,[.d true (.int .u64 0)]⟩
 | 291=>some ⟨(.int .u64),1,8,[.d true (.int .u64 0)]⟩
 | 295=>some ⟨.scalar,1,8,[.np]⟩
 | 298=>some ⟨.scalar,1,8,[.np]⟩
 | 302=>some ⟨(.struct [(0,17),(1,17),(2,17),(3,9)]),4,40,[.np,.np,.np,.d true (.str ⟨#[]⟩)]⟩
 | 303=>some ⟨(.struct [(0,17),(1,17),(2,17),(3,9)]),4,40,[.np,.np,.np,.d true (.str ⟨#[]⟩)]⟩
 | 308=>some ⟨(.int .u8),1,1,[.d true (.int .u8 0)]⟩
 | 309=>some ⟨(.int .u8),1,1,[.d true (.int .u8 0)]⟩
 | 311=>some ⟨.scalar,1,8,[.np]⟩
 | 312=>some ⟨(.int .i32),1,4,[.d true (.int .i32 0)]⟩
 | 313=>some ⟨(.int .i32),1,4,[.d true (.int .i32 0)]⟩
 | _=>none
theorem ok2:bG Tryz.prog 2 ⟨(.int .i64),1,8,[.d true (.int .i64 0)]⟩:=⟨⟨Tryz.t2,by kernel_rfl,rfl,rfl,_,rfl,fun c w=>aB (by rfl)⟩,Tryz.underlying2,rfl⟩
theorem ok3:bG Tryz.prog 3 ⟨(.int .i64),1,8,[.d true (.int .i64 0)]⟩:=⟨⟨Tryz.t3,by kernel_rfl,rfl,rfl,_,rfl,fun c w=>aB (by rfl)⟩,Tryz.underlying3,rfl⟩
theorem ok4:bG Tryz.prog 4 ⟨.bool,1,1,[.d true (.bool false)]⟩:=⟨⟨Tryz.t4,by kernel_rfl,rfl,rfl,_,rfl,fun c w=>aB (by rfl)⟩,Tryz.underlying4,rfl⟩
theorem ok5:bG Tryz.prog 5 ⟨(.int .u8),1,1,[.d true (.int .u8 0)]⟩:=⟨⟨Tryz.t5,by kernel_rfl,rfl,rfl,_,rfl,fun c w=>aB (by rfl)⟩,Tryz.underlying5,rfl⟩
theorem ok6:bG Tryz.prog 6 ⟨(.int .u8),1,1,[.d true (.int .u8 0)]⟩:=⟨⟨Tryz.t6,by kernel_rfl,rfl,rfl,_,rfl,fun c w=>aB (by rfl)⟩,Tryz.underlying6,rfl⟩
theorem ok7:bG Tryz.prog 7 ⟨(.struct [(0,2),(1,3),(2,4),(3,6)]),4,24,[.d true (.int .i64 0),.d true (.int .i64 0),.d true (.bool false),.d true (.int .u8 0)]⟩:=⟨⟨Tryz.t7,by kernel_rfl,rfl,rfl,_,rfl,fun c w=>aB (by rfl)⟩,⟨_,Tryz.underlying7,by rfl⟩,rfl⟩
theorem ok8:bG Tryz.prog 8 ⟨(.struct [(0,2),(1,3),(2,4),(3,6)]),4,24,[.d true (.int .i64 0),.d true (.int .i64 0),.d true (.bool false),.d true (.int .u8 0)]⟩:=⟨⟨Tryz.t8,by kernel_rfl,rfl,rfl,_,rfl,fun c w=>aB (by rfl)⟩,⟨_,Tryz.underlying8,by rfl⟩,rfl⟩
theorem ok9:bG Tryz.prog 9 ⟨.scalar,1,16,[.d true (.str ⟨#[]⟩)]⟩:=⟨⟨Tryz.t9,by kernel_rfl,rfl,rfl,_,rfl,fun c w=>aB (by rfl)⟩,⟨_,Tryz.underlying9,(fun _ h=>by cases h),(fun _ _ h=>by cases h)⟩,rfl⟩
theorem aqV:bG Tryz.prog 10 ⟨.scalar,1,16,[.d true (.str ⟨#[]⟩)]⟩:=⟨⟨Tryz.t10,by kernel_rfl,rfl,rfl,_,rfl,fun c w=>aB (by rfl)⟩,⟨_,Tryz.underlying10,(fun _ h=>by cases h),(fun _ _ h=>by cases h)⟩,rfl⟩
theorem aqW:bG Tryz.prog 11 ⟨.scalar,1,16,[.d true (.str ⟨#[]⟩)]⟩:=⟨⟨Tryz.t11,by kernel_rfl,rfl,rfl,_,rfl,fun c w=>aB (by rfl)⟩,⟨_,Tryz.underlying11,(fun _ h=>by cases h),(fun _ _ h=>by cases h)⟩,rfl⟩
theorem aqX:bG Tryz.prog 12 ⟨(.int .u64),1,8,[.d true (.int .u64 0)]⟩:=⟨⟨Tryz.t12,by kernel_rfl,rfl,rfl,_,rfl,fun c w=>aB (by rfl)⟩,Tryz.underlying12,rfl⟩
theorem aqY:bG Tryz.prog 13 ⟨(.struct [(0,9),(1,12)]),2,24,[.d true (.str ⟨#[]⟩),.d true (.int .u64 0)]⟩:=⟨⟨Tryz.t13,by kernel_rfl,rfl,rfl,_,rfl,fun c w=>aB (by rfl)⟩,⟨_,Tryz.underlying13,by rfl⟩,rfl⟩
theorem aqZ:bG Tryz.prog 14 ⟨(.struct [(0,9),(1,12)]),2,24,[.d true (.str ⟨#[]⟩),.d true (.int .u64 0)]⟩:=⟨⟨Tryz.t14,by kernel_rfl,rfl,rfl,_,rfl,fun c w=>aB (by rfl)⟩,⟨_,Tryz.underlying14,by rfl⟩,rfl⟩
theorem aq0:bG Tryz.prog 15 ⟨.scalar,1,8,[.np]⟩:=⟨⟨Tryz.t15,by kernel_rfl,rfl,rfl,_,rfl,fun c w=>aB (by rfl)⟩,⟨_,Tryz.underlying15,(fun _ h=>by cases h),(fun _ _ h=>by cases h)⟩,rfl⟩
theorem ok16:bG Tryz.prog 16 ⟨.scalar,1,8,[.np]⟩:=⟨⟨Tryz.t16,by kernel_rfl,rfl,rfl,_,rfl,fun c w=>aB (by rfl)⟩,⟨_,Tryz.underlying16,(fun _ h=>by cases h),(fun _ _ h=>by cases h)⟩,rfl⟩
theorem aq1:bG Tryz.prog 17 ⟨.scalar,1,8,[.np]⟩:=⟨⟨Tryz.t17,by kernel_rfl,rfl,rfl,_,rfl,fun c w=>aB (by rfl)⟩,⟨_,Tryz.underlying17,(fun _ h=>by cases h),(fun _ _ h=>by cases h)⟩,rfl⟩
theorem aq2:bG Tryz.prog 18 ⟨(.struct [(0,17)]),1,8,[.np]⟩:=⟨⟨Tryz.t18,by kernel_rfl,rfl,rfl,_,rfl,fun c w=>aB (by rfl)⟩,⟨_,Tryz.underlying18,by rfl⟩,rfl⟩
theorem aq3:bG Tryz.prog 19 ⟨(.struct [(0,17)]),1,8,[.np]⟩:=⟨⟨Tryz.t19,by kernel_rfl,rfl,rfl,_,rfl,fun c w=>aB (by rfl)⟩,⟨_,Tryz.underlying19,by rfl⟩,rfl⟩
theorem aq4:bG Tryz.prog 21 ⟨(.int .i32),1,4,[.d true (.int .i32 0)]⟩:=⟨⟨Tryz.t21,by kernel_rfl,rfl,rfl,_,rfl,fun c w=>aB (by rfl)⟩,Tryz.underlying21,rfl⟩
theorem aq5:bG Tryz.prog 22 ⟨(.slice 5),1,24,[.nil]⟩:=⟨⟨Tryz.t22,by kernel_rfl,rfl,rfl,_,rfl,fun c w=>aB (by rfl)⟩,Tryz.underlying22,rfl⟩
theorem aq6:bG Tryz.prog 23 ⟨(.slice 34),1,24,[.nil]⟩:=⟨⟨Tryz.t23,by kernel_rfl,rfl,rfl,_,rfl,fun c w=>aB (by rfl)⟩,Tryz.underlying23,rfl⟩
theorem aq7:bG Tryz.prog 24 ⟨(.struct [(0,3),(1,3),(2,23),(3,3),(4,3),(5,3),(6,3)]),7,72,[.d true (.int .i64 0),.d true (.int .i64 0),.nil,.d true (.int .i64 0),.d true (.int .i64 0),.d true (.int .i64 0),.d true (.int .i64 0)]⟩:=⟨⟨Tryz.t24,by kernel_rfl,rfl,rfl,_,rfl,fun c w=>aB (by rfl)⟩,⟨_,Tryz.underlying24,by rfl⟩,rfl⟩
theorem aq8:bG Tryz.prog 25 ⟨(.struct [(0,3),(1,3),(2,23),(3,3),(4,3),(5,3),(6,3)]),7,72,[.d true (.int .i64 0),.d true (.int .i64 0),.nil,.d true (.int .i64 0),.d true (.int .i64 0),.d true (.int .i64 0),.d true (.int .i64 0)]⟩:=⟨⟨Tryz.t25,by kernel_rfl,rfl,rfl,_,rfl,fun c w=>aB (by rfl)⟩,⟨_,Tryz.underlying25,by rfl⟩,rfl⟩
theorem aq9:bG Tryz.prog 31 ⟨(.slice 4),1,24,[.nil]⟩:=⟨⟨Tryz.t31,by kernel_rfl,rfl,rfl,_,rfl,fun c w=>aB (by rfl)⟩,Tryz.underlying31,rfl⟩
theorem ara:bG Tryz.prog 33 ⟨(.struct [(0,3),(1,3),(2,3),(3,3),(4,3)]),5,40,[.d true (.int .i64 0),.d true (.int .i64 0),.d true (.int .i64 0),.d true (.int .i64 0),.d true (.int .i64 0)]⟩:=⟨⟨Tryz.t33,by kernel_rfl,rfl,rfl,_,rfl,fun c w=>aB (by rfl)⟩,⟨_,Tryz.underlying33,by rfl⟩,rfl⟩
theorem arb:bG Tryz.prog 34 ⟨(.struct [(0,3),(1,3),(2,3),(3,3),(4,3)]),5,40,[.d true (.int .i64 0),.d true (.int .i64 0),.d true (.int .i64 0),.d true (.int .i64 0),.d true (.int .i64 0)]⟩:=⟨⟨Tryz.t34,by kernel_rfl,rfl,rfl,_,rfl,fun c w=>aB (by rfl)⟩,⟨_,Tryz.underlying34,by rfl⟩,rfl⟩
theorem ard:bG Tryz.prog 37 ⟨(.slice 42),1,24,[.nil]⟩:=⟨⟨Tryz.t37,by kernel_rfl,rfl,rfl,_,rfl,fun c w=>aB (by rfl)⟩,Tryz.underlying37,rfl⟩
theorem arf:bG Tryz.prog 41 ⟨(.struct [(0,25),(7,25)]),14,144,[.d true (.int .i64 0),.d true (.int .i64 0),.nil,.d true (.int .i64 0),.d true (.int .i64 0),.d true (.int .i64 0),.d true (.int .i64 0),.d true (.int .i64 0),.d true (.int .i64 0),.nil,.d true (.int .i64 0),.d true (.int .i64 0),.d true (.int .i64 0),.d true (.int .i64 0)]⟩:=⟨⟨Tryz.t41,by kernel_rfl,rfl,rfl,_,rfl,fun c w=>aB (by rfl)⟩,⟨_,Tryz.underlying41,by rfl⟩,rfl⟩
theorem arh:bG Tryz.prog 42 ⟨(.struct [(0,25),(7,25)]),14,144,[.d true (.int .i64 0),.d true (.int .i64 0),.nil,.d true (.int .i64 0),.d true (.int .i64 0),.d true (.int .i64 0),.d true (.int .i64 0),.d true (.int .i64 0),.d true (.int .i64 0),.nil,.d true (.int .i64 0),.d true (.int .i64 0),.d true (.int .i64 0),.d true (.int .i64 0)]⟩:=⟨⟨Tryz.t42,by kernel_rfl,rfl,rfl,_,rfl,fun c w=>aB (by rfl)⟩,⟨_,Tryz.underlying42,by rfl⟩,rfl⟩
theorem ari:bG Tryz.prog 46 ⟨(.slice 52),1,24,[.nil]⟩:=⟨⟨Tryz.t46,by kernel_rfl,rfl,rfl,_,rfl,fun c w=>aB (by rfl)⟩,Tryz.underlying46,rfl⟩
theorem arj:bG Tryz.prog 50 ⟨(.slice 3),1,24,[.nil]⟩:=⟨⟨Tryz.t50,by kernel_rfl,rfl,rfl,_,rfl,fun c w=>aB (by rfl)⟩,Tryz.underlying50,rfl⟩
theorem ark:bG Tryz.prog 51 ⟨(.struct [(0,50),(1,25)]),8,96,[.nil,.d true (.int .i64 0),.d true (.int .i64 0),.nil,.d true (.int .i64 0),.d true (.int .i64 0),.d true (.int .i64 0),.d true (.int .i64 0)]⟩:=⟨⟨Tryz.t51,by kernel_rfl,rfl,rfl,_,rfl,fun c w=>aB (by rfl)⟩,⟨_,Tryz.underlying51,by rfl⟩,rfl⟩
theorem arl:bG Tryz.prog 52 ⟨(.struct [(0,50),(1,25)]),8,96,[.nil,.d true (.int .i64 0),.d true (.int .i64 0),.nil,.d true (.int .i64 0),.d true (.int .i64 0),.d true (.int .i64 0),.d true (.int .i64 0)]⟩:=⟨⟨Tryz.t52,by kernel_rfl,rfl,rfl,_,rfl,fun c w=>aB (by rfl)⟩,⟨_,Tryz.underlying52,by rfl⟩,rfl⟩
theorem arn:bG Tryz.prog 61 ⟨(.struct [(0,50),(1,3),(2,50),(3,3),(4,4),(5,4),(6,3),(7,50),(8,50),(9,3)]),10,136,[.nil,.d true (.int .i64 0),.nil,.d true (.int .i64 0),.d true (.bool false),.d true (.bool false),.d true (.int .i64 0),.nil,.nil,.d true (.int .i64 0)]⟩:=⟨⟨Tryz.t61,by kernel_rfl,rfl,rfl,_,rfl,fun c w=>aB (by rfl)⟩,⟨_,Tryz.underlying61,by rfl⟩,rfl⟩
theorem aro:bG Tryz.prog 62 ⟨(.struct [(0,50),(1,3),(2,50),(3,3),(4,4),(5,4),(6,3),(7,50),(8,50),(9,3)]),10,136,[.nil,.d true (.int .i64 0),.nil,.d true (.int .i64 0),.d true (.bool false),.d true (.bool false),.d true (.int .i64 0),.nil,.nil,.d true (.int .i64 0)]⟩:=⟨⟨Tryz.t62,by kernel_rfl,rfl,rfl,_,rfl,fun c w=>aB (by rfl)⟩,⟨_,Tryz.underlying62,by rfl⟩,rfl⟩
theorem arp:bG Tryz.prog 63 ⟨(.struct [(0,62),(10,46),(11,37)]),12,184,[.nil,.d true (.int .i64 0),.nil,.d true (.int .i64 0),.d true (.bool false),.d true (.bool false),.d true (.int .i64 0),.nil,.nil,.d true (.int .i64 0),.nil,.nil]⟩:=⟨⟨Tryz.t63,by kernel_rfl,rfl,rfl,_,rfl,fun c w=>aB (by rfl)⟩,⟨_,Tryz.underlying63,by rfl⟩,rfl⟩
theorem arq:bG Tryz.prog 64 ⟨(.struct [(0,62),(10,46),(11,37)]),12,184,[.nil,.d true (.int .i64 0),.nil,.d true (.int .i64 0),.d true (.bool false),.d true (.bool false),.d true (.int .i64 0),.nil,.nil,.d true (.int .i64 0),.nil,.nil]⟩:=⟨⟨Tryz.t64,by kernel_rfl,rfl,rfl,_,rfl,fun c w=>aB (by rfl)⟩,⟨_,Tryz.underlying64,by rfl⟩,rfl⟩
theorem ars:bG Tryz.prog 72 ⟨.scalar,1,8,[.np]⟩:=⟨⟨Tryz.t72,by kernel_rfl,rfl,rfl,_,rfl,fun c w=>aB (by rfl)⟩,⟨_,Tryz.underlying72,(fun _ h=>by cases h),(fun _ _ h=>by cases h)⟩,rfl⟩
theorem aru:bG Tryz.prog 81 ⟨(.slice 169),1,24,[.nil]⟩:=⟨⟨Tryz.t81,by kernel_rfl,rfl,rfl,_,rfl,fun c w=>aB (by rfl)⟩,Tryz.underlying81,rfl⟩
theorem arv:bG Tryz.prog 82 ⟨(.struct [(0,81)]),1,24,[.nil]⟩:=⟨⟨Tryz.t82,by kernel_rfl,rfl,rfl,_,rfl,fun c w=>aB (by rfl)⟩,⟨_,Tryz.underlying82,by rfl⟩,rfl⟩
theorem arw:bG Tryz.prog 83 ⟨(.struct [(0,81)]),1,24,[.nil]⟩:=⟨⟨Tryz.t83,by kernel_rfl,rfl,rfl,_,rfl,fun c w=>aB (by rfl)⟩,⟨_,Tryz.underlying83,by rfl⟩,rfl⟩
theorem arx:bG Tryz.prog 84 ⟨(.slice 90),1,24,[.nil]⟩:=⟨⟨Tryz.t84,by kernel_rfl,rfl,rfl,_,rfl,fun c w=>aB (by rfl)⟩,Tryz.underlying84,rfl⟩
theorem arz:bG Tryz.prog 87 ⟨(.slice 140),1,24,[.nil]⟩:=⟨⟨Tryz.t87,by kernel_rfl,rfl,rfl,_,rfl,fun c w=>aB (by rfl)⟩,Tryz.underlying87,rfl⟩
theorem arA:bG Tryz.prog 88 ⟨(.slice 173),1,24,[.nil]⟩:=⟨⟨Tryz.t88,by kernel_rfl,rfl,rfl,_,rfl,fun c w=>aB (by rfl)⟩,Tryz.underlying88,rfl⟩
theorem arB:bG Tryz.prog 89 ⟨(.struct [(0,88)]),1,24,[.nil]⟩:=⟨⟨Tryz.t89,by kernel_rfl,rfl,rfl,_,rfl,fun c w=>aB (by rfl)⟩,⟨_,Tryz.underlying89,by rfl⟩,rfl⟩
theorem arC:bG Tryz.prog 90 ⟨(.struct [(0,88)]),1,24,[.nil]⟩:=⟨⟨Tryz.t90,by kernel_rfl,rfl,rfl,_,rfl,fun c w=>aB (by rfl)⟩,⟨_,Tryz.underlying90,by rfl⟩,rfl⟩
theorem arD:bG Tryz.prog 91 ⟨(.struct [(0,87),(1,84),(2,3),(3,90),(4,90),(5,3)]),6,112,[.nil,.nil,.d true (.int .i64 0),.nil,.nil,.d true (.int .i64 0)]⟩:=⟨⟨Tryz.t91,by kernel_rfl,rfl,rfl,_,rfl,fun c w=>aB (by rfl)⟩,⟨_,Tryz.underlying91,by rfl⟩,rfl⟩
theorem arE:bG Tryz.prog 92 ⟨(.struct [(0,87),(1,84),(2,3),(3,90),(4,90),(5,3)]),6,112,[.nil,.nil,.d true (.int .i64 0),.nil,.nil,.d true (.int .i64 0)]⟩:=⟨⟨Tryz.t92,by kernel_rfl,rfl,rfl,_,rfl,fun c w=>aB (by rfl)⟩,⟨_,Tryz.underlying92,by rfl⟩,rfl⟩
theorem al6:bG Tryz.prog 106 ⟨(.slice 160),1,24,[.nil]⟩:=⟨⟨Tryz.t106,by kernel_rfl,rfl,rfl,_,rfl,fun c w=>aB (by rfl)⟩,Tryz.underlying106,rfl⟩
theorem al7:bG Tryz.prog 125 ⟨(.struct [(0,22),(1,3)]),2,32,[.nil,.d true (.int .i64 0)]⟩:=⟨⟨Tryz.t125,by kernel_rfl,rfl,rfl,_,rfl,fun c w=>aB (by rfl)⟩,⟨_,Tryz.underlying125,by rfl⟩,rfl⟩
theorem al8:bG Tryz.prog 126 ⟨(.struct [(0,22),(1,3)]),2,32,[.nil,.d true (.int .i64 0)]⟩:=⟨⟨Tryz.t126,by kernel_rfl,rfl,rfl,_,rfl,fun c w=>aB (by rfl)⟩,⟨_,Tryz.underlying126,by rfl⟩,rfl⟩
theorem al9:bG Tryz.prog 127 ⟨.scalar,1,8,[.np]⟩:=⟨⟨Tryz.t127,by kernel_rfl,rfl,rfl,_,rfl,fun c w=>aB (by rfl)⟩,⟨_,Tryz.underlying127,(fun _ h=>by cases h),(fun _ _ h=>by cases h)⟩,rfl⟩
theorem ama:bG Tryz.prog 133 ⟨.scalar,1,8,[.np]⟩:=⟨⟨Tryz.t133,by kernel_rfl,rfl,rfl,_,rfl,fun c w=>aB (by rfl)⟩,⟨_,Tryz.underlying133,(fun _ h=>by cases h),(fun _ _ h=>by cases h)⟩,rfl⟩
theorem amb:bG Tryz.prog 134 ⟨(.struct [(0,83),(1,4)]),2,32,[.nil,.d true (.bool false)]⟩:=⟨⟨Tryz.t134,by kernel_rfl,rfl,rfl,_,rfl,fun c w=>aB (by rfl)⟩,⟨_,Tryz.underlying134,by rfl⟩,rfl⟩
theorem amc:bG Tryz.prog 135 ⟨(.struct [(0,83),(1,4)]),2,32,[.nil,.d true (.bool false)]⟩:=⟨⟨Tryz.t135,by kernel_rfl,rfl,rfl,_,rfl,fun c w=>aB (by rfl)⟩,⟨_,Tryz.underlying135,by rfl⟩,rfl⟩
theorem amd:bG Tryz.prog 139 ⟨(.struct [(0,3),(1,3),(2,90),(3,90),(4,84)]),5,88,[.d true (.int .i64 0),.d true (.int .i64 0),.nil,.nil,.nil]⟩:=⟨⟨Tryz.t139,by kernel_rfl,rfl,rfl,_,rfl,fun c w=>aB (by rfl)⟩,⟨_,Tryz.underlying139,by rfl⟩,rfl⟩
theorem ame:bG Tryz.prog 140 ⟨(.struct [(0,3),(1,3),(2,90),(3,90),(4,84)]),5,88,[.d true (.int .i64 0),.d true (.int .i64 0),.nil,.nil,.nil]⟩:=⟨⟨Tryz.t140,by kernel_rfl,rfl,rfl,_,rfl,fun c w=>aB (by rfl)⟩,⟨_,Tryz.underlying140,by rfl⟩,rfl⟩
theorem amf:bG Tryz.prog 159 ⟨(.struct [(0,3),(1,3),(2,3),(3,3)]),4,32,[.d true (.int .i64 0),.d true (.int .i64 0),.d true (.int .i64 0),.d true (.int .i64 0)]⟩:=⟨⟨Tryz.t159,by kernel_rfl,rfl,rfl,_,rfl,fun c w=>aB (by rfl)⟩,⟨_,Tryz.underlying159,by rfl⟩,rfl⟩
theorem amg:bG Tryz.prog 160 ⟨(.struct [(0,3),(1,3),(2,3),(3,3)]),4,32,[.d true (.int .i64 0),.d true (.int .i64 0),.d true (.int .i64 0),.d true (.int .i64 0)]⟩:=⟨⟨Tryz.t160,by kernel_rfl,rfl,rfl,_,rfl,fun c w=>aB (by rfl)⟩,⟨_,Tryz.underlying160,by rfl⟩,rfl⟩
theorem amh:bG Tryz.prog 168 ⟨(.struct [(0,3),(1,3),(2,90),(3,90)]),4,64,[.d true (.int .i64 0),.d true (.int .i64 0),.nil,.nil]⟩:=⟨⟨Tryz.t168,by kernel_rfl,rfl,rfl,_,rfl,fun c w=>aB (by rfl)⟩,⟨_,Tryz.underlying168,by rfl⟩,rfl⟩
theorem ami:bG Tryz.prog 169 ⟨(.struct [(0,3),(1,3),(2,90),(3,90)]),4,64,[.d true (.int .i64 0),.d true (.int .i64 0),.nil,.nil]⟩:=⟨⟨Tryz.t169,by kernel_rfl,rfl,rfl,_,rfl,fun c w=>aB (by rfl)⟩,⟨_,Tryz.underlying169,by rfl⟩,rfl⟩
theorem amj:bG Tryz.prog 172 ⟨(.struct [(0,3),(1,50)]),2,32,[.d true (.int .i64 0),.nil]⟩:=⟨⟨Tryz.t172,by kernel_rfl,rfl,rfl,_,rfl,fun c w=>aB (by rfl)⟩,⟨_,Tryz.underlying172,by rfl⟩,rfl⟩
theorem amk:bG Tryz.prog 173 ⟨(.struct [(0,3),(1,50)]),2,32,[.d true (.int .i64 0),.nil]⟩:=⟨⟨Tryz.t173,by kernel_rfl,rfl,rfl,_,rfl,fun c w=>aB (by rfl)⟩,⟨_,Tryz.underlying173,by rfl⟩,rfl⟩
theorem aml:bG Tryz.prog 190 ⟨(.struct [(0,4),(1,22)]),2,32,[.d true (.bool false),.nil]⟩:=⟨⟨Tryz.t190,by kernel_rfl,rfl,rfl,_,rfl,fun c w=>aB (by rfl)⟩,⟨_,Tryz.underlying190,by rfl⟩,rfl⟩
theorem amm:bG Tryz.prog 191 ⟨(.struct [(0,4),(1,22)]),2,32,[.d true (.bool false),.nil]⟩:=⟨⟨Tryz.t191,by kernel_rfl,rfl,rfl,_,rfl,fun c w=>aB (by rfl)⟩,⟨_,Tryz.underlying191,by rfl⟩,rfl⟩
theorem amn:bG Tryz.prog 260 ⟨(.slice 88),1,24,[.nil]⟩:=⟨⟨Tryz.t260,by kernel_rfl,rfl,rfl,_,rfl,fun c w=>aB (by rfl)⟩,Tryz.underlying260,rfl⟩
theorem amo:bG Tryz.prog 262 ⟨(.slice 50),1,24,[.nil]⟩:=⟨⟨Tryz.t262,by kernel_rfl,rfl,rfl,_,rfl,fun c w=>aB (by rfl)⟩,Tryz.underlying262,rfl⟩
theorem amq:bG Tryz.prog 266 ⟨(.int .u64),1,8,[.d true (.int .u64 0)]⟩:=⟨⟨Tryz.t266,by kernel_rfl,rfl,rfl,_,rfl,fun c w=>aB (by rfl)⟩,Tryz.underlying266,rfl⟩
theorem amr:bG Tryz.prog 277 ⟨(.int .i64),1,8,[.d true (.int .i64 0)]⟩:=⟨⟨Tryz.t277,by kernel_rfl,rfl,rfl,_,rfl,fun c w=>aB (by rfl)⟩,Tryz.underlying277,rfl⟩
theorem ams:bG Tryz.prog 284 ⟨(.int .u32),1,4,[.d true (.int .u32 0)]⟩:=⟨⟨Tryz.t284,by kernel_rfl,rfl,rfl,_,rfl,fun c w=>aB (by rfl)⟩,Tryz.underlying284,rfl⟩
theorem amt:bG Tryz.prog 286 ⟨(.int .u64),1,8,[.d true (.int .u64 0)]⟩:=⟨⟨Tryz.t286,by kernel_rfl,rfl,rfl,_,rfl,fun c w=>aB (by rfl)⟩,Tryz.underlying286,rfl⟩
theorem amu:bG Tryz.prog 291 ⟨(.int .u64),1,8,[.d true (.int .u64 0)]⟩:=⟨⟨Tryz.t291,by kernel_rfl,rfl,rfl,_,rfl,fun c w=>aB (by rfl)⟩,Tryz.underlying291,rfl⟩
theorem amv:bG Tryz.prog 295 ⟨.scalar,1,8,[.np]⟩:=⟨⟨Tryz.t295,by kernel_rfl,rfl,rfl,_,rfl,fun c w=>aB (by rfl)⟩,⟨_,Tryz.underlying295,(fun _ h=>by cases h),(fun _ _ h=>by cases h)⟩,rfl⟩
theorem amw:bG Tryz.prog 298 ⟨.scalar,1,8,[.np]⟩:=⟨⟨Tryz.t298,by kernel_rfl,rfl,rfl,_,rfl,fun c w=>aB (by rfl)⟩,⟨_,Tryz.underlying298,(fun _ h=>by cases h),(fun _ _ h=>by cases h)⟩,rfl⟩
theorem amx:bG Tryz.prog 302 ⟨(.struct [(0,17),(1,17),(2,17),(3,9)]),4,40,[.np,.np,.np,.d true (.str ⟨#[]⟩)]⟩:=⟨⟨Tryz.t302,by kernel_rfl,rfl,rfl,_,rfl,fun c w=>aB (by rfl)⟩,⟨_,Tryz.underlying302,by rfl⟩,rfl⟩
theorem amy:bG Tryz.prog 303 ⟨(.struct [(0,17),(1,17),(2,17),(3,9)]),4,40,[.np,.np,.np,.d true (.str ⟨#[]⟩)]⟩:=⟨⟨Tryz.t303,by kernel_rfl,rfl,rfl,_,rfl,fun c w=>aB (by rfl)⟩,⟨_,Tryz.underlying303,by rfl⟩,rfl⟩
theorem amA:bG Tryz.prog 308 ⟨(.int .u8),1,1,[.d true (.int .u8 0)]⟩:=⟨⟨Tryz.t308,by kernel_rfl,rfl,rfl,_,rfl,fun c w=>aB (by rfl)⟩,Tryz.underlying308,rfl⟩
theorem amB:bG Tryz.prog 309 ⟨(.int .u8),1,1,[.d true (.int .u8 0)]⟩:=⟨⟨Tryz.t309,by kernel_rfl,rfl,rfl,_,rfl,fun c w=>aB (by rfl)⟩,Tryz.underlying309,rfl⟩
theorem amC:bG Tryz.prog 311 ⟨.scalar,1,8,[.np]⟩:=⟨⟨Tryz.t311,by kernel_rfl,rfl,rfl,_,rfl,fun c w=>aB (by rfl)⟩,⟨_,Tryz.underlying311,(fun _ h=>by cases h),(fun _ _ h=>by cases h)⟩,rfl⟩
theorem amD:bG Tryz.prog 312 ⟨(.int .i32),1,4,[.d true (.int .i32 0)]⟩:=⟨⟨Tryz.t312,by kernel_rfl,rfl,rfl,_,rfl,fun c w=>aB (by rfl)⟩,Tryz.underlying312,rfl⟩
theorem amE:bG Tryz.prog 313 ⟨(.int .i32),1,4,[.d true (.int .i32 0)]⟩:=⟨⟨Tryz.t313,by kernel_rfl,rfl,rfl,_,rfl,fun c w=>aB (by rfl)⟩,Tryz.underlying313,rfl⟩
theorem arF:∀t y,ty t=some y→bG Tryz.prog t y:=by
 intro t y h
 unfold ty at h
 split at h<;>first | (cases h;done) | skip
 ·cases h;exact ok2
 ·cases h;exact ok3
 ·cases h;exact ok4
 ·cases h;exact ok5
 ·cases h;exact ok6
 ·cases h;exact ok7
 ·cases h;exact ok8
 ·cases h;exact ok9
 ·cases h;exact aqV
 ·cases h;exact aqW
 ·cases h;exact aqX
 ·cases h;exact aqY
 ·cases h;exact aqZ
 ·cases h;exact aq0
 ·cases h;exact ok16
 ·cases h;exact aq1
 ·cases h;exact aq2
 ·cases h;exact aq3
 ·cases h;exact aq4
 ·cases h;exact aq5
 ·cases h;exact aq6
 ·cases h;exact aq7
 ·cases h;exact aq8
 ·cases h;exact aq9
 ·cases h;exact ara
 ·cases h;exact arb
 ·cases h;exact ard
 ·cases h;exact arf
 ·cases h;exact arh
 ·cases h;exact ari
 ·cases h;exact arj
 ·cases h;exact ark
 ·cases h;exact arl
 ·cases h;exact arn
 ·cases h;exact aro
 ·cases h;exact arp
 ·cases h;exact arq
 ·cases h;exact ars
 ·cases h;exact aru
 ·cases h;exact arv
 ·cases h;exact arw
 ·cases h;exact arx
 ·cases h;exact arz
 ·cases h;exact arA
 ·cases h;exact arB
 ·cases h;exact arC
 ·cases h;exact arD
 ·cases h;exact arE
 ·cases h;exact al6
 ·cases h;exact al7
 ·cases h;exact al8
 ·cases h;exact al9
 ·cases h;exact ama
 ·cases h;exact amb
 ·cases h;exact amc
 ·cases h;exact amd
 ·cases h;exact ame
 ·cases h;exact amf
 ·cases h;exact amg
 ·cases h;exact amh
 ·cases h;exact ami
 ·cases h;exact amj
 ·cases h;exact amk
 ·cases h;exact aml
 ·cases h;exact amm
 ·cases h;exact amn
 ·cases h;exact amo
 ·cases h;exact amq
 ·cases h;exact amr
 ·cases h;exact ams
 ·cases h;exact amt
 ·cases h;exact amu
 ·cases h;exact amv
 ·cases h;exact amw
 ·cases h;exact amx
 ·cases h;exact amy
 ·cases h;exact amA
 ·cases h;exact amB
 ·cases h;exact amC
 ·cases h;exact amD
 ·cases h;exact amE
def co:TypeId→Option Co
 | 3=>some .i64
 | 4=>some .bool
 | 5=>some .u8
 | 9=>some .str
 | 25=>some .blk
 | 34=>some .iop
 | 42=>some .cer
 | 50=>some .ints
 | 52=>some .cac
 | 62=>some .Ip
 | 64=>some .eng
 | 83=>some .tab
 | 88=>some .poly
 | 90=>some .poly
 | 92=>some .sym
 | 140=>some .ev
 | 160=>some .ins
 | 169=>some .atom
 | 173=>some .mono
 | 191=>some .ask
 | _=>none
def ieq:TypeId→Option Co
 | 34=>some .iop
 | 160=>some .ins
 | _=>none
def X:XT:={ty:=ty,co:=co,glob:=fun g=>none,ieq:=ieq}
noncomputable def E:Tab:={P:=Tryz.prog,ty:=ty,glob:=fun g=>none,ieq:=fun t=>(ieq t).map fun c=>c.size}
end Go.TX.Seat
namespace Go.TX.Seat
open Go Go.AE Go.TX Go.TX.F Go.Proofs
set_option maxRecDepth 100000
theorem agi (A:Alg): @Ru aF.z X E A [(7,[(0,([0],[])),(1,([47],[])),(2,([48],[])),(3,([49],[])),(4,([5],[])),(5,([0],[])),(6,([52],[])),(7,([53],[])),(8,([54],[])),(9,([55],[])),(10,([51,56],[])),(11,([50,57],[])),(12,([58],[])),(13,([59],[])),(14,([60],[])),(15,([0],[])),(16,([62],[])),(17,([63],[])),(18,([64],[])),(19,([5],[])),(20,([66],[])),(21,([67],[])),(22,([0],[])),(23,([69],[])),(24,([70],[])),(25,([71],[])),(26,([72],[])),(27,([68,73],[])),(28,([65,74],[])),(29,([75],[])),(30,([76],[])),(31,([77],[])),(32,([61,78],[])),(33,([5],[])),(34,([80],[])),(35,([79,81],[])),(36,([5],[])),(37,([0],[])),(38,([84],[])),(39,([85],[])),(40,([86],[])),(41,([87],[])),(42,([83,88],[])),(43,([89],[])),(44,([82,90],[])),(45,([91],[]))])] .u fE Tryz.f78 [] (Qe A):=fun _=>by kernel_rfl
theorem agj (A:Alg) (bQ:Ct A.ah fE): @Ru aF.z X E A [] .u Ea Tryz.f91 [(78,⟨_,bQ⟩)] (Qf A bQ.pre bQ.fn):=fun _=>by kernel_rfl
theorem agk (A:Alg): @Ru aF.z X E A [] .u fF Tryz.f61 [] (Qg A):=fun _=>by kernel_rfl
theorem agl (A:Alg): @Ru aF.z X E A [] .u mQ Tryz.f115 [] (Qh A):=fun _=>by kernel_rfl
theorem agm (A:Alg) (bR:Ct A.ah fF): @Ru aF.z X E A [] .u Eb Tryz.f156 [(61,⟨_,bR⟩)] (Qi A bR.pre bR.fn):=fun _=>by kernel_rfl
theorem agn (A:Alg) (FX:Ct A.ah Eb): @Ru aF.z X E A [] .u tY Tryz.f116 [(156,⟨_,FX⟩)] (Qj A FX.pre FX.fn):=fun _=>by kernel_rfl
theorem agp (A:Alg) (je:Ct A.ah mQ) (bR:Ct A.ah fF) (oW:Ct A.ah tY): @Ru aF.z X E A [] (.seq .u (.seq .u (.seq (.seq .u (.block (.seq .u (.cond .u (.seq .u (.cond .u (.seq .u (.cond .u (.seq (.seq .u (.cut ⟨[(0,.c (.rows false .iop)),(1,.c (.int .i64)),(2,.c (.int .i64)),(7,.c (.pb 0 5 0)),(13,.c (.int .i64)),(78,.c (.bool))],[.box (.sv false .iop)]⟩ (.cond .u .u))) .u))))))))) .u))) Ec Tryz.f62 [(115,⟨_,je⟩),(61,⟨_,bR⟩),(116,⟨_,oW⟩)] (Qk A je.pre je.fn bR.pre bR.fn oW.pre oW.fn):=fun _=>by kernel_rfl
theorem agq (A:Alg) (je:Ct A.ah mQ) (oW:Ct A.ah tY): @Ru aF.z X E A [] (.seq .u (.seq .u (.seq (.seq .u (.block (.seq .u (.cond .u (.seq .u (.cond .u (.seq (.seq .u (.cut ⟨[(1,.c (.pb 0 7 0)),(3,.c (.int .i64)),(42,.c (.bool))],[.box (.sv false .blk)]⟩ (.cond .u .u))) .u))))))) .u))) Ed Tryz.f63 [(115,⟨_,je⟩),(116,⟨_,oW⟩)] (Ql A je.pre je.fn oW.pre oW.fn):=fun _=>by kernel_rfl
theorem agr (A:Alg) (bR:Ct A.ah fF) (FY:Ct A.ah Ed) (FZ:Ct A.ah Ec): @Ru aF.z X E A [] (.seq .u (.seq .u (.seq (.seq .u (.block (.loop ⟨[(1,.c (.pb 0 7 0)),(3,.c (.int .i64))],[.box (.sv false .blk)]⟩ .u))) .u))) gI Tryz.f19 [(61,⟨_,bR⟩),(63,⟨_,FY⟩),(62,⟨_,FZ⟩)] (Qm A bR.pre bR.fn FY.pre FY.fn FZ.pre FZ.fn):=fun _=>by kernel_rfl
theorem ags (A:Alg): @Ru aF.z X E A [] .u mR Tryz.f59 [] (Qn A):=fun _=>by kernel_rfl
theorem agt (A:Alg) (bR:Ct A.ah fF): @Ru aF.z X E A [] (.seq .u (.seq .u (.seq (.seq .u (.cut ⟨[(1,.c (.rows false .i64)),(2,.c (.pb 0 5 0)),(4,.c (.pb 1 5 0)),(5,.c (.pb 2 5 0))],[.box (.sv false .iop),.box (.agg [.int .i64,.int .i64,.int .i64,.int .i64,.int .i64]),.box (.sv true .iop)]⟩ (.cond .u .u))) (.seq (.seq .u (.cut ⟨[(4,.c (.pb 0 5 0)),(5,.c (.pb 1 5 0))],[.box (.agg [.int .i64,.int .i64,.int .i64,.int .i64,.int .i64]),.box (.sv true .iop)]⟩ (.cond .u .u))) .u)))) tZ Tryz.f60 [(61,⟨_,bR⟩)] (Qo A bR.pre bR.fn):=fun _=>by kernel_rfl
theorem agu (A:Alg) (dx:Ct A.ah gI) (oZ:Ct A.ah tZ) (jf:Ct A.ah mR): @Ru aF.z X E A [] (.seq .u (.seq .u (.seq .u (.seq .u (.seq .u (.seq (.seq .u (.block (.loop ⟨[(2,.c (.pb 0 7 0)),(3,.c (.pb 1 7 0)),(4,.c (.own 2)),(5,.c (.own 3)),(6,.c (.int .i64))],[.box (.agg [.int .i64,.int .i64,.nil,.int .i64,.int .i64,.int .i64,.int .i64]),.box (.agg [.int .i64,.int .i64,.own 4,.int .i64,.int .i64,.int .i64,.int .i64]),.rows true .i64,.rows true .i64,.rows true .iop]⟩ (.seq .u (.seq (.block (.seq .u (.seq .u (.seq .u (.seq (.seq .u (.cut ⟨[(2,.c (.pb 0 7 0)),(3,.c (.pb 1 7 0)),(4,.c (.own 2)),(5,.c (.own 3)),(6,.c (.int .i64)),(7,.c (.pb 4 5 0)),(8,.c (.int .i64))],[.box (.agg [.int .i64,.int .i64,.nil,.int .i64,.int .i64,.int .i64,.int .i64]),.box (.agg [.int .i64,.int .i64,.own 5,.int .i64,.int .i64,.int .i64,.int .i64]),.rows true .i64,.rows true .i64,.box (.sv true .iop),.rows true .iop]⟩ (.cond .u .u))) (.seq (.seq .u (.cut ⟨[(2,.c (.pb 0 7 0)),(3,.c (.pb 1 7 0)),(4,.c (.own 2)),(5,.c (.own 3)),(6,.c (.int .i64)),(7,.c (.pb 4 5 0)),(8,.c (.int .i64))],[.box (.agg [.int .i64,.int .i64,.nil,.int .i64,.int .i64,.int .i64,.int .i64]),.box (.agg [.int .i64,.int .i64,.own 5,.int .i64,.int .i64,.int .i64,.int .i64]),.rows true .i64,.rows true .i64,.box (.sv true .iop),.rows true .iop]⟩ (.cond .u .u))) (.seq (.seq .u (.cut ⟨[(2,.c (.pb 0 7 0)),(3,.c (.pb 1 7 0)),(4,.c (.own 2)),(5,.c (.own 3)),(6,.c (.int .i64)),(8,.c (.int .i64))],[.box (.agg [.int .i64,.int .i64,.nil,.int .i64,.int .i64,.int .i64,.int .i64]),.box (.agg [.int .i64,.int .i64,.own 4,.int .i64,.int .i64,.int .i64,.int .i64]),.rows true .i64,.rows true .i64,.rows true .iop]⟩ (.cond .u .u))) .u))))))) .u))))) (.seq (.seq .u (.cut ⟨[(2,.c (.pb 0 7 0)),(3,.c (.pb 1 7 0)),(4,.c (.own 2))],[.box (.agg [.int .i64,.int .i64,.nil,.int .i64,.int .i64,.int .i64,.int .i64]),.box (.agg [.int .i64,.int .i64,.own 3,.int .i64,.int .i64,.int .i64,.int .i64]),.rows true .i64,.rows true .iop]⟩ (.cond .u .u))) (.seq (.seq .u (.cut ⟨[(2,.c (.pb 0 7 0)),(3,.c (.pb 1 7 0))],[.box (.agg [.int .i64,.int .i64,.nil,.int .i64,.int .i64,.int .i64,.int .i64]),.box (.agg [.int .i64,.int .i64,.own 2,.int .i64,.int .i64,.int .i64,.int .i64]),.rows true .iop]⟩ (.cond .u .u))) .u)))))))) uf Tryz.f18 [(19,⟨_,dx⟩),(60,⟨_,oZ⟩),(59,⟨_,jf⟩)] (Qp A dx.pre dx.fn oZ.pre oZ.fn jf.pre jf.fn):=fun _=>by kernel_rfl
theorem agv (A:Alg) (oZ:Ct A.ah tZ): @Ru aF.z X E A [] (.seq .u (.seq .u (.seq .u (.seq (.seq .u (.block (.loop ⟨[(1,.c (.rows false .bool)),(2,.c (.pb 0 7 0)),(4,.c (.pb 1 7 0)),(5,.c (.own 2)),(6,.c (.own 3)),(7,.c (.int .i64))],[.box (.sv false .blk),.box (.agg [.int .i64,.int .i64,.nil,.int .i64,.int .i64,.int .i64,.int .i64]),.rows true .iop,.rows true .i64]⟩ (.seq .u (.seq (.block (.seq .u (.seq .u (.cut ⟨[(1,.c (.rows false .bool)),(2,.c (.pb 0 7 0)),(4,.c (.pb 1 7 0)),(5,.c (.own 2)),(6,.c (.own 3)),(7,.c (.int .i64))],[.box (.sv false .blk),.box (.agg [.int .i64,.int .i64,.nil,.int .i64,.int .i64,.int .i64,.int .i64]),.rows true .iop,.rows true .i64]⟩ (.cond .u .u))))) .u))))) (.seq .u (.seq .u (.seq (.seq .u (.cut ⟨[(2,.c (.pb 0 7 0)),(4,.c (.pb 1 7 0)),(6,.c (.own 2)),(8,.c (.pb 3 7 0))],[.box (.sv false .blk),.box (.agg [.int .i64,.int .i64,.nil,.int .i64,.int .i64,.int .i64,.int .i64]),.rows true .i64,.box (.agg [.int .i64,.int .i64,.own 4,.int .i64,.int .i64,.int .i64,.int .i64]),.rows true .iop]⟩ (.cond .u .u))) (.seq (.seq .u (.cut ⟨[(4,.c (.pb 0 7 0)),(8,.c (.pb 1 7 0))],[.box (.agg [.int .i64,.int .i64,.nil,.int .i64,.int .i64,.int .i64,.int .i64]),.box (.agg [.int .i64,.int .i64,.own 2,.int .i64,.int .i64,.int .i64,.int .i64]),.rows true .iop]⟩ (.cond .u .u))) .u)))))))) ug Tryz.f130 [(60,⟨_,oZ⟩)] (Qs A oZ.pre oZ.fn):=fun _=>by kernel_rfl
theorem agw (A:Alg) (dx:Ct A.ah gI) (bR:Ct A.ah fF): @Ru aF.z X E A [] (.seq .u (.seq .u (.seq .u (.seq (.seq .u (.block (.loop ⟨[(1,.c (.pb 0 7 0)),(3,.c (.own 1)),(4,.c (.int .i64))],[.box (.sv false .blk),.rows true .bool]⟩ .u))) (.seq (.seq .u (.cut ⟨[(1,.c (.pb 0 7 0)),(3,.c (.own 1))],[.box (.sv false .blk),.rows true .bool]⟩ (.cond .u .u))) (.seq (.seq .u (.cut ⟨[(1,.c (.pb 0 7 0)),(3,.c (.own 1))],[.box (.sv false .blk),.rows true .bool]⟩ (.cond .u .u))) (.seq (.seq .u (.block (.loop ⟨[(1,.c (.pb 0 7 0)),(3,.c (.own 1)),(5,.c (.int .i64))],[.box (.sv false .blk),.rows true .bool]⟩ (.seq .u (.seq (.cut ⟨[(1,.c (.pb 0 7 0)),(3,.c (.own 1)),(5,.c (.int .i64))],[.box (.sv false .blk),.rows true .bool]⟩ (.block (.seq .u (.seq .u (.seq (.seq .u (.cut ⟨[(1,.c (.pb 0 7 0)),(3,.c (.own 1)),(5,.c (.int .i64)),(6,.c (.pb 2 5 0))],[.box (.sv false .blk),.rows true .bool,.box (.sv false .iop)]⟩ (.cond .u .u))) (.seq .u (.cut ⟨[(1,.c (.pb 0 7 0)),(3,.c (.own 1)),(5,.c (.int .i64))],[.box (.sv false .blk),.rows true .bool]⟩ (.cond .u .u)))))))) .u))))) .u))))))) Ee Tryz.f131 [(19,⟨_,dx⟩),(61,⟨_,bR⟩)] (Qt A dx.pre dx.fn bR.pre bR.fn):=fun _=>by kernel_rfl
theorem agx (A:Alg) (dx:Ct A.ah gI) (F3:Ct A.ah Ee) (o7:Ct A.ah ug): @Ru aF.z X E A [(3,[(0,([1],[])),(1,([1],[])),(2,([8],[0])),(3,([7,9],[])),(4,([2,10],[]))])] .u Ef Tryz.f70 [(19,⟨_,dx⟩),(131,⟨_,F3⟩),(130,⟨_,o7⟩)] (Qu A dx.pre dx.fn F3.pre F3.fn o7.pre o7.fn):=fun _=>by kernel_rfl
theorem agy (A:Alg): @Ru aF.z X E A [(4,[(0,([0],[])),(1,([5],[])),(2,([14,15],[])),(3,([16],[])),(4,([17],[])),(5,([18],[])),(6,([19],[])),(7,([0,20],[])),(8,([5,20],[])),(9,([20,21,22],[])),(10,([20,23],[])),(11,([20,24],[])),(12,([20,25],[])),(13,([20,26],[])),(14,([27],[])),(15,([0,28],[])),(16,([5,28],[])),(17,([28,29,30],[])),(18,([28,31],[])),(19,([28,32],[])),(20,([28,33],[])),(21,([28,34],[])),(22,([0,35],[])),(23,([5,35],[])),(24,([35,36,37],[])),(25,([35,38],[])),(26,([35,39],[])),(27,([0,35],[])),(28,([1,35],[])),(29,([35,41,42],[])),(30,([35,43],[])),(31,([35,44],[])),(32,([35,40,45],[])),(33,([28,35,46],[])),(34,([28,47],[]))]),(6,[(0,([0],[])),(1,([5],[])),(2,([49,50],[])),(3,([51],[])),(4,([52],[])),(5,([53],[])),(6,([54],[])),(7,([0,55],[])),(8,([5,55],[])),(9,([55,56,57],[])),(10,([55,58],[])),(11,([55,59],[])),(12,([0,55],[])),(13,([1,55],[])),(14,([55,61,62],[])),(15,([55,63],[])),(16,([55,64],[])),(17,([55,60,65],[])),(18,([55,66],[]))])] (.seq .u (.seq (.seq .u (.block (.loop ⟨[(0,.c (.rows false .iop)),(1,.c (.int .i64)),(5,.c (.int .i64))],[]⟩ .u))) .u)) Eh Tryz.f132 [] (Qx A):=fun _=>by kernel_rfl
theorem agz (A:Alg) (dx:Ct A.ah gI) (o7:Ct A.ah ug) (F4:Ct A.ah Eh): @Ru aF.z X E A [] (.seq .u (.seq .u (.seq .u (.seq (.seq .u (.block (.loop ⟨[(1,.c (.pb 0 7 0)),(2,.c (.pb 1 7 0)),(3,.c (.own 2)),(4,.c (.int .i64))],[.box (.sv false .blk),.box (.agg [.int .i64,.int .i64,.nil,.int .i64,.int .i64,.int .i64,.int .i64]),.rows true .bool]⟩ .u))) .u)))) Ei Tryz.f71 [(19,⟨_,dx⟩),(130,⟨_,o7⟩),(132,⟨_,F4⟩)] (Qy A dx.pre dx.fn o7.pre o7.fn F4.pre F4.fn):=fun _=>by kernel_rfl
theorem agA (A:Alg): @Ru aF.z X E A [] .u uh Tryz.f133 [] (Qz A):=fun _=>by kernel_rfl
theorem agB (A:Alg): @Ru aF.z X E A [] (.seq .u (.seq .u (.seq (.seq .u (.cut ⟨[(3,.c (.int .i64))],[]⟩ (.cond .u .u))) .u))) Ej Tryz.f169 [] (QA A):=fun _=>by kernel_rfl
theorem agC (A:Alg) (F5:Ct A.ah Ej) (je:Ct A.ah mQ): @Ru aF.z X E A [] .u El Tryz.f134 [(169,⟨_,F5⟩),(115,⟨_,je⟩)] (QB A F5.pre F5.fn je.pre je.fn):=fun _=>by kernel_rfl
theorem agD (A:Alg): @Ru aF.z X E A [] .u Em Tryz.f170 [] (QE A):=fun _=>by kernel_rfl
theorem agE (A:Alg) (F6:Ct A.ah Em) (o8:Ct A.ah uh): @Ru aF.z X E A [] (.seq .u (.seq .u (.seq .u (.seq (.block (.seq .u (.cond .u (.seq (.seq .u (.cut ⟨[(1,.c (.pb 0 7 0)),(2,.c (.pb 1 7 0)),(4,.c (.bool)),(6,.c (.bool)),(33,.c (.bool))],[.box (.sv false .blk),.box (.agg [.int .i64,.int .i64,.nil,.int .i64,.int .i64,.int .i64,.int .i64])]⟩ (.cond .u .u))) .u)))) .u)))) En Tryz.f135 [(170,⟨_,F6⟩),(133,⟨_,o8⟩)] (QF A F6.pre F6.fn o8.pre o8.fn):=fun _=>by kernel_rfl
theorem agF (A:Alg) (dx:Ct A.ah gI) (F7:Ct A.ah El) (F8:Ct A.ah En) (o8:Ct A.ah uh) (jf:Ct A.ah mR): @Ru aF.z X E A [(11,[(0,([3],[])),(1,([53],[])),(2,([4],[])),(3,([5],[])),(4,([56],[])),(5,([6],[])),(6,([8],[])),(7,([57,58,59],[1])),(8,([60],[])),(9,([54,55],[])),(10,([61,62],[]))])] (.seq .u (.seq .u (.seq .u (.seq (.seq .u (.block (.loop ⟨[(2,.c (.pb 0 7 0)),(3,.c (.pb 1 7 0)),(4,.c (.int .i64))],[.box (.agg [.int .i64,.int .i64,.nil,.int .i64,.int .i64,.int .i64,.int .i64]),.box (.agg [.int .i64,.int .i64,.own 2,.int .i64,.int .i64,.int .i64,.int .i64]),.rows true .iop]⟩ (.seq .u (.seq (.block (.seq .u (.seq .u (.seq .u (.seq .u (.cut ⟨[(2,.c (.pb 0 7 0)),(3,.c (.pb 1 7 0)),(4,.c (.int .i64))],[.box (.agg [.int .i64,.int .i64,.nil,.int .i64,.int .i64,.int .i64,.int .i64]),.box (.agg [.int .i64,.int .i64,.own 2,.int .i64,.int .i64,.int .i64,.int .i64]),.rows true .iop]⟩ (.cond .u .u))))))) .u))))) .u)))) Eo Tryz.f72 [(19,⟨_,dx⟩),(134,⟨_,F7⟩),(135,⟨_,F8⟩),(133,⟨_,o8⟩),(59,⟨_,jf⟩)] (QI A dx.pre dx.fn F7.pre F7.fn F8.pre F8.fn o8.pre o8.fn jf.pre jf.fn):=fun _=>by kernel_rfl
theorem agG (A:Alg) (F9:Ct A.ah Eo) (o9:Ct A.ah uf) (Ga:Ct A.ah Ef) (Gb:Ct A.ah Ei): @Ru aF.z X E A [] .u Ep Tryz.f25 [(72,⟨_,F9⟩),(18,⟨_,o9⟩),(70,⟨_,Ga⟩),(71,⟨_,Gb⟩)] (QJ A F9.pre F9.fn o9.pre o9.fn Ga.pre Ga.fn Gb.pre Gb.fn):=fun _=>by kernel_rfl
theorem agH (A:Alg) (bQ:Ct A.ah fE): @Ru aF.z X E A [] (.seq .u (.seq .u (.seq .u (.seq (.seq .u (.block (.seq (.seq .u (.cut ⟨[(0,.c (.pb 0 2 0)),(2,.c (.pb 1 4 0)),(3,.c (.int .i64)),(4,.c (.int .i64)),(10,.c (.int .i64)),(11,.c (.bool))],[.box (.agg [.rows true .u8,.int .i64]),.box (.agg [.int .i64,.int .i64,.int .i64,.int .i64])]⟩ (.cond .u .u))) (.cond .u (.seq .u (.cond .u (.seq (.seq .u (.cut ⟨[(0,.c (.pb 0 2 0)),(2,.c (.pb 1 4 0)),(3,.c (.int .i64)),(4,.c (.int .i64)),(10,.c (.int .i64)),(30,.c (.bool))],[.box (.agg [.rows true .u8,.int .i64]),.box (.agg [.int .i64,.int .i64,.int .i64,.int .i64])]⟩ (.cond .u (.seq .u (.cut ⟨[(0,.c (.pb 0 2 0)),(2,.c (.pb 1 4 0)),(3,.c (.int .i64)),(4,.c (.int .i64)),(10,.c (.int .i64)),(30,.c (.bool))],[.box (.agg [.rows true .u8,.int .i64]),.box (.agg [.int .i64,.int .i64,.int .i64,.int .i64])]⟩ (.cond .u .u)))))) (.cond .u (.seq .u (.cond .u (.seq (.seq .u (.cut ⟨[(0,.c (.pb 0 2 0)),(2,.c (.pb 1 4 0)),(3,.c (.int .i64)),(4,.c (.int .i64)),(10,.c (.int .i64)),(54,.c (.bool))],[.box (.agg [.rows true .u8,.int .i64]),.box (.agg [.int .i64,.int .i64,.int .i64,.int .i64])]⟩ (.cond .u .u))) .u))))))))))) .u)))) Er Tryz.f179 [(78,⟨_,bQ⟩)] (QM A bQ.pre bQ.fn):=fun _=>by kernel_rfl
theorem agI (A:Alg): @Ru aF.z X E A [] (.seq .u (.seq (.seq .u (.block (.seq .u (.cond .u (.seq .u (.cond .u (.seq .u (.cond .u (.seq (.seq .u (.cut ⟨[(1,.c (.pb 0 4 0)),(4,.c (.int .i64)),(30,.c (.bool))],[.box (.sv false .ins)]⟩ (.cond .u (.seq .u (.cut ⟨[(1,.c (.pb 0 4 0)),(4,.c (.int .i64)),(30,.c (.bool))],[.box (.sv false .ins)]⟩ (.cond .u (.seq .u (.cut ⟨[(1,.c (.pb 0 4 0)),(4,.c (.int .i64)),(30,.c (.bool))],[.box (.sv false .ins)]⟩ (.cond .u (.seq .u (.cut ⟨[(1,.c (.pb 0 4 0)),(4,.c (.int .i64)),(30,.c (.bool))],[.box (.sv false .ins)]⟩ (.cond .u .u)))))))))))) (.cond .u (.seq .u (.cond .u (.seq .u (.cond .u (.seq (.seq .u (.cut ⟨[(1,.c (.pb 0 4 0)),(54,.c (.bool))],[.box (.sv false .ins)]⟩ (.cond .u .u))) .u))))))))))))))) .u)) Es Tryz.f237 [] (QN A):=fun _=>by kernel_rfl
theorem agJ (A:Alg) (bR:Ct A.ah fF) (Gc:Ct A.ah Es): @Ru aF.z X E A [] .u uj Tryz.f181 [(61,⟨_,bR⟩),(237,⟨_,Gc⟩)] (QO A bR.pre bR.fn Gc.pre Gc.fn):=fun _=>by kernel_rfl
theorem agK (A:Alg): @Ru aF.z X E A [] .u um Tryz.f182 [] (QS A):=fun _=>by kernel_rfl
theorem agL (A:Alg) (pq:Ct A.ah um) (pz:Ct A.ah uj): @Ru aF.z X E A [] .u uo Tryz.f180 [(182,⟨_,pq⟩),(181,⟨_,pz⟩)] (QT A pq.pre pq.fn pz.pre pz.fn):=fun _=>by kernel_rfl
theorem agM (A:Alg) (Gd:Ct A.ah Er) (bQ:Ct A.ah fE) (pE:Ct A.ah uo): @Ru aF.z X E A [(3,[(0,([3],[])),(1,([9],[])),(2,([3],[])),(3,([11],[])),(4,([0],[])),(5,([13],[1,3])),(6,([10,12,14],[])),(7,([2,15],[]))])] .u Eu Tryz.f143 [(179,⟨_,Gd⟩),(78,⟨_,bQ⟩),(180,⟨_,pE⟩)] (QY A Gd.pre Gd.fn bQ.pre bQ.fn pE.pre pE.fn):=fun _=>by kernel_rfl
theorem agN (A:Alg) (Gf:Ct A.ah Eu) (bQ:Ct A.ah fE): @Ru aF.z X E A [] (.seq .u (.seq .u (.seq (.seq .u (.block (.loop ⟨[(0,.c (.pb 0 2 0)),(3,.c (.own 1)),(4,.c (.int .i64))],[.box (.agg [.rows true .u8,.int .i64]),.rows true .ins]⟩ .u))) .u))) Ew Tryz.f92 [(143,⟨_,Gf⟩),(78,⟨_,bQ⟩)] (Q5 A Gf.pre Gf.fn bQ.pre bQ.fn):=fun _=>by kernel_rfl
theorem agO (A:Alg) (pq:Ct A.ah um) (pz:Ct A.ah uj) (bR:Ct A.ah fF) (pE:Ct A.ah uo): @Ru aF.z X E A [] (.seq .u (.seq .u (.seq (.seq .u (.block (.loop ⟨[(1,.c (.rows false .ins)),(5,.c (.int .i64))],[]⟩ .u))) .u))) Ey Tryz.f145 [(182,⟨_,pq⟩),(181,⟨_,pz⟩),(61,⟨_,bR⟩),(180,⟨_,pE⟩)] (Q6 A pq.pre pq.fn pz.pre pz.fn bR.pre bR.fn pE.pre pE.fn):=fun _=>by kernel_rfl
theorem agP (A:Alg): @Ru aF.z X E A [(2,[(0,([2],[])),(1,([2],[])),(2,([13],[])),(3,([14],[])),(4,([15],[])),(5,([4,12],[2])),(6,([16],[]))])] .u iF Tryz.f183 [] (Q7 A):=fun _=>by kernel_rfl
theorem agQ (A:Alg) (eP:Ct A.ah iF): @Ru aF.z X E A [] .u uw Tryz.f184 [(183,⟨_,eP⟩)] (Q8 A eP.pre eP.fn):=fun _=>by kernel_rfl
theorem agR (A:Alg) (eP:Ct A.ah iF): @Ru aF.z X E A [] .u jK Tryz.f185 [(183,⟨_,eP⟩)] (Q9 A eP.pre eP.fn):=fun _=>by kernel_rfl
theorem agS (A:Alg) (gJ:Ct A.ah jK) (eP:Ct A.ah iF): @Ru aF.z X E A [] .u uz Tryz.f186 [(185,⟨_,gJ⟩),(183,⟨_,eP⟩)] (Ra A gJ.pre gJ.fn eP.pre eP.fn):=fun _=>by kernel_rfl
theorem agT (A:Alg): @Ru aF.z X E A [] (.seq .u (.seq .u (.seq (.seq .u (.block (.loop ⟨[(0,.c (.int .i64)),(3,.c (.int .i64)),(4,.c (.int .i64))],[]⟩ .u))) .u))) Ez Tryz.f187 [] (Rb A):=fun _=>by kernel_rfl
theorem agU (A:Alg) (gJ:Ct A.ah jK) (eP:Ct A.ah iF) (pF:Ct A.ah uz) (pG:Ct A.ah uw): @Ru aF.z X E A [] .u EA Tryz.f188 [(185,⟨_,gJ⟩),(183,⟨_,eP⟩),(186,⟨_,pF⟩),(184,⟨_,pG⟩)] (Rc A gJ.pre gJ.fn eP.pre eP.fn pF.pre pF.fn pG.pre pG.fn):=fun _=>by kernel_rfl
theorem agV (A:Alg) (gJ:Ct A.ah jK): @Ru aF.z X E A [] (.seq .u (.seq .u (.seq .u (.seq .u (.seq .u (.seq (.seq .u (.cut ⟨[(3,.c (.pb 1 4 0)),(4,.c (.pb 2 7 0)),(8,.c (.int .i64)),(9,.c (.pb 3 7 0)),(10,.c (.int .i64))],[.gone,.box (.sv false .ins),.box (.agg [.int .i64,.int .i64,.nil,.int .i64,.int .i64,.int .i64,.int .i64]),.box (.agg [.int .i64,.int .i64,.own 4,.int .i64,.int .i64,.int .i64,.int .i64]),.rows true .iop]⟩ (.cond .u .u))) .u)))))) EB Tryz.f189 [(185,⟨_,gJ⟩)] (Rf A gJ.pre gJ.fn):=fun _=>by kernel_rfl
theorem agW (A:Alg) (gJ:Ct A.ah jK) (Gg:Ct A.ah EB) (eP:Ct A.ah iF) (Gh:Ct A.ah EA) (pF:Ct A.ah uz) (pG:Ct A.ah uw) (Gi:Ct A.ah Ez): @Ru aF.z X E A [(9,[(0,([3],[])),(1,([4],[])),(2,([56],[])),(3,([4],[])),(4,([58],[])),(5,([59],[0,2])),(6,([60],[])),(7,([55,57,61],[])),(8,([62],[])),(9,([54],[])),(10,([54],[])),(11,([],[])),(12,([11,63],[])),(13,([64],[]))])] (.seq .u (.seq (.seq .u (.block (.seq .u (.cond .u (.seq .u (.cond .u (.seq .u (.cond .u (.seq (.seq .u (.cut ⟨[(2,.c (.int .i64)),(3,.c (.pb 1 7 0)),(4,.c (.pb 2 4 0)),(6,.c (.pb 3 7 0)),(22,.c (.int .i64)),(70,.c (.bool))],[.rows true .iop,.box (.agg [.int .i64,.int .i64,.own 0,.int .i64,.int .i64,.int .i64,.int .i64]),.box (.sv false .ins),.box (.agg [.int .i64,.int .i64,.nil,.int .i64,.int .i64,.int .i64,.int .i64])]⟩ (.cond .u .u))) (.cond .u (.seq .u (.cond .u (.seq .u (.cond .u (.seq (.seq .u (.cut ⟨[(3,.c (.pb 1 7 0)),(4,.c (.pb 2 4 0)),(6,.c (.pb 3 7 0)),(109,.c (.bool))],[.rows true .iop,.box (.agg [.int .i64,.int .i64,.own 0,.int .i64,.int .i64,.int .i64,.int .i64]),.box (.sv false .ins),.box (.agg [.int .i64,.int .i64,.nil,.int .i64,.int .i64,.int .i64,.int .i64])]⟩ (.cond .u (.seq .u (.cut ⟨[(3,.c (.pb 1 7 0)),(4,.c (.pb 2 4 0)),(6,.c (.pb 3 7 0)),(109,.c (.bool))],[.rows true .iop,.box (.agg [.int .i64,.int .i64,.own 0,.int .i64,.int .i64,.int .i64,.int .i64]),.box (.sv false .ins),.box (.agg [.int .i64,.int .i64,.nil,.int .i64,.int .i64,.int .i64,.int .i64])]⟩ (.cond .u .u)))))) .u))))))))))))))) .u)) EC Tryz.f146 [(185,⟨_,gJ⟩),(189,⟨_,Gg⟩),(183,⟨_,eP⟩),(188,⟨_,Gh⟩),(186,⟨_,pF⟩),(184,⟨_,pG⟩),(187,⟨_,Gi⟩)] (Rh A gJ.pre gJ.fn Gg.pre Gg.fn eP.pre eP.fn Gh.pre Gh.fn pF.pre pF.fn pG.pre pG.fn Gi.pre Gi.fn):=fun _=>by kernel_rfl
theorem agX (A:Alg) (Gj:Ct A.ah Ey) (Gm:Ct A.ah EC): @Ru aF.z X E A [(7,[(0,([5],[])),(1,([1],[])),(2,([6],[])),(3,([27,28],[])),(4,([29],[])),(5,([6],[])),(6,([26,30,31],[])),(7,([5,32],[]))])] (.seq .u (.seq .u (.seq .u (.seq (.seq .u (.block (.loop ⟨[(1,.c (.rows false .ins)),(4,.c (.pb 0 7 0)),(5,.c (.pb 1 7 0)),(6,.c (.int .i64))],[.box (.agg [.int .i64,.int .i64,.nil,.int .i64,.int .i64,.int .i64,.int .i64]),.box (.agg [.int .i64,.int .i64,.own 2,.int .i64,.int .i64,.int .i64,.int .i64]),.rows true .iop]⟩ .u))) .u)))) ED Tryz.f94 [(145,⟨_,Gj⟩),(146,⟨_,Gm⟩)] (Ri A Gj.pre Gj.fn Gm.pre Gm.fn):=fun _=>by kernel_rfl
theorem agY (A:Alg) (Gn:Ct A.ah ED) (Gp:Ct A.ah Ep) (o9:Ct A.ah uf) (bQ:Ct A.ah fE) (Gq:Ct A.ah Ew): @Ru aF.z X E A [] .u EF Tryz.f111 [(94,⟨_,Gn⟩),(25,⟨_,Gp⟩),(18,⟨_,o9⟩),(78,⟨_,bQ⟩),(92,⟨_,Gq⟩)] (Rj A Gn.pre Gn.fn Gp.pre Gp.fn o9.pre o9.fn bQ.pre bQ.fn Gq.pre Gq.fn):=fun _=>by kernel_rfl
theorem agZ (A:Alg) (bQ:Ct A.ah fE) (jf:Ct A.ah mR): @Ru aF.z X E A [(9,[(0,([5],[])),(1,([33],[])),(2,([6],[])),(3,([5],[])),(4,([36],[])),(5,([6],[])),(6,([37,38],[])),(7,([39],[])),(8,([40],[])),(9,([41],[])),(10,([34,35],[])),(11,([43],[])),(12,([42,44],[]))]),(11,[(0,([5],[])),(1,([47],[])),(2,([6],[])),(3,([0],[])),(4,([6],[])),(5,([51],[])),(6,([50,52],[1])),(7,([48,49],[])),(8,([54],[])),(9,([53,55],[]))]),(13,[(0,([5],[])),(1,([58],[])),(2,([6],[])),(3,([0],[])),(4,([6],[])),(5,([62],[])),(6,([61,63],[1])),(7,([59,60],[])),(8,([65],[])),(9,([64,66],[]))]),(15,[(0,([5],[])),(1,([69],[])),(2,([6],[])),(3,([0],[])),(4,([5],[])),(5,([73],[])),(6,([74],[])),(7,([72,75],[1])),(8,([70,71],[])),(9,([77],[])),(10,([76,78],[]))]),(23,[(0,([5],[])),(1,([99],[])),(2,([6],[])),(3,([5],[])),(4,([102],[])),(5,([6],[])),(6,([104],[])),(7,([103,105],[])),(8,([106],[])),(9,([100,101],[])),(10,([107,108],[]))]),(26,[(0,([5],[])),(1,([117],[])),(2,([6],[])),(3,([0],[])),(4,([120],[1])),(5,([121],[])),(6,([118,119],[])),(7,([122,123],[]))])] (.seq .u (.seq .u (.seq .u (.seq .u (.seq (.seq .u (.block (.seq .u (.cut ⟨[(4,.c (.pb 1 7 0)),(5,.c (.pb 2 7 0))],[.box (.agg [.rows true .u8,.int .i64]),.box (.agg [.int .i64,.int .i64,.nil,.int .i64,.int .i64,.int .i64,.int .i64]),.box (.agg [.int .i64,.int .i64,.own 3,.int .i64,.int .i64,.int .i64,.int .i64]),.rows true .iop]⟩ (.cond .u (.seq .u (.cut ⟨[(4,.c (.pb 1 7 0)),(5,.c (.pb 2 7 0))],[.box (.agg [.rows true .u8,.int .i64]),.box (.agg [.int .i64,.int .i64,.nil,.int .i64,.int .i64,.int .i64,.int .i64]),.box (.agg [.int .i64,.int .i64,.own 3,.int .i64,.int .i64,.int .i64,.int .i64]),.rows true .iop]⟩ (.cond .u (.seq .u (.cut ⟨[(4,.c (.pb 1 7 0)),(5,.c (.pb 2 7 0))],[.box (.agg [.rows true .u8,.int .i64]),.box (.agg [.int .i64,.int .i64,.nil,.int .i64,.int .i64,.int .i64,.int .i64]),.box (.agg [.int .i64,.int .i64,.own 3,.int .i64,.int .i64,.int .i64,.int .i64]),.rows true .iop]⟩ (.cond .u (.seq .u (.cut ⟨[(4,.c (.pb 1 7 0)),(5,.c (.pb 2 7 0))],[.box (.agg [.rows true .u8,.int .i64]),.box (.agg [.int .i64,.int .i64,.nil,.int .i64,.int .i64,.int .i64,.int .i64]),.box (.agg [.int .i64,.int .i64,.own 3,.int .i64,.int .i64,.int .i64,.int .i64]),.rows true .iop]⟩ (.cond .u (.seq .u (.cut ⟨[(4,.c (.pb 1 7 0)),(5,.c (.pb 2 7 0))],[.box (.agg [.rows true .u8,.int .i64]),.box (.agg [.int .i64,.int .i64,.nil,.int .i64,.int .i64,.int .i64,.int .i64]),.box (.agg [.int .i64,.int .i64,.own 3,.int .i64,.int .i64,.int .i64,.int .i64]),.rows true .iop]⟩ (.cond .u (.seq .u (.cut ⟨[(4,.c (.pb 1 7 0)),(5,.c (.pb 2 7 0))],[.box (.agg [.rows true .u8,.int .i64]),.box (.agg [.int .i64,.int .i64,.nil,.int .i64,.int .i64,.int .i64,.int .i64]),.box (.agg [.int .i64,.int .i64,.own 3,.int .i64,.int .i64,.int .i64,.int .i64]),.rows true .iop]⟩ (.cond .u (.seq .u (.cut ⟨[(4,.c (.pb 1 7 0)),(5,.c (.pb 2 7 0))],[.box (.agg [.rows true .u8,.int .i64]),.box (.agg [.int .i64,.int .i64,.nil,.int .i64,.int .i64,.int .i64,.int .i64]),.box (.agg [.int .i64,.int .i64,.own 3,.int .i64,.int .i64,.int .i64,.int .i64]),.rows true .iop]⟩ (.cond (.seq .u (.cut ⟨[(4,.c (.pb 1 7 0)),(5,.c (.pb 2 7 0))],[.box (.agg [.rows true .u8,.int .i64]),.box (.agg [.int .i64,.int .i64,.nil,.int .i64,.int .i64,.int .i64,.int .i64]),.box (.agg [.int .i64,.int .i64,.own 3,.int .i64,.int .i64,.int .i64,.int .i64]),.rows true .iop]⟩ (.cond .u .u))) (.seq .u (.cut ⟨[(4,.c (.pb 1 7 0)),(5,.c (.pb 2 7 0))],[.box (.agg [.rows true .u8,.int .i64]),.box (.agg [.int .i64,.int .i64,.nil,.int .i64,.int .i64,.int .i64,.int .i64]),.box (.agg [.int .i64,.int .i64,.own 3,.int .i64,.int .i64,.int .i64,.int .i64]),.rows true .iop]⟩ (.cond .u .u)))))))))))))))))))))))))) .u))))) EG Tryz.f112 [(78,⟨_,bQ⟩),(59,⟨_,jf⟩)] (Kq A bQ.pre bQ.fn jf.pre jf.fn):=fun _=>by kernel_rfl
theorem ag0 (A:Alg) (Gr:Ct A.ah Ea) (bQ:Ct A.ah fE) (Gs:Ct A.ah EG) (Gt:Ct A.ah EF): @Ru aF.z X E A [(15,[(0,([5],[])),(1,([54],[])),(2,([],[])),(3,([0],[])),(7,([5],[])),(8,([61],[])),(9,([62],[])),(4,([57],[1,8])),(5,([56,58],[])),(6,([59],[])),(10,([60,63],[])),(11,([64],[])),(12,([55,65],[])),(13,([5],[])),(14,([66,67],[]))])] (.seq .u (.seq .u (.seq (.seq .u (.cut ⟨[(4,.c (.pb 1 7 0)),(5,.c (.pb 2 7 0))],[.box (.agg [.rows true .u8,.int .i64]),.box (.agg [.int .i64,.int .i64,.nil,.int .i64,.int .i64,.int .i64,.int .i64]),.box (.agg [.int .i64,.int .i64,.own 3,.int .i64,.int .i64,.int .i64,.int .i64]),.rows true .iop]⟩ (.cond (.seq .u (.block (.seq .u (.cut ⟨[(4,.c (.pb 1 7 0)),(5,.c (.pb 2 7 0))],[.box (.agg [.rows true .u8,.int .i64]),.box (.agg [.int .i64,.int .i64,.nil,.int .i64,.int .i64,.int .i64,.int .i64]),.box (.agg [.int .i64,.int .i64,.own 3,.int .i64,.int .i64,.int .i64,.int .i64]),.rows true .iop]⟩ (.cond .u (.seq .u (.cut ⟨[(4,.c (.pb 1 7 0)),(5,.c (.pb 2 7 0))],[.box (.agg [.rows true .u8,.int .i64]),.box (.agg [.int .i64,.int .i64,.nil,.int .i64,.int .i64,.int .i64,.int .i64]),.box (.agg [.int .i64,.int .i64,.own 3,.int .i64,.int .i64,.int .i64,.int .i64]),.rows true .iop]⟩ (.cond .u (.seq .u (.cut ⟨[(4,.c (.pb 1 7 0)),(5,.c (.pb 2 7 0))],[.box (.agg [.rows true .u8,.int .i64]),.box (.agg [.int .i64,.int .i64,.nil,.int .i64,.int .i64,.int .i64,.int .i64]),.box (.agg [.int .i64,.int .i64,.own 3,.int .i64,.int .i64,.int .i64,.int .i64]),.rows true .iop]⟩ (.cond (.block (.loop ⟨[(4,.c (.pb 1 7 0)),(5,.c (.pb 2 7 0))],[.box (.agg [.rows true .u8,.int .i64]),.box (.agg [.int .i64,.int .i64,.nil,.int .i64,.int .i64,.int .i64,.int .i64]),.box (.agg [.int .i64,.int .i64,.own 3,.int .i64,.int .i64,.int .i64,.int .i64]),.rows true .iop]⟩ .u)) (.seq .u (.cut ⟨[(4,.c (.pb 1 7 0)),(5,.c (.pb 2 7 0))],[.box (.agg [.rows true .u8,.int .i64]),.box (.agg [.int .i64,.int .i64,.nil,.int .i64,.int .i64,.int .i64,.int .i64]),.box (.agg [.int .i64,.int .i64,.own 3,.int .i64,.int .i64,.int .i64,.int .i64]),.rows true .iop]⟩ (.cond .u .u)))))))))))))) .u))) .u))) EH Tryz.f55 [(91,⟨_,Gr⟩),(78,⟨_,bQ⟩),(112,⟨_,Gs⟩),(111,⟨_,Gt⟩)] (Rk A Gr.pre Gr.fn bQ.pre bQ.fn Gs.pre Gs.fn Gt.pre Gt.fn):=fun _=>by kernel_rfl
theorem ag1 (A:Alg): @Ru aF.z X E A [] (.seq .u (.seq (.seq .u (.cut ⟨[(0,.c (.rows true .u8))],[]⟩ (.cond .u .u))) .u)) EI Tryz.f56 [] (Rl A):=fun _=>by kernel_rfl
theorem amF (A:Alg): @Ru aF.z X E A [] .u bZ Tryz.f73 [] (XC A):=fun _=>by kernel_rfl
theorem amG (A:Alg) (aU:Ct A.ah bZ): @Ru aF.z X E A [] .u jo Tryz.f64 [(73,⟨_,aU⟩)] (XD A aU.pre aU.fn):=fun _=>by kernel_rfl
theorem amH (A:Alg) (aU:Ct A.ah bZ): @Ru aF.z X E A [] .u nX Tryz.f113 [(73,⟨_,aU⟩)] (XE A aU.pre aU.fn):=fun _=>by kernel_rfl
theorem amI (A:Alg) (aU:Ct A.ah bZ): @Ru aF.z X E A [] .u Bh Tryz.f136 [(73,⟨_,aU⟩)] (XF A aU.pre aU.fn):=fun _=>by kernel_rfl
theorem amJ (A:Alg) (aU:Ct A.ah bZ): @Ru aF.z X E A [] .u Bj Tryz.f137 [(73,⟨_,aU⟩)] (XG A aU.pre aU.fn):=fun _=>by kernel_rfl
theorem amK (A:Alg) (aU:Ct A.ah bZ): @Ru aF.z X E A [] .u MF Tryz.f171 [(73,⟨_,aU⟩)] (XH A aU.pre aU.fn):=fun _=>by kernel_rfl
theorem amL (A:Alg) (NG:Ct A.ah MF) (aU:Ct A.ah bZ): @Ru aF.z X E A [] .u Bn Tryz.f138 [(171,⟨_,NG⟩),(73,⟨_,aU⟩)] (XI A NG.pre NG.fn aU.pre aU.fn):=fun _=>by kernel_rfl
theorem amM (A:Alg) (wO:Ct A.ah Bn) (jv:Ct A.ah nX) (fM:Ct A.ah jo) (aU:Ct A.ah bZ) (wP:Ct A.ah Bj) (wQ:Ct A.ah Bh): @Ru ⟨[],[27,40]⟩ X E A [(5,[(0,([],[])),(1,([5],[])),(2,([28],[])),(5,([5],[])),(6,([31],[])),(9,([5],[])),(10,([34],[])),(13,([5],[])),(14,([37],[])),(18,([5],[])),(19,([41],[])),(3,([29],[6,10,14,19])),(4,([27,30],[])),(7,([32],[10,14,19])),(8,([27,33],[])),(11,([35],[14,19])),(12,([27,36],[])),(15,([38],[19])),(16,([27,39],[])),(17,([27],[])),(20,([30,33,36,39,40,42],[])),(21,([43],[]))])] .u MG Tryz.f74 [(138,⟨_,wO⟩),(113,⟨_,jv⟩),(64,⟨_,fM⟩),(73,⟨_,aU⟩),(137,⟨_,wP⟩),(136,⟨_,wQ⟩)] (XJ A wO.pre wO.fn jv.pre jv.fn fM.pre fM.fn aU.pre aU.fn wP.pre wP.fn wQ.pre wQ.fn):=fun _=>by kernel_rfl
theorem amN (A:Alg): @Ru aF.z X E A [(1,[(0,([1],[])),(1,([5],[])),(2,([6],[])),(3,([1],[])),(4,([8],[])),(5,([9],[])),(6,([1],[])),(7,([11],[])),(8,([12],[])),(9,([7],[])),(10,([10],[])),(11,([13],[]))])] .u nY Tryz.f114 [] (XM A):=fun _=>by kernel_rfl
theorem amO (A:Alg) (jw:Ct A.ah nY) (wO:Ct A.ah Bn) (fM:Ct A.ah jo) (aU:Ct A.ah bZ): @Ru aF.z X E A [] .u MH Tryz.f75 [(114,⟨_,jw⟩),(138,⟨_,wO⟩),(64,⟨_,fM⟩),(73,⟨_,aU⟩)] (XO A jw.pre jw.fn wO.pre wO.fn fM.pre fM.fn aU.pre aU.fn):=fun _=>by kernel_rfl
theorem amP (A:Alg) (NH:Ct A.ah MH) (NI:Ct A.ah MG) (aU:Ct A.ah bZ): @Ru aF.z X E A [] (.seq .u (.seq .u (.seq (.seq .u (.block (.loop ⟨[(1,.c (.pb 0 7 0)),(25,.c (.int .i64)),(26,.c (.int .i64))],[.box (.sv false .blk)]⟩ .u))) .u))) jq Tryz.f26 [(75,⟨_,NH⟩),(74,⟨_,NI⟩),(73,⟨_,aU⟩)] (XP A NH.pre NH.fn NI.pre NI.fn aU.pre aU.fn):=fun _=>by kernel_rfl
theorem amQ (A:Alg): @Ru aF.z X E A [] .u Bo Tryz.f57 [] (XQ A):=fun _=>by kernel_rfl
theorem amR (A:Alg) (jw:Ct A.ah nY) (jv:Ct A.ah nX): @Ru aF.z X E A [(5,[(0,([0],[])),(1,([31],[])),(2,([32],[])),(3,([33],[])),(4,([4],[])),(5,([1],[])),(6,([5],[])),(7,([37],[])),(8,([36,38],[])),(9,([39],[])),(10,([34,35],[])),(11,([41],[])),(12,([40,42],[]))]),(7,[(0,([0],[])),(1,([44],[])),(2,([45],[])),(3,([46],[])),(4,([4],[])),(5,([1],[])),(6,([5],[])),(7,([50],[])),(8,([49,51],[])),(9,([52],[])),(10,([47,48],[])),(11,([54],[])),(12,([53,55],[]))])] (.seq (.seq .u (.block (.loop ⟨[(0,.c (.pb 0 7 0)),(1,.c (.rows false .i64)),(16,.c (.own 1)),(17,.c (.int .i64)),(18,.c (.int .i64))],[.box (.agg [.int .i64,.int .i64,.own 1,.int .i64,.int .i64,.int .i64,.int .i64]),.rows true .iop]⟩ (.seq .u (.seq .u (.seq (.block (.seq .u (.seq .u (.seq (.seq .u (.cut ⟨[(0,.c (.pb 0 7 0)),(1,.c (.rows false .i64)),(4,.c (.int .i64)),(5,.c (.pb 2 5 0)),(7,.c (.bool)),(16,.c (.own 1)),(17,.c (.int .i64)),(18,.c (.int .i64))],[.box (.agg [.int .i64,.int .i64,.own 1,.int .i64,.int .i64,.int .i64,.int .i64]),.rows true .iop,.box (.sv true .iop)]⟩ (.cond .u .u))) (.seq .u (.cut ⟨[(0,.c (.pb 0 7 0)),(1,.c (.rows false .i64)),(16,.c (.own 1)),(17,.c (.int .i64)),(18,.c (.int .i64))],[.box (.agg [.int .i64,.int .i64,.own 1,.int .i64,.int .i64,.int .i64,.int .i64]),.rows true .iop]⟩ (.cond .u .u))))))) .u)))))) (.seq .u (.seq (.seq .u (.cut ⟨[(0,.c (.pb 0 7 0)),(1,.c (.rows false .i64)),(11,.c (.bool))],[.box (.agg [.int .i64,.int .i64,.own 1,.int .i64,.int .i64,.int .i64,.int .i64]),.rows true .iop]⟩ (.cond .u .u))) (.seq .u (.cut ⟨[],[.box (.agg [.int .i64,.int .i64,.own 1,.int .i64,.int .i64,.int .i64,.int .i64]),.rows true .iop]⟩ (.cond .u .u)))))) Bp Tryz.f58 [(114,⟨_,jw⟩),(113,⟨_,jv⟩)] (XR A jw.pre jw.fn jv.pre jv.fn):=fun _=>by kernel_rfl
theorem amS (A:Alg) (wR:Ct A.ah Bo) (wS:Ct A.ah Bp) (fO:Ct A.ah jq): @Ru aF.z X E A [(14,[(0,([4],[])),(1,([6],[])),(2,([63],[])),(3,([3],[])),(4,([6],[])),(5,([66],[])),(6,([65,67],[])),(7,([68],[])),(8,([62,64],[])),(9,([69,70],[]))])] (.seq .u (.seq .u (.seq .u (.seq .u (.seq (.seq .u (.block (.loop ⟨[(1,.c (.pb 0 7 0)),(2,.c (.pb 1 7 0)),(3,.c (.own 2)),(4,.c (.own 3)),(18,.c (.rows false .iop)),(19,.c (.int .i64)),(20,.c (.int .i64))],[.box (.sv false .blk),.box (.agg [.int .i64,.int .i64,.nil,.int .i64,.int .i64,.int .i64,.int .i64]),.rows true .i64,.rows true .i64]⟩ (.seq .u (.seq .u (.seq (.block (.seq .u (.seq .u (.block (.seq .u (.cut ⟨[(1,.c (.pb 0 7 0)),(2,.c (.pb 1 7 0)),(3,.c (.own 2)),(4,.c (.own 3)),(18,.c (.rows false .iop)),(19,.c (.int .i64)),(20,.c (.int .i64))],[.box (.sv false .blk),.box (.agg [.int .i64,.int .i64,.nil,.int .i64,.int .i64,.int .i64,.int .i64]),.rows true .i64,.rows true .i64]⟩ (.cond .u (.seq .u (.cut ⟨[(1,.c (.pb 0 7 0)),(2,.c (.pb 1 7 0)),(3,.c (.own 2)),(4,.c (.own 3)),(18,.c (.rows false .iop)),(19,.c (.int .i64)),(20,.c (.int .i64))],[.box (.sv false .blk),.box (.agg [.int .i64,.int .i64,.nil,.int .i64,.int .i64,.int .i64,.int .i64]),.rows true .i64,.rows true .i64]⟩ (.cond .u (.seq .u (.cut ⟨[(1,.c (.pb 0 7 0)),(2,.c (.pb 1 7 0)),(3,.c (.own 2)),(4,.c (.own 3)),(18,.c (.rows false .iop)),(19,.c (.int .i64)),(20,.c (.int .i64))],[.box (.sv false .blk),.box (.agg [.int .i64,.int .i64,.nil,.int .i64,.int .i64,.int .i64,.int .i64]),.rows true .i64,.rows true .i64]⟩ (.cond .u .u))))))))))))) .u)))))) .u))))) MI Tryz.f16 [(57,⟨_,wR⟩),(58,⟨_,wS⟩),(26,⟨_,fO⟩)] (XU A wR.pre wR.fn wS.pre wS.fn fO.pre fO.fn):=fun _=>by kernel_rfl
end Go.TX.Seat
