/- Part 4 of a proof: what the last part needs. No condition. -/
import Derived.Test.YtkecklmejhogoaaGreatZc
import Derived.Test.YtkecklmejhogoaaGreatProg
import Derived.KernelRfl
set_option linter.all false
set_option linter.unusedSectionVars false
set_option linter.unusedVariables false
set_option linter.unusedSimpArgs false
namespace Go.TX.F
open Go Go.AE Go.TX
set_option maxRecDepth 100000
@[reducible] def dZ : Sig := ⟨[.c (.pb 0 2 0), .c (.int .i64)], [.box (.agg [.rows true .u8, .int .i64])], [.c (.int .i64)], [.box (.agg [.rows true .u8, .int .i64])]⟩
@[reducible] def Eb : Sig := ⟨[.c (.pb 0 2 0), .c (.int .i64)], [.box (.agg [.rows true .u8, .int .i64])], [.c .bool], [.box (.agg [.rows true .u8, .int .i64])]⟩
@[reducible] def fH : Sig := ⟨[.c (.int .i64), .c (.int .i64), .c (.int .i64)], [], [.c .bool], []⟩
@[reducible] def mX : Sig := ⟨[.c (.int .i64)], [], [.c .bool], []⟩
@[reducible] def Ec : Sig := ⟨[.c (.int .i64)], [], [.c .bool], []⟩
@[reducible] def uj : Sig := ⟨[.c (.rows false .iop), .c (.int .i64), .c (.int .i64)], [], [.c .bool], []⟩
@[reducible] def Ed : Sig := ⟨[.c (.rows false .iop), .c (.int .i64), .c (.int .i64)], [], [.c .bool], []⟩
@[reducible] def Ee : Sig := ⟨[.sv false .blk], [], [.c .bool], []⟩
@[reducible] def gJ : Sig := ⟨[.sv false .blk], [], [.c .bool], []⟩
@[reducible] def mY : Sig := ⟨[.sv false .blk], [], [.agg [.int .i64, .int .i64, .own 0, .int .i64, .int .i64, .int .i64, .int .i64]], [.rows true .iop]⟩
@[reducible] def um : Sig := ⟨[.sv false .iop, .c (.rows false .i64)], [], [.sv true .iop], []⟩
@[reducible] def mZ : Sig := ⟨[.sv false .blk], [], [.agg [.int .i64, .int .i64, .own 0, .int .i64, .int .i64, .int .i64, .int .i64]], [.rows true .iop]⟩
@[reducible] def uo : Sig := ⟨[.sv false .blk, .c (.rows false .bool)], [], [.agg [.int .i64, .int .i64, .own 0, .int .i64, .int .i64, .int .i64, .int .i64]], [.rows true .iop]⟩
@[reducible] def Ef : Sig := ⟨[.sv false .blk], [], [.c (.own 0)], [.rows true .bool]⟩
@[reducible] def Eh : Sig := ⟨[.sv false .blk], [], [.agg [.int .i64, .int .i64, .own 0, .int .i64, .int .i64, .int .i64, .int .i64]], [.rows true .iop]⟩
@[reducible] def Ei : Sig := ⟨[.c (.rows false .iop), .c (.int .i64)], [], [.c .bool], []⟩
@[reducible] def Ej : Sig := ⟨[.sv false .blk], [], [.agg [.int .i64, .int .i64, .own 0, .int .i64, .int .i64, .int .i64, .int .i64]], [.rows true .iop]⟩
@[reducible] def uw : Sig := ⟨[.c (.rows false .iop), .c (.int .i64)], [], [.c (.int .i64), .c .bool], []⟩
@[reducible] def El : Sig := ⟨[.c (.int .i64)], [], [.c (.int .i64)], []⟩
@[reducible] def Em : Sig := ⟨[.c (.int .i64), .c (.int .i64), .c (.int .i64)], [], [.c (.int .i64)], []⟩
@[reducible] def En : Sig := ⟨[.sv false .blk, .c (.int .i64)], [], [.agg [.int .i64, .int .i64, .rows false .iop, .int .i64, .int .i64, .int .i64, .int .i64]], []⟩
@[reducible] def Eo : Sig := ⟨[.sv false .blk], [], [.sv false .blk], []⟩
@[reducible] def Ep : Sig := ⟨[.sv false .blk], [], [.sv false .blk], []⟩
@[reducible] def Er : Sig := ⟨[.sv false .blk], [], [.agg [.int .i64, .int .i64, .own 0, .int .i64, .int .i64, .int .i64, .int .i64]], [.rows true .iop]⟩
@[reducible] def Es : Sig := ⟨[.c (.pb 0 2 0)], [.box (.agg [.rows true .u8, .int .i64])], [.agg [.int .i64, .int .i64, .int .i64, .int .i64]], [.box (.agg [.rows true .u8, .int .i64])]⟩
@[reducible] def Eu : Sig := ⟨[.sv false .ins], [], [.c .bool], []⟩
@[reducible] def uz : Sig := ⟨[.sv false .ins], [], [.c .bool], []⟩
@[reducible] def uD : Sig := ⟨[.c (.int .i64)], [], [.c .bool], []⟩
@[reducible] def uE : Sig := ⟨[.sv false .ins], [], [.c .bool], []⟩
@[reducible] def Ew : Sig := ⟨[.c (.pb 0 2 0)], [.box (.agg [.rows true .u8, .int .i64])], [.agg [.int .i64, .int .i64, .int .i64, .int .i64]], [.box (.agg [.rows true .u8, .int .i64])]⟩
@[reducible] def Ey : Sig := ⟨[.c (.pb 0 2 0)], [.box (.agg [.rows true .u8, .int .i64])], [.c (.own 1)], [.box (.agg [.rows true .u8, .int .i64]), .rows true .ins]⟩
@[reducible] def Ez : Sig := ⟨[.c (.int .i64), .c (.rows false .ins)], [], [.c .bool], []⟩
@[reducible] def iF : Sig := ⟨[.agg [.int .i64, .int .i64, .own 0, .int .i64, .int .i64, .int .i64, .int .i64], .sv false .iop], [.rows true .iop], [.agg [.int .i64, .int .i64, .own 1, .int .i64, .int .i64, .int .i64, .int .i64], .c (.int .i64)], [.gone, .rows true .iop]⟩
@[reducible] def uF : Sig := ⟨[.agg [.int .i64, .int .i64, .own 0, .int .i64, .int .i64, .int .i64, .int .i64], .c (.int .i64), .c (.int .i64)], [.rows true .iop], [.agg [.int .i64, .int .i64, .own 1, .int .i64, .int .i64, .int .i64, .int .i64]], [.gone, .rows true .iop]⟩
@[reducible] def jL : Sig := ⟨[.agg [.int .i64, .int .i64, .own 0, .int .i64, .int .i64, .int .i64, .int .i64], .c (.int .i64)], [.rows true .iop], [.agg [.int .i64, .int .i64, .own 1, .int .i64, .int .i64, .int .i64, .int .i64], .c (.int .i64)], [.gone, .rows true .iop]⟩
@[reducible] def uG : Sig := ⟨[.agg [.int .i64, .int .i64, .own 0, .int .i64, .int .i64, .int .i64, .int .i64], .c (.int .i64), .c (.int .i64), .sv false .iop], [.rows true .iop], [.agg [.int .i64, .int .i64, .own 1, .int .i64, .int .i64, .int .i64, .int .i64], .c (.int .i64)], [.gone, .rows true .iop]⟩
@[reducible] def EA : Sig := ⟨[.c (.int .i64)], [], [.c (.int .i64)], []⟩
@[reducible] def EB : Sig := ⟨[.agg [.int .i64, .int .i64, .own 0, .int .i64, .int .i64, .int .i64, .int .i64], .sv false .ins, .c (.int .i64)], [.rows true .iop], [.agg [.int .i64, .int .i64, .own 1, .int .i64, .int .i64, .int .i64, .int .i64]], [.gone, .rows true .iop]⟩
@[reducible] def EC : Sig := ⟨[.agg [.int .i64, .int .i64, .own 0, .int .i64, .int .i64, .int .i64, .int .i64], .sv false .ins], [.rows true .iop], [.agg [.int .i64, .int .i64, .own 1, .int .i64, .int .i64, .int .i64, .int .i64]], [.gone, .rows true .iop]⟩
@[reducible] def ED : Sig := ⟨[.agg [.int .i64, .int .i64, .own 0, .int .i64, .int .i64, .int .i64, .int .i64], .sv false .ins, .c (.int .i64)], [.rows true .iop], [.agg [.int .i64, .int .i64, .own 1, .int .i64, .int .i64, .int .i64, .int .i64]], [.gone, .rows true .iop]⟩
@[reducible] def EF : Sig := ⟨[.c (.int .i64), .c (.rows false .ins)], [], [.agg [.int .i64, .int .i64, .own 0, .int .i64, .int .i64, .int .i64, .int .i64]], [.rows true .iop]⟩
@[reducible] def EG : Sig := ⟨[.c (.pb 0 2 0)], [.box (.agg [.rows true .u8, .int .i64])], [.agg [.int .i64, .int .i64, .own 1, .int .i64, .int .i64, .int .i64, .int .i64]], [.box (.agg [.rows true .u8, .int .i64]), .rows true .iop]⟩
@[reducible] def EH : Sig := ⟨[.c (.pb 0 2 0), .sv false .blk], [.box (.agg [.rows true .u8, .int .i64])], [.agg [.int .i64, .int .i64, .own 1, .int .i64, .int .i64, .int .i64, .int .i64]], [.box (.agg [.rows true .u8, .int .i64]), .rows true .iop]⟩
@[reducible] def EI : Sig := ⟨[.c (.pb 0 2 0), .c (.int .i64)], [.box (.agg [.rows true .u8, .int .i64])], [.sv true .blk], [.box (.agg [.rows true .u8, .int .i64])]⟩
@[reducible] def EJ : Sig := ⟨[.c (.rows true .u8)], [], [.c (.pb 0 2 0)], [.box (.agg [.rows true .u8, .int .i64])]⟩
@[reducible] def bZ : Sig := ⟨[.c (.int .i64), .c (.int .i64), .c (.int .i64)], [], [.c .bool], []⟩
@[reducible] def jq : Sig := ⟨[.c (.int .i64)], [], [.c .bool], []⟩
@[reducible] def ow : Sig := ⟨[.sv false .iop], [], [.c .bool, .c .bool, .c .bool, .c .bool], []⟩
@[reducible] def Bj : Sig := ⟨[.c (.int .i64)], [], [.c .bool], []⟩
@[reducible] def Bn : Sig := ⟨[.c (.int .i64)], [], [.c .bool], []⟩
@[reducible] def MF : Sig := ⟨[.sv false .iop], [], [.c .bool], []⟩
@[reducible] def Bo : Sig := ⟨[.sv false .blk, .c (.int .i64), .c (.int .i64)], [], [.c .bool], []⟩
@[reducible] def MG : Sig := ⟨[.sv false .blk, .c (.int .i64)], [], [.c .bool], []⟩
@[reducible] def oC : Sig := ⟨[.sv false .blk], [], [.c .bool, .c .bool, .c .bool], []⟩
@[reducible] def MH : Sig := ⟨[.sv false .blk], [], [.c .bool], []⟩
@[reducible] def jr : Sig := ⟨[.sv false .blk], [], [.c .bool], []⟩
@[reducible] def Bq : Sig := ⟨[.sv false .blk], [], [.agg [.int .i64, .int .i64, .own 0, .int .i64, .int .i64, .int .i64, .int .i64]], [.rows true .iop]⟩
@[reducible] def Br : Sig := ⟨[.c (.pb 0 7 0), .c (.rows false .i64)], [.box (.agg [.int .i64, .int .i64, .own 1, .int .i64, .int .i64, .int .i64, .int .i64]), .rows true .iop], [], [.box (.agg [.int .i64, .int .i64, .own 1, .int .i64, .int .i64, .int .i64, .int .i64]), .rows true .iop]⟩
@[reducible] def MI : Sig := ⟨[.sv false .blk], [], [.sv false .blk], []⟩
@[reducible] def MJ : Sig := ⟨[], [], [.c .bool], []⟩
@[reducible] def MK : Sig := ⟨[.sv false .blk], [], [.c (.own 0)], [.rows true .bool]⟩
@[reducible] def EK : Sig := ⟨[.c (.rows false .iop), .c (.rows false .iop)], [], [.c .bool], []⟩
@[reducible] def ML : Sig := ⟨[.sv false .blk, .sv false .blk], [], [.c .bool], []⟩
@[reducible] def MN : Sig := ⟨[.c (.int .i64), .c (.pb 0 1 0)], [.box (.c (.int .i64))], [.c .bool], [.box (.c (.int .i64))]⟩
@[reducible] def EL : Sig := ⟨[.c (.rows false .i64), .c (.fn 252 [(0, 1)])], [.box (.c (.int .i64))], [.c (.int .i64)], [.box (.c (.int .i64))]⟩
@[reducible] def EM : Sig := ⟨[.c (.rows false .i64), .c (.fn 252 [(0, 1)])], [.box (.c (.int .i64))], [.c .bool], [.box (.c (.int .i64))]⟩
@[reducible] def Bu : Sig := ⟨[.sv false .poly, .c (.int .i64)], [], [.c .bool], []⟩
@[reducible] def MO : Sig := ⟨[.c (.int .i64)], [], [.c .bool], []⟩
@[reducible] def EN : Sig := ⟨[.c (.int .i64), .c (.int .i64)], [], [.c (.int .i64)], []⟩
@[reducible] def MQ : Sig := ⟨[.c (.rows false .i64)], [], [.c (.int .i64)], []⟩
@[reducible] def MR : Sig := ⟨[.c (.rows false .i64), .c (.rows false .i64)], [], [.c (.int .i64)], []⟩
@[reducible] def oD : Sig := ⟨[.c (.rows false .i64), .c (.rows false .i64)], [], [.c (.int .i64)], []⟩
@[reducible] def EO : Sig := ⟨[.c (.int .i64), .c (.int .i64)], [], [.c .bool], []⟩
@[reducible] def EP : Sig := ⟨[.c (.rows false .i64)], [], [.c .bool], []⟩
@[reducible] def MS : Sig := ⟨[.sv false .mono], [], [.c .bool], []⟩
@[reducible] def ER : Sig := ⟨[.c (.rows false .mono), .c (.fn 223 [])], [], [.c (.int .i64)], []⟩
@[reducible] def ET : Sig := ⟨[.c (.rows false .mono), .c (.fn 223 [])], [], [.c .bool], []⟩
@[reducible] def iG : Sig := ⟨[.sv false .poly], [], [.c .bool], []⟩
@[reducible] def Bv : Sig := ⟨[.sv false .atom, .c (.int .i64)], [], [.c .bool], []⟩
@[reducible] def uH : Sig := ⟨[.sv false .poly, .sv false .poly], [], [.c (.int .i64)], []⟩
@[reducible] def jv : Sig := ⟨[.sv false .poly, .sv false .poly], [], [.c .bool], []⟩
@[reducible] def MU : Sig := ⟨[.sv false .atom, .sv false .atom], [], [.c .bool], []⟩
@[reducible] def MV : Sig := ⟨[.sv false .atom, .c (.pb 0 4 0)], [.box (.sv false .atom)], [.c .bool], [.box (.sv false .atom)]⟩
@[reducible] def EU : Sig := ⟨[.c (.rows false .atom), .c (.fn 212 [(0, 4)])], [.box (.sv false .atom)], [.c (.int .i64)], [.box (.sv false .atom)]⟩
@[reducible] def Bw : Sig := ⟨[.sv false .tab, .sv false .atom], [], [.c (.int .i64)], []⟩
@[reducible] def MW : Sig := ⟨[.c (.rows true .atom)], [], [.c (.clip true .atom)], []⟩
@[reducible] def Bz : Sig := ⟨[.sv true .tab, .sv true .atom], [], [.sv true .tab, .c (.int .i64)], []⟩
@[reducible] def BA : Sig := ⟨[.c (.int .i64)], [], [.agg [.own 0]], [.rows true .mono]⟩
@[reducible] def BD : Sig := ⟨[.c (.pb 0 2 0), .c (.int .i64), .c (.int .i64)], [.box (.agg [.rows true .atom, .bool])], [.sv true .poly], [.box (.agg [.rows true .atom, .bool])]⟩
@[reducible] def BF : Sig := ⟨[.c (.pb 0 2 0)], [.box (.agg [.rows true .atom, .bool])], [.c (.own 1)], [.box (.agg [.rows true .atom, .bool]), .rows true .poly]⟩
@[reducible] def BG : Sig := ⟨[.c (.rows false .i64)], [], [.c (.own 0)], [.rows true .i64]⟩
@[reducible] def uI : Sig := ⟨[.sv false .poly], [], [.agg [.own 0]], [.rows true .mono]⟩
@[reducible] def BH : Sig := ⟨[.sv false .tab], [], [.agg [.own 0]], [.rows true .atom]⟩
@[reducible] def MX : Sig := ⟨[], [], [.sv true .tab, .c (.rows true .poly)], []⟩
@[reducible] def MZ : Sig := ⟨[.sv false .iop], [], [.c .bool], []⟩
@[reducible] def M0 : Sig := ⟨[.sv false .tab], [], [.c .bool], []⟩
@[reducible] def M4 : Sig := ⟨[.c (.own 0)], [.rows true .poly], [.c (.own 1)], [.rows true .poly, .rows true .poly]⟩
@[reducible] def uJ : Sig := ⟨[.c (.int .i64)], [], [.agg [.own 0]], [.rows true .mono]⟩
@[reducible] def uK : Sig := ⟨[.c (.int .i64)], [], [.c (.int .i64)], []⟩
@[reducible] def BI : Sig := ⟨[.c (.int .i64), .c (.int .i64), .c (.int .i64)], [], [.c (.int .i64)], []⟩
@[reducible] def BJ : Sig := ⟨[.sv false .poly], [], [.c (.int .i64), .c .bool], []⟩
@[reducible] def BK : Sig := ⟨[.sv false .mono, .sv false .mono], [], [.c (.int .i64)], []⟩
@[reducible] def EW : Sig := ⟨[.c (.own 0), .c (.int .i64), .c (.int .i64), .c (.fn 277 [])], [.rows false .mono], [], [.rows false .mono]⟩
@[reducible] def EX : Sig := ⟨[.c (.own 0), .c (.int .i64), .c (.int .i64), .c (.int .i64), .c (.fn 277 [])], [.rows false .mono], [], [.rows false .mono]⟩
@[reducible] def EY : Sig := ⟨[.c (.own 0), .c (.int .i64), .c (.int .i64), .c (.int .i64), .c (.fn 277 [])], [.rows false .mono], [], [.rows false .mono]⟩
@[reducible] def nu : Sig := ⟨[.c (.own 0), .c (.int .i64), .c (.int .i64), .c (.int .i64), .c (.fn 277 [])], [.rows false .mono], [], [.rows false .mono]⟩
@[reducible] def EZ : Sig := ⟨[.c (.own 0), .c (.int .i64), .c (.fn 277 [])], [.rows false .mono], [], [.rows false .mono]⟩
@[reducible] def E5 : Sig := ⟨[.c (.own 0), .c (.fn 277 [])], [.rows false .mono], [], [.rows false .mono]⟩
@[reducible] def BL : Sig := ⟨[.c (.own 0)], [.rows false .mono], [.agg [.own 1], .c .bool], [.rows false .mono, .rows true .mono]⟩
@[reducible] def E8 : Sig := ⟨[.c (.nil), .c (.int .i64)], [], [.c (.own 0)], [.rows true .mono]⟩
@[reducible] def M5 : Sig := ⟨[.c (.rows false .poly)], [], [.c (.own 0)], [.rows false .mono]⟩
@[reducible] def M6 : Sig := ⟨[.sv false .poly, .sv false .poly], [], [.agg [.own 0], .c .bool], [.rows true .mono]⟩
@[reducible] def E9 : Sig := ⟨[.c (.nil), .c (.int .i64)], [], [.c (.own 0)], [.rows true .i64]⟩
@[reducible] def Fa : Sig := ⟨[.c (.rows false .ints)], [], [.c (.own 0)], [.rows true .i64]⟩
@[reducible] def Fb : Sig := ⟨[.c (.own 0), .c (.int .i64), .c (.int .i64)], [.rows true .i64], [], [.rows true .i64]⟩
@[reducible] def Fe : Sig := ⟨[.c (.own 0), .c (.int .i64), .c (.int .i64)], [.rows true .i64], [], [.rows true .i64]⟩
@[reducible] def Fg : Sig := ⟨[.c (.own 0), .c (.int .i64), .c (.int .i64)], [.rows true .i64], [], [.rows true .i64]⟩
@[reducible] def Fh : Sig := ⟨[.c (.own 0), .c (.int .i64), .c (.int .i64)], [.rows true .i64], [.c (.int .i64), .c (.int .i64)], [.rows true .i64]⟩
@[reducible] def Fj : Sig := ⟨[.c (.own 0), .c (.int .i64), .c (.int .i64)], [.rows true .i64], [], [.rows true .i64]⟩
@[reducible] def Fp : Sig := ⟨[.c (.own 0), .c (.int .i64), .c (.int .i64)], [.rows true .i64], [.c .bool], [.rows true .i64]⟩
@[reducible] def Fq : Sig := ⟨[.c (.own 0), .c (.int .i64), .c (.int .i64), .c (.int .i64)], [.rows true .i64], [.c (.int .i64)], [.rows true .i64]⟩
@[reducible] def Fu : Sig := ⟨[.c (.own 0), .c (.int .i64), .c (.int .i64), .c (.int .i64)], [.rows true .i64], [.c (.int .i64), .c .bool], [.rows true .i64]⟩
@[reducible] def o7 : Sig := ⟨[.c (.own 0), .c (.int .i64), .c (.int .i64), .c (.int .i64)], [.rows true .i64], [], [.rows true .i64]⟩
@[reducible] def Us : Sig := ⟨[.c (.int .u64)], [], [.c (.int .i64)], []⟩
@[reducible] def Fv : Sig := ⟨[.c (.own 0)], [.rows true .i64], [], [.rows true .i64]⟩
@[reducible] def BM : Sig := ⟨[.sv false .poly, .sv false .poly], [], [.agg [.own 0], .c .bool], [.rows true .mono]⟩
@[reducible] def M7 : Sig := ⟨[.sv false .poly, .c (.int .i64)], [], [.agg [.own 0]], [.rows true .mono]⟩
@[reducible] def M8 : Sig := ⟨[.c (.int .i64), .sv true .poly, .sv true .poly], [], [.sv true .poly, .c .bool], []⟩
@[reducible] def M9 : Sig := ⟨[.sv true .tab, .c (.int .i64), .sv true .poly, .sv true .poly], [], [.sv true .tab, .sv true .poly, .c .bool], []⟩
@[reducible] def BN : Sig := ⟨[.c (.int .i64), .c (.int .i64), .c (.int .i64)], [], [.c .bool], []⟩
@[reducible] def Na : Sig := ⟨[.c (.rows false .poly)], [], [.c (.own 0)], [.rows true .poly]⟩
@[reducible] def Nb : Sig := ⟨[.sv false .sym], [], [.agg [.own 0, .own 1, .int .i64, .own 2, .own 3, .int .i64]], [.rows true .ev, .rows true .poly, .rows true .mono, .rows true .mono]⟩
@[reducible] def Nc : Sig := ⟨[.sv false .sym, .c (.int .i64)], [], [.sv true .sym], []⟩
@[reducible] def Ng : Sig := ⟨[.sv true .tab, .sv false .blk], [], [.sv true .tab, .sv true .sym], []⟩
@[reducible] def Nh : Sig := ⟨[.sv false .poly, .sv false .poly], [], [.c .bool], []⟩
@[reducible] def Fw : Sig := ⟨[.c (.rows false .poly), .c (.rows false .poly), .c (.fn 168 [])], [], [.c .bool], []⟩
@[reducible] def BO : Sig := ⟨[.c (.rows false .poly), .c (.rows false .poly)], [], [.c .bool], []⟩
@[reducible] def Ni : Sig := ⟨[.sv false .ev, .sv false .ev], [], [.c .bool], []⟩
@[reducible] def Fx : Sig := ⟨[.c (.rows false .ev), .c (.rows false .ev), .c (.fn 127 [])], [], [.c .bool], []⟩
@[reducible] def Nj : Sig := ⟨[.sv false .sym, .sv false .sym], [], [.c .bool], []⟩
@[reducible] def Nk : Sig := ⟨[.sv false .blk, .sv false .blk], [], [.c .bool], []⟩
@[reducible] def BP : Sig := ⟨[.sv false .blk, .c (.rows false .bool)], [], [.agg [.int .i64, .int .i64, .own 0, .int .i64, .int .i64, .int .i64, .int .i64]], [.rows true .iop]⟩
@[reducible] def Nl : Sig := ⟨[.sv false .blk], [], [.sv false .blk], []⟩
@[reducible] def Nn : Sig := ⟨[.sv false .blk], [], [.sv false .blk], []⟩
@[reducible] def Np : Sig := ⟨[.c (.int .i64), .c (.pb 0 7 0)], [.box (.agg [.int .i64, .int .i64, .own 1, .int .i64, .int .i64, .int .i64, .int .i64]), .rows true .iop], [.c .bool], [.box (.agg [.int .i64, .int .i64, .own 1, .int .i64, .int .i64, .int .i64, .int .i64]), .rows true .iop]⟩
@[reducible] def Nq : Sig := ⟨[.sv false .blk], [], [.sv false .blk], []⟩
@[reducible] def Fy : Sig := ⟨[.c (.rows true .u8)], [], [.sv true .blk], []⟩
@[reducible] def acO : Sig := ⟨[.c (.rows true .u8)], [], [.c .bool], []⟩
def Qc (A:Alg) (x:Tup A.ah [.i,.l .u8,.i]):Ot A dZ:=
 A.l1 .i (A.lit 0) fun x0=>
 A.l1 .i (A.arith .add .i64 x.2.2.1 (A.lit 1)) fun x1=>
 A.cond (A.ak (A.cmp .lss x.1 (A.lit 1)) (A.bl true) (A.cmp .eql (A.len .u8 x.2.1) (A.lit 0))) (A.l1 .i (A.lit 0) fun x2=>
 A.ret _ (x2.1,x.2.1,x1.1,()))<|
 A.l1 .i (A.arith .sub .i64 x1.1 (A.lit 1)) fun x2=>
 A.cond (A.cmp .lss x2.1 (A.len .u8 x.2.1)) (A.bd .u8 x.2.1 x2.1<|
 A.chk (A.cmp .neq x.1 (A.lit 0))<|
 A.l1 .i (A.arith .rem .i64 (A.conv .i64 (A.fI .u8 0 (A.get .u8 x.2.1 x2.1))) x.1) fun x3=>
 A.ret _ (x3.1,x.2.1,x1.1,()))<|
 A.chk (A.cmp .neq (A.len .u8 x.2.1) (A.lit 0))<|
 A.bd .u8 x.2.1 (A.arith .rem .i64 x2.1 (A.len .u8 x.2.1))<|
 A.chk (A.cmp .neq (A.len .u8 x.2.1) (A.lit 0))<|
 A.bd .u8 x.2.1 (A.arith .rem .i64 (A.arith .add .i64 (A.arith .mul .i64 x2.1 (A.lit 7)) (A.lit 3)) (A.len .u8 x.2.1))<|
 A.chk (A.cmp .neq (A.len .u8 x.2.1) (A.lit 0))<|
 A.l1 .i (A.arith .add .i64 (A.arith .add .i64 (A.arith .add .i64 (A.arith .mul .i64 (A.conv .i64 (A.fI .u8 0 (A.get .u8 x.2.1 (A.arith .rem .i64 x2.1 (A.len .u8 x.2.1))))) (A.lit 131)) (A.arith .mul .i64 (A.conv .i64 (A.fI .u8 0 (A.get .u8 x.2.1 (A.arith .rem .i64 (A.arith .add .i64 (A.arith .mul .i64 x2.1 (A.lit 7)) (A.lit 3)) (A.len .u8 x.2.1))))) (A.lit 1117))) (A.arith .mul .i64 x2.1 (A.lit 29))) (A.arith .mul .i64 (A.arith .quo .i64 x2.1 (A.len .u8 x.2.1)) (A.lit 53))) fun x3=>
 A.chk (A.cmp .neq (A.lit 64) (A.lit 0))<|
 A.l1 .i (A.arith .xor .i64 x3.1 (A.arith .quo .i64 x3.1 (A.lit 64))) fun x4=>
 A.chk (A.cmp .neq x.1 (A.lit 0))<|
 A.l1 .i (A.arith .rem .i64 x4.1 x.1) fun x5=>
 A.ret _ (x5.1,x.2.1,x1.1,())
def Qd (A:Alg) (aV:Pt A dZ) (aW:Ft A dZ) (x:Tup A.ah [.i,.l .u8,.i]):Ot A Eb:=
 A.l1 .b (A.bl false) fun x0=>
 A.cl aV aW (x.1,x.2.1,x.2.2.1,()) fun x1=>
 A.l1 .b (A.cmp .eql x1.1 (A.arith .sub .i64 x.1 (A.lit 1))) fun x2=>
 A.ret _ (x2.1,x1.2.1,x1.2.2.1,())
def Qe (A:Alg) (x:Tup A.ah [.i,.i,.i]):Ot A fH:=
 A.l1 .b (A.bl false) fun x0=>
 A.rb (A.ak (A.cmp .geq x.1 x.2.1) (A.cmp .leq x.1 x.2.2.1) (A.bl false))
def Qf (A:Alg) (x:Tup A.ah [.i]):Ot A mX:=
 A.l1 .b (A.bl false) fun x0=>
 A.rb (A.ak (A.cmp .geq x.1 (A.lit 0)) (A.cmp .lss x.1 (A.lit 65536)) (A.bl false))
def Qg (A:Alg) (fJ:Pt A fH) (fK:Ft A fH) (x:Tup A.ah [.i]):Ot A Ec:=
 A.l1 .b (A.bl false) fun x0=>
 A.cl fJ fK (x.1,A.lit 1,A.lit 4,()) fun x1=>
 A.rb (A.ak x1.1 (A.bl true) (A.cmp .eql x.1 (A.lit 6)))
def Qh (A:Alg) (aeE:Pt A Ec) (aeF:Ft A Ec) (x:Tup A.ah [.l .iop,.i,.i]):Ot A uj:=
 A.l1 .b (A.bl false) fun x0=>
 A.chk (A.orB (A.aA (A.ak (A.cmp .geq x.2.1 (A.lit 0)) (A.cmp .lss x.2.1 x.2.2.1) (A.bl false))) (A.cmp .leq (A.lit 0) x.2.1))<|
 A.chk (A.orB (A.aA (A.ak (A.cmp .geq x.2.1 (A.lit 0)) (A.cmp .lss x.2.1 x.2.2.1) (A.bl false))) (A.cmp .lss x.2.1 (A.len .iop x.1)))<|
 A.cg (A.ak (A.cmp .geq x.2.1 (A.lit 0)) (A.cmp .lss x.2.1 x.2.2.1) (A.bl false)) aeE aeF (A.fI .iop 0 (A.get .iop x.1 x.2.1),()) fun x1=>
 A.rb (A.ak (A.ak (A.cmp .geq x.2.1 (A.lit 0)) (A.cmp .lss x.2.1 x.2.2.1) (A.bl false)) x1.1 (A.bl false))
def Qi (A:Alg) (yF:Pt A mX) (yG:Ft A mX) (fJ:Pt A fH) (fK:Ft A fH) (o8:Pt A uj) (o9:Ft A uj) (x:Tup A.ah [.l .iop,.i,.i]):Ot A Ed:=
 A.l1 .b (A.bl false) fun x0=>
 A.bd .iop x.1 x.2.1<|
 A.l1 (.x .iop) (A.get .iop x.1 x.2.1) fun x1=>
 A.l1 .b (A.cmp .eql (A.fI .iop 0 x1.1) (A.lit 1)) fun x2=>
 A.cond x2.1 (A.cg (A.ak (A.cmp .eql (A.fI .iop 1 x1.1) (A.lit 0)) (A.cmp .eql (A.fI .iop 2 x1.1) (A.lit 0)) (A.bl false)) yF yG (A.fI .iop 3 x1.1,()) fun x3=>
 A.rb (A.ak (A.ak (A.ak (A.cmp .eql (A.fI .iop 1 x1.1) (A.lit 0)) (A.cmp .eql (A.fI .iop 2 x1.1) (A.lit 0)) (A.bl false)) x3.1 (A.bl false)) (A.cmp .eql (A.fI .iop 4 x1.1) (A.lit 0)) (A.bl false)))<|
 A.l1 .b (A.cmp .eql (A.fI .iop 0 x1.1) (A.lit 2)) fun x3=>
 A.cond x3.1 (A.cg (A.ak (A.cmp .eql (A.fI .iop 1 x1.1) (A.lit 0)) (A.cmp .eql (A.fI .iop 2 x1.1) (A.lit 0)) (A.bl false)) fJ fK (A.fI .iop 3 x1.1,A.lit 0,A.lit 3,()) fun x4=>
 A.rb (A.ak (A.ak (A.ak (A.cmp .eql (A.fI .iop 1 x1.1) (A.lit 0)) (A.cmp .eql (A.fI .iop 2 x1.1) (A.lit 0)) (A.bl false)) x4.1 (A.bl false)) (A.cmp .eql (A.fI .iop 4 x1.1) (A.lit 0)) (A.bl false)))<|
 A.l1 .b (A.cmp .eql (A.fI .iop 0 x1.1) (A.lit 3)) fun x4=>
 A.cond x4.1 (A.cl o8 o9 (x.1,A.fI .iop 1 x1.1,x.2.1,()) fun x5=>
 A.cg x5.1 o8 o9 (x.1,A.fI .iop 2 x1.1,x.2.1,()) fun x6=>
 A.cg (A.ak x5.1 x6.1 (A.bl false)) fJ fK (A.fI .iop 3 x1.1,A.lit 1,A.lit 5,()) fun x7=>
 A.rb (A.ak (A.ak (A.ak x5.1 x6.1 (A.bl false)) x7.1 (A.bl false)) (A.cmp .eql (A.fI .iop 4 x1.1) (A.lit 0)) (A.bl false)))<|
 A.l1 .b (A.cmp .eql (A.fI .iop 0 x1.1) (A.lit 4)) fun x5=>
 A.bind [.l .iop,.i,.i,.i,.b,.x .iop] (A.cond x5.1 (A.ret _ (x.1,x.2.1,x.2.2.1,A.fI .iop 0 x1.1,x5.1,x1.1,()))<|
 A.l1 .b (A.cmp .eql (A.fI .iop 0 x1.1) (A.lit 7)) fun x6=>
 A.ret _ (x.1,x.2.1,x.2.2.1,A.fI .iop 0 x1.1,x6.1,x1.1,())) fun x6=>
 A.cond x6.q.1 (A.cl o8 o9 (x6.1,A.fI .iop 1 x6.q.2.1,x6.2.1,()) fun x7=>
 A.cg (A.ak (A.ak x7.1 (A.cmp .eql (A.fI .iop 2 x6.q.2.1) (A.lit 0)) (A.bl false)) (A.cmp .eql (A.fI .iop 3 x6.q.2.1) (A.lit 0)) (A.bl false)) fJ fK (A.fI .iop 4 x6.q.2.1,A.lit 0,A.arith .sub .i64 x6.2.2.1 (A.lit 1),()) fun x8=>
 A.rb (A.ak (A.ak (A.ak x7.1 (A.cmp .eql (A.fI .iop 2 x6.q.2.1) (A.lit 0)) (A.bl false)) (A.cmp .eql (A.fI .iop 3 x6.q.2.1) (A.lit 0)) (A.bl false)) x8.1 (A.bl false)))<|
 A.l1 .b (A.cmp .eql x6.2.2.2.1 (A.lit 5)) fun x7=>
 A.cond x7.1 (A.cl o8 o9 (x6.1,A.fI .iop 1 x6.q.2.1,x6.2.1,()) fun x8=>
 A.cg x8.1 o8 o9 (x6.1,A.fI .iop 2 x6.q.2.1,x6.2.1,()) fun x9=>
 A.cg (A.ak (A.ak x8.1 x9.1 (A.bl false)) (A.cmp .eql (A.fI .iop 3 x6.q.2.1) (A.lit 0)) (A.bl false)) fJ fK (A.fI .iop 4 x6.q.2.1,A.lit 0,A.arith .sub .i64 x6.2.2.1 (A.lit 1),()) fun x10=>
 A.rb (A.ak (A.ak (A.ak x8.1 x9.1 (A.bl false)) (A.cmp .eql (A.fI .iop 3 x6.q.2.1) (A.lit 0)) (A.bl false)) x10.1 (A.bl false)))<|
 A.l1 .b (A.cmp .eql x6.2.2.2.1 (A.lit 6)) fun x8=>
 A.cond x8.1 (A.cg (A.ak (A.ak (A.cmp .eql (A.fI .iop 1 x6.q.2.1) (A.lit 0)) (A.cmp .eql (A.fI .iop 2 x6.q.2.1) (A.lit 0)) (A.bl false)) (A.cmp .eql (A.fI .iop 3 x6.q.2.1) (A.lit 0)) (A.bl false)) fJ fK (A.fI .iop 4 x6.q.2.1,A.lit 0,A.arith .sub .i64 x6.2.2.1 (A.lit 1),()) fun x9=>
 A.rb (A.ak (A.ak (A.ak (A.cmp .eql (A.fI .iop 1 x6.q.2.1) (A.lit 0)) (A.cmp .eql (A.fI .iop 2 x6.q.2.1) (A.lit 0)) (A.bl false)) (A.cmp .eql (A.fI .iop 3 x6.q.2.1) (A.lit 0)) (A.bl false)) x9.1 (A.bl false)))<|
 A.l1 .b (A.cmp .eql x6.2.2.2.1 (A.lit 8)) fun x9=>
 A.cond x9.1 (A.cl o8 o9 (x6.1,A.fI .iop 1 x6.q.2.1,x6.2.1,()) fun x10=>
 A.cg (A.ak x10.1 (A.cmp .eql (A.fI .iop 2 x6.q.2.1) (A.lit 0)) (A.bl false)) fJ fK (A.fI .iop 3 x6.q.2.1,A.lit 0,A.lit 3,()) fun x11=>
 A.rb (A.ak (A.ak (A.ak x10.1 (A.cmp .eql (A.fI .iop 2 x6.q.2.1) (A.lit 0)) (A.bl false)) x11.1 (A.bl false)) (A.cmp .eql (A.fI .iop 4 x6.q.2.1) (A.lit 0)) (A.bl false)))<|
 A.rb (A.bl false)
def Qj (A:Alg) (yF:Pt A mX) (yG:Ft A mX) (o8:Pt A uj) (o9:Ft A uj) (x:Tup A.ah [.x .blk]):Ot A Ee:=
 A.l1 .b (A.bl false) fun x0=>
 A.l1 .i (A.len .iop (A.fL .blk 2 .iop x.1)) fun x1=>
 A.l1 .b (A.cmp .eql (A.fI .blk 3 x.1) (A.lit 1)) fun x2=>
 A.cond x2.1 (A.cg (A.ak (A.cmp .eql (A.fI .blk 4 x.1) (A.lit 0)) (A.cmp .eql (A.fI .blk 5 x.1) (A.lit 0)) (A.bl false)) yF yG (A.fI .blk 6 x.1,()) fun x3=>
 A.rb (A.ak (A.ak (A.cmp .eql (A.fI .blk 4 x.1) (A.lit 0)) (A.cmp .eql (A.fI .blk 5 x.1) (A.lit 0)) (A.bl false)) x3.1 (A.bl false)))<|
 A.l1 .b (A.cmp .eql (A.fI .blk 3 x.1) (A.lit 2)) fun x3=>
 A.cond x3.1 (A.cl o8 o9 (A.fL .blk 2 .iop x.1,A.fI .blk 4 x.1,x1.1,()) fun x4=>
 A.rb (A.ak (A.ak x4.1 (A.cmp .eql (A.fI .blk 5 x.1) (A.lit 0)) (A.bl false)) (A.cmp .eql (A.fI .blk 6 x.1) (A.lit 0)) (A.bl false)))<|
 A.l1 .b (A.cmp .eql (A.fI .blk 3 x.1) (A.lit 3)) fun x4=>
 A.bind [.i,.b,.x .blk] (A.cond x4.1 (A.ret _ (x1.1,x4.1,x.1,()))<|
 A.l1 .b (A.cmp .eql (A.fI .blk 3 x.1) (A.lit 4)) fun x5=>
 A.ret _ (x1.1,x5.1,x.1,())) fun x5=>
 A.cond x5.2.1 (A.cl o8 o9 (A.fL .blk 2 .iop x5.2.2.1,A.fI .blk 4 x5.2.2.1,x5.1,()) fun x6=>
 A.cg x6.1 o8 o9 (A.fL .blk 2 .iop x5.2.2.1,A.fI .blk 5 x5.2.2.1,x5.1,()) fun x7=>
 A.cg (A.ak x6.1 x7.1 (A.bl false)) yF yG (A.fI .blk 6 x5.2.2.1,()) fun x8=>
 A.rb (A.ak (A.ak x6.1 x7.1 (A.bl false)) x8.1 (A.bl false)))<|
 A.rb (A.bl false)
def Qk (A:Alg) (fJ:Pt A fH) (fK:Ft A fH) (aeG:Pt A Ee) (aeH:Ft A Ee) (aeI:Pt A Ed) (aeJ:Ft A Ed) (x:Tup A.ah [.x .blk]):Ot A gJ:=
 A.l1 .b (A.bl false) fun x0=>
 A.cl fJ fK (A.fI .blk 1 x.1,A.lit 1,A.lit 8,()) fun x1=>
 A.cg (A.aA (A.aA x1.1)) fJ fK (A.fI .blk 0 x.1,A.lit 0,A.arith .sub .i64 (A.lit 64) (A.fI .blk 1 x.1),()) fun x2=>
 A.cond (A.ak (A.ak (A.aA x1.1) (A.bl true) (A.aA x2.1)) (A.bl true) (A.cmp .gtr (A.len .iop (A.fL .blk 2 .iop x.1)) (A.lit 48))) (A.rb (A.bl false))<|
 A.l1 .i (A.lit 0) fun x3=>
 A.iter [.i,.x .blk] (fun x4=>
 A.cond (A.cmp .lss x4.1 (A.len .iop (A.fL .blk 2 .iop x4.2.1))) (A.cl aeI aeJ (A.fL .blk 2 .iop x4.2.1,x4.1,A.fI .blk 1 x4.2.1,()) fun x5=>
 A.cond (A.aA x5.1) (A.l1 .b (A.bl false) fun x6=>
 A.inr _<|A.ret _ (x6.1,()))<|
 A.l1 .i (A.arith .add .i64 x4.1 (A.lit 1)) fun x6=>
 A.inl _ (x6.1,x4.2.1,()))<|
 A.inr _<|A.cl aeG aeH (x4.2.1,()) fun x5=>
 A.rb x5.1) (x3.1,x.1,())
def Ql (A:Alg) (x:Tup A.ah [.x .blk]):Ot A mY:=
 A.l1 (.x .blk) x.1 fun x0=>
 A.l1 (.l .iop) (A.lst .iop []) fun x1=>
 A.chk (A.cmp .leq (A.addN (A.len .iop x1.1) (A.len .iop (A.fL .blk 2 .iop x.1))) (A.lit 1073741824))<|
 A.l1 (.l .iop) (A.app .iop x1.1 (A.fL .blk 2 .iop x.1)) fun x2=>
 A.ret _ (A.fI .blk 0 x0.1,A.fI .blk 1 x0.1,A.fI .blk 3 x0.1,A.fI .blk 4 x0.1,A.fI .blk 5 x0.1,A.fI .blk 6 x0.1,x2.1,())
def Qm (A:Alg) (fJ:Pt A fH) (fK:Ft A fH) (x:Tup A.ah [.x .iop,.l .i64]):Ot A um:=
 A.l1 (.x .iop) x.1 fun x0=>
 A.cl fJ fK (A.fI .iop 0 x.1,A.lit 3,A.lit 5,()) fun x1=>
 A.bind [.l .i64,.x .iop,.i,.i,.i,.i,.i,.x .iop] (A.cond (A.ak (A.ak x1.1 (A.bl true) (A.cmp .eql (A.fI .iop 0 x.1) (A.lit 7))) (A.bl true) (A.cmp .eql (A.fI .iop 0 x.1) (A.lit 8))) (A.bd .i64 x.2.1 (A.fI .iop 1 x.1)<|
 A.l1 .i (A.fI .i64 0 (A.get .i64 x.2.1 (A.fI .iop 1 x.1))) fun x2=>
 A.ret _ (x.2.1,x.1,A.lit 0,A.lit 0,A.lit 0,A.lit 0,A.lit 0,A.mkX .iop (A.fI .iop 0 x0.1,x2.1,A.fI .iop 2 x0.1,A.fI .iop 3 x0.1,A.fI .iop 4 x0.1,()),()))<|
 A.ret _ (x.2.1,x.1,A.lit 0,A.lit 0,A.lit 0,A.lit 0,A.lit 0,x0.1,())) fun x2=>
 A.bind [.i,.i,.i,.i,.i,.x .iop] (A.cond (A.ak (A.cmp .eql (A.fI .iop 0 x2.2.1) (A.lit 3)) (A.bl true) (A.cmp .eql (A.fI .iop 0 x2.2.1) (A.lit 5))) (A.bd .i64 x2.1 (A.fI .iop 2 x2.2.1)<|
 A.l1 .i (A.fI .i64 0 (A.get .i64 x2.1 (A.fI .iop 2 x2.2.1))) fun x3=>
 A.ret _ (x2.2.2.1,x2.2.2.2.1,x2.q.1,x2.q.2.1,x2.q.2.2.1,A.mkX .iop (A.fI .iop 0 x2.q.2.2.2.1,A.fI .iop 1 x2.q.2.2.2.1,x3.1,A.fI .iop 3 x2.q.2.2.2.1,A.fI .iop 4 x2.q.2.2.2.1,()),()))<|
 A.ret _ (x2.2.2.1,x2.2.2.2.1,x2.q.1,x2.q.2.1,x2.q.2.2.1,x2.q.2.2.2.1,())) fun x3=>
 A.l1 (.x .iop) x3.q.2.1 fun x4=>
 A.ret _ (x4.1,())
def Qn (A:Alg) (nA:Pt A gJ) (nC:Ft A gJ) (Qo:Pt A um) (Qp:Ft A um) (Fz:Pt A mY) (FB:Ft A mY) (x:Tup A.ah [.x .blk]):Ot A mZ:=
 A.cl nA nC (x.1,()) fun x0=>
 A.cond (A.aA x0.1) (A.ret _ (A.lit 0,A.lit 0,A.lit 0,A.lit 0,A.lit 0,A.lit 0,A.bP .iop,()))<|
 A.cl Fz FB (x.1,()) fun x1=>
 A.l1 (.l .i64) (A.lst .i64 []) fun x2=>
 A.l1 (.l .i64) (A.lst .i64 [A.mkX .i64 (A.lit (-1),()),A.mkX .i64 (A.lit (-1),()),A.mkX .i64 (A.lit (-1),()),A.mkX .i64 (A.lit (-1),())]) fun x3=>
 A.l1 .i (A.lit 0) fun x4=>
 A.iter [.i,.i,.i,.i,.i,.i,.i,.i,.i,.i,.i,.i,.i,.l .i64,.l .i64,.l .iop] (fun x5=>
 A.cond (A.cmp .lss x5.1 (A.len .iop x5.o.q.2.2.2.1)) (A.bd .iop x5.o.q.2.2.2.1 x5.1<|
 A.bd .iop x5.o.q.2.2.2.1 x5.1<|
 A.cl Qo Qp (A.get .iop x5.o.q.2.2.2.1 x5.1,x5.o.q.2.1,()) fun x6=>
 A.l1 (.x .iop) x6.1 fun x7=>
 A.bd .iop x5.o.q.2.2.2.1 x5.1<|
 A.bd .iop x5.o.q.2.2.2.1 x5.1<|
 A.l1 (.x .iop) x7.1 fun x8=>
 A.l1 .i x5.1 fun x9=>
 A.chk (A.orB (A.aA (A.cmp .eql (A.fI .iop 0 x7.1) (A.lit 2))) (A.cmp .leq (A.lit 0) (A.fI .iop 3 x7.1)))<|
 A.chk (A.orB (A.aA (A.cmp .eql (A.fI .iop 0 x7.1) (A.lit 2))) (A.cmp .lss (A.fI .iop 3 x7.1) (A.len .i64 x5.o.q.2.2.1)))<|
 A.chk (A.orB (A.aA (A.cmp .eql (A.fI .iop 0 x7.1) (A.lit 2))) (A.cmp .leq (A.lit 0) (A.fI .iop 3 x7.1)))<|
 A.chk (A.orB (A.aA (A.cmp .eql (A.fI .iop 0 x7.1) (A.lit 2))) (A.cmp .lss (A.fI .iop 3 x7.1) (A.len .i64 x5.o.q.2.2.1)))<|
 A.bind [.i,.i,.i,.i,.i,.i,.i,.i,.i,.i,.i,.i,.i,.i,.l .i64,.l .i64,.x .iop,.l .iop] (A.cond (A.ak (A.cmp .eql (A.fI .iop 0 x7.1) (A.lit 2)) (A.cmp .geq (A.fI .i64 0 (A.get .i64 x5.o.q.2.2.1 (A.fI .iop 3 x7.1))) (A.lit 0)) (A.bl false)) (A.bd .i64 x5.o.q.2.2.1 (A.fI .iop 3 x7.1)<|
 A.bd .i64 x5.o.q.2.2.1 (A.fI .iop 3 x7.1)<|
 A.l1 .i (A.fI .i64 0 (A.get .i64 x5.o.q.2.2.1 (A.fI .iop 3 x7.1))) fun x10=>
 A.ret _ (x5.1,x10.1,x5.2.1,x5.2.2.1,x5.2.2.2.1,x5.q.1,x5.q.2.1,x5.q.2.2.1,x5.q.2.2.2.1,x5.o.1,x5.o.2.1,x5.o.2.2.1,x5.o.2.2.2.1,x5.o.q.1,x5.o.q.2.1,x5.o.q.2.2.1,x7.1,A.set .iop x5.o.q.2.2.2.1 x5.1 x8.1,()))<|
 A.ret _ (x5.1,x9.1,x5.2.1,x5.2.2.1,x5.2.2.2.1,x5.q.1,x5.q.2.1,x5.q.2.2.1,x5.q.2.2.2.1,x5.o.1,x5.o.2.1,x5.o.2.2.1,x5.o.2.2.2.1,x5.o.q.1,x5.o.q.2.1,x5.o.q.2.2.1,x7.1,A.set .iop x5.o.q.2.2.2.1 x5.1 x8.1,())) fun x10=>
 A.bind [.i,.i,.i,.i,.i,.i,.i,.i,.i,.i,.i,.i,.i,.i,.l .i64,.l .i64,.x .iop,.l .iop] (A.cond (A.cmp .eql (A.fI .iop 0 x10.o.o.1) (A.lit 2)) (A.bd .i64 x10.o.q.2.2.2.1 (A.fI .iop 3 x10.o.o.1)<|
 A.bd .i64 x10.o.q.2.2.2.1 (A.fI .iop 3 x10.o.o.1)<|
 A.l1 .i x10.2.1 fun x11=>
 A.ret _ (x10.1,x10.2.1,x10.2.2.1,x10.2.2.2.1,x10.q.1,x10.q.2.1,x10.q.2.2.1,x10.q.2.2.2.1,x10.o.1,x10.o.2.1,x10.o.2.2.1,x10.o.2.2.2.1,x10.o.q.1,x10.o.q.2.1,x10.o.q.2.2.1,A.set .i64 x10.o.q.2.2.2.1 (A.fI .iop 3 x10.o.o.1) (A.mkX .i64 (x11.1,())),x10.o.o.1,x10.o.o.2.1,()))<|
 A.ret _ (x10.1,x10.2.1,x10.2.2.1,x10.2.2.2.1,x10.q.1,x10.q.2.1,x10.q.2.2.1,x10.q.2.2.2.1,x10.o.1,x10.o.2.1,x10.o.2.2.1,x10.o.2.2.2.1,x10.o.q.1,x10.o.q.2.1,x10.o.q.2.2.1,x10.o.q.2.2.2.1,x10.o.o.1,x10.o.o.2.1,())) fun x11=>
 A.bind [.i,.i,.i,.i,.i,.i,.i,.i,.i,.i,.i,.i,.i,.i,.l .i64,.l .i64,.l .iop] (A.cond (A.cmp .eql (A.fI .iop 0 x11.o.o.1) (A.lit 8)) (A.bd .i64 x11.o.q.2.2.2.1 (A.fI .iop 3 x11.o.o.1)<|
 A.bd .i64 x11.o.q.2.2.2.1 (A.fI .iop 3 x11.o.o.1)<|
 A.l1 .i (A.fI .iop 1 x11.o.o.1) fun x12=>
 A.ret _ (x11.1,x11.2.1,x11.2.2.1,x11.2.2.2.1,x11.q.1,x11.q.2.1,x11.q.2.2.1,x11.q.2.2.2.1,x11.o.1,x11.o.2.1,x11.o.2.2.1,x11.o.2.2.2.1,x11.o.q.1,x11.o.q.2.1,x11.o.q.2.2.1,A.set .i64 x11.o.q.2.2.2.1 (A.fI .iop 3 x11.o.o.1) (A.mkX .i64 (x12.1,())),x11.o.o.2.1,()))<|
 A.ret _ (x11.1,x11.2.1,x11.2.2.1,x11.2.2.2.1,x11.q.1,x11.q.2.1,x11.q.2.2.1,x11.q.2.2.2.1,x11.o.1,x11.o.2.1,x11.o.2.2.1,x11.o.2.2.2.1,x11.o.q.1,x11.o.q.2.1,x11.o.q.2.2.1,x11.o.q.2.2.2.1,x11.o.o.2.1,())) fun x12=>
 A.l1 (.l .i64) (A.lst .i64 [A.mkX .i64 (x12.2.1,())]) fun x13=>
 A.chk (A.cmp .leq (A.addN (A.len .i64 x12.o.q.2.2.1) (A.len .i64 x13.1)) (A.lit 1073741824))<|
 A.l1 (.l .i64) (A.app .i64 x12.o.q.2.2.1 x13.1) fun x14=>
 A.l1 .i (A.arith .add .i64 x12.1 (A.lit 1)) fun x15=>
 A.inl _ (x15.1,x12.2.2.1,x12.2.2.2.1,x12.q.1,x12.q.2.1,x12.q.2.2.1,x12.q.2.2.2.1,x12.o.1,x12.o.2.1,x12.o.2.2.1,x12.o.2.2.2.1,x12.o.q.1,x12.o.q.2.1,x14.1,x12.o.q.2.2.2.1,x12.o.o.1,()))<|
 A.inr _<|A.bind [.i,.i,.i,.i,.i,.i,.i,.i,.i,.i,.i,.i,.l .i64,.l .iop] (A.cond (A.cmp .neq x5.o.2.1 (A.lit 1)) (A.bd .i64 x5.o.q.2.1 x5.o.2.2.1<|
 A.bd .i64 x5.o.q.2.1 x5.o.2.2.1<|
 A.l1 .i (A.fI .i64 0 (A.get .i64 x5.o.q.2.1 x5.o.2.2.1)) fun x6=>
 A.ret _ (x5.2.1,x5.2.2.1,x5.2.2.2.1,x5.q.1,x5.q.2.1,x5.q.2.2.1,x5.q.2.2.2.1,x5.o.1,x5.o.2.1,x6.1,x5.o.2.2.2.1,x5.o.q.1,x5.o.q.2.1,x5.o.q.2.2.2.1,()))<|
 A.ret _ (x5.2.1,x5.2.2.1,x5.2.2.2.1,x5.q.1,x5.q.2.1,x5.q.2.2.1,x5.q.2.2.2.1,x5.o.1,x5.o.2.1,x5.o.2.2.1,x5.o.2.2.2.1,x5.o.q.1,x5.o.q.2.1,x5.o.q.2.2.2.1,())) fun x6=>
 A.bind [.i,.i,.i,.i,.i,.i,.i,.i,.i,.i,.i,.i,.l .iop] (A.cond (A.ak (A.cmp .eql x6.o.1 (A.lit 3)) (A.bl true) (A.cmp .eql x6.o.1 (A.lit 4))) (A.bd .i64 x6.o.q.1 x6.o.2.2.1<|
 A.bd .i64 x6.o.q.1 x6.o.2.2.1<|
 A.l1 .i (A.fI .i64 0 (A.get .i64 x6.o.q.1 x6.o.2.2.1)) fun x7=>
 A.ret _ (x6.1,x6.2.1,x6.2.2.1,x6.2.2.2.1,x6.q.1,x6.q.2.1,x6.q.2.2.1,x6.q.2.2.2.1,x6.o.1,x6.o.2.1,x7.1,x6.o.2.2.2.1,x6.o.q.2.1,()))<|
 A.ret _ (x6.1,x6.2.1,x6.2.2.1,x6.2.2.2.1,x6.q.1,x6.q.2.1,x6.q.2.2.1,x6.q.2.2.2.1,x6.o.1,x6.o.2.1,x6.o.2.2.1,x6.o.2.2.2.1,x6.o.q.2.1,())) fun x7=>
 A.ret _ (x7.q.2.2.1,x7.q.2.2.2.1,x7.o.1,x7.o.2.1,x7.o.2.2.1,x7.o.2.2.2.1,x7.o.q.1,())) (x4.1,A.lit 0,A.lit 0,A.lit 0,A.lit 0,A.lit 0,A.lit 0,x1.1,x1.2.1,x1.2.2.1,x1.2.2.2.1,x1.q.1,x1.q.2.1,x2.1,x3.1,x1.q.2.2.1,())
def Qq (A:Alg) (Qo:Pt A um) (Qp:Ft A um) (x:Tup A.ah [.x .blk,.l .bool]):Ot A uo:=
 A.l1 (.l .iop) (A.lst .iop []) fun x0=>
 A.l1 (.l .i64) (A.lst .i64 []) fun x1=>
 A.l1 .i (A.lit 0) fun x2=>
 A.iter [.l .bool,.i,.x .blk,.i,.i,.i,.i,.i,.i,.l .iop,.l .i64] (fun x3=>
 A.cond (A.cmp .lss x3.2.1 (A.len .iop (A.fL .blk 2 .iop x3.2.2.1))) (A.l1 (.l .i64) (A.lst .i64 [A.mkX .i64 (A.len .iop x3.o.2.1,())]) fun x4=>
 A.chk (A.cmp .leq (A.addN (A.len .i64 x3.o.2.2.1) (A.len .i64 x4.1)) (A.lit 1073741824))<|
 A.l1 (.l .i64) (A.app .i64 x3.o.2.2.1 x4.1) fun x5=>
 A.bd .bool x3.1 x3.2.1<|
 A.bind [.l .bool,.i,.x .blk,.i,.i,.i,.i,.i,.i,.l .iop,.l .i64] (A.cond (A.fB .bool 0 (A.get .bool x3.1 x3.2.1)) (A.bd .iop (A.fL .blk 2 .iop x3.2.2.1) x3.2.1<|
 A.cl Qo Qp (A.get .iop (A.fL .blk 2 .iop x3.2.2.1) x3.2.1,x5.1,()) fun x6=>
 A.l1 (.l .iop) (A.lst .iop [x6.1]) fun x7=>
 A.chk (A.cmp .leq (A.addN (A.len .iop x3.o.2.1) (A.len .iop x7.1)) (A.lit 1073741824))<|
 A.l1 (.l .iop) (A.app .iop x3.o.2.1 x7.1) fun x8=>
 A.ret _ (x3.1,x3.2.1,x3.2.2.1,x3.2.2.2.1,x3.q.1,x3.q.2.1,x3.q.2.2.1,x3.q.2.2.2.1,x3.o.1,x8.1,x5.1,()))<|
 A.ret _ (x3.1,x3.2.1,x3.2.2.1,x3.2.2.2.1,x3.q.1,x3.q.2.1,x3.q.2.2.1,x3.q.2.2.2.1,x3.o.1,x3.o.2.1,x5.1,())) fun x6=>
 A.l1 .i (A.arith .add .i64 x6.2.1 (A.lit 1)) fun x7=>
 A.inl _ (x6.1,x7.1,x6.2.2.1,x6.2.2.2.1,x6.q.1,x6.q.2.1,x6.q.2.2.1,x6.q.2.2.2.1,x6.o.1,x6.o.2.1,x6.o.2.2.1,()))<|
 A.inr _<|A.l1 (.x .blk) x3.2.2.1 fun x4=>
 A.bind [.x .blk,.i,.i,.i,.i,.i,.i,.l .i64,.i,.i,.i,.i,.i,.i,.l .iop] (A.cond (A.cmp .neq (A.fI .blk 3 x3.2.2.1) (A.lit 1)) (A.bd .i64 x3.o.2.2.1 (A.fI .blk 4 x3.2.2.1)<|
 A.bd .i64 x3.o.2.2.1 (A.fI .blk 4 x3.2.2.1)<|
 A.l1 .i (A.fI .i64 0 (A.get .i64 x3.o.2.2.1 (A.fI .blk 4 x3.2.2.1))) fun x5=>
 A.ret _ (x3.2.2.1,x3.2.2.2.1,x3.q.1,x3.q.2.1,x3.q.2.2.1,x3.q.2.2.2.1,x3.o.1,x3.o.2.2.1,A.fI .blk 0 x4.1,A.fI .blk 1 x4.1,A.fI .blk 3 x4.1,x5.1,A.fI .blk 5 x4.1,A.fI .blk 6 x4.1,x3.o.2.1,()))<|
 A.ret _ (x3.2.2.1,x3.2.2.2.1,x3.q.1,x3.q.2.1,x3.q.2.2.1,x3.q.2.2.2.1,x3.o.1,x3.o.2.2.1,A.fI .blk 0 x4.1,A.fI .blk 1 x4.1,A.fI .blk 3 x4.1,A.fI .blk 4 x4.1,A.fI .blk 5 x4.1,A.fI .blk 6 x4.1,x3.o.2.1,())) fun x5=>
 A.bind [.i,.i,.i,.i,.i,.i,.i,.i,.i,.i,.i,.i,.l .iop] (A.cond (A.ak (A.cmp .eql (A.fI .blk 3 x5.1) (A.lit 3)) (A.bl true) (A.cmp .eql (A.fI .blk 3 x5.1) (A.lit 4))) (A.bd .i64 x5.q.2.2.2.1 (A.fI .blk 5 x5.1)<|
 A.bd .i64 x5.q.2.2.2.1 (A.fI .blk 5 x5.1)<|
 A.l1 .i (A.fI .i64 0 (A.get .i64 x5.q.2.2.2.1 (A.fI .blk 5 x5.1))) fun x6=>
 A.ret _ (x5.2.1,x5.2.2.1,x5.2.2.2.1,x5.q.1,x5.q.2.1,x5.q.2.2.1,x5.o.1,x5.o.2.1,x5.o.2.2.1,x5.o.2.2.2.1,x6.1,x5.o.q.2.1,x5.o.q.2.2.1,()))<|
 A.ret _ (x5.2.1,x5.2.2.1,x5.2.2.2.1,x5.q.1,x5.q.2.1,x5.q.2.2.1,x5.o.1,x5.o.2.1,x5.o.2.2.1,x5.o.2.2.2.1,x5.o.q.1,x5.o.q.2.1,x5.o.q.2.2.1,())) fun x6=>
 A.ret _ (x6.q.2.2.1,x6.q.2.2.2.1,x6.o.1,x6.o.2.1,x6.o.2.2.1,x6.o.2.2.2.1,x6.o.q.1,())) (x.2.1,x2.1,x.1,A.lit 0,A.lit 0,A.lit 0,A.lit 0,A.lit 0,A.lit 0,x0.1,x1.1,())
def Qr (A:Alg) (nA:Pt A gJ) (nC:Ft A gJ) (fJ:Pt A fH) (fK:Ft A fH) (x:Tup A.ah [.x .blk]):Ot A Ef:=
 A.l1 (.l .bool) (A.lst .bool []) fun x0=>
 A.cl nA nC (x.1,()) fun x1=>
 A.cond (A.aA x1.1) (A.ret _ (x0.1,()))<|
 A.l1 .i (A.lit 0) fun x2=>
 A.iter [.i,.x .blk,.l .bool] (fun x3=>
 A.cond (A.cmp .lss x3.1 (A.len .iop (A.fL .blk 2 .iop x3.2.1))) (A.bd .iop (A.fL .blk 2 .iop x3.2.1) x3.1<|
 A.l1 (.l .bool) (A.lst .bool [A.mkX .bool (A.cmp .geq (A.fI .iop 0 (A.get .iop (A.fL .blk 2 .iop x3.2.1) x3.1)) (A.lit 4),())]) fun x4=>
 A.chk (A.cmp .leq (A.addN (A.len .bool x3.2.2.1) (A.len .bool x4.1)) (A.lit 1073741824))<|
 A.l1 (.l .bool) (A.app .bool x3.2.2.1 x4.1) fun x5=>
 A.l1 .i (A.arith .add .i64 x3.1 (A.lit 1)) fun x6=>
 A.inl _ (x6.1,x3.2.1,x5.1,()))<|
 A.inr _<|A.bind [.x .blk,.l .bool] (A.cond (A.cmp .neq (A.fI .blk 3 x3.2.1) (A.lit 1)) (A.bd .bool x3.2.2.1 (A.fI .blk 4 x3.2.1)<|
 A.bd .bool x3.2.2.1 (A.fI .blk 4 x3.2.1)<|
 A.l1 .b (A.bl true) fun x4=>
 A.ret _ (x3.2.1,A.set .bool x3.2.2.1 (A.fI .blk 4 x3.2.1) (A.mkX .bool (x4.1,())),()))<|
 A.ret _ (x3.2.1,x3.2.2.1,())) fun x4=>
 A.bind [.x .blk,.l .bool] (A.cond (A.ak (A.cmp .eql (A.fI .blk 3 x4.1) (A.lit 3)) (A.bl true) (A.cmp .eql (A.fI .blk 3 x4.1) (A.lit 4))) (A.bd .bool x4.2.1 (A.fI .blk 5 x4.1)<|
 A.bd .bool x4.2.1 (A.fI .blk 5 x4.1)<|
 A.l1 .b (A.bl true) fun x5=>
 A.ret _ (x4.1,A.set .bool x4.2.1 (A.fI .blk 5 x4.1) (A.mkX .bool (x5.1,())),()))<|
 A.ret _ (x4.1,x4.2.1,())) fun x5=>
 A.l1 .i (A.arith .sub .i64 (A.len .iop (A.fL .blk 2 .iop x5.1)) (A.lit 1)) fun x6=>
 A.iter [.i,.x .blk,.l .bool] (fun x7=>
 A.cond (A.cmp .geq x7.1 (A.lit 0)) (A.jS [.i,.x .blk,.l .bool] (A.bd .iop (A.fL .blk 2 .iop x7.2.1) x7.1<|
 A.l1 (.x .iop) (A.get .iop (A.fL .blk 2 .iop x7.2.1) x7.1) fun x8=>
 A.bd .bool x7.2.2.1 x7.1<|
 A.bd .bool x7.2.2.1 x7.1<|
 A.cond (A.aA (A.fB .bool 0 (A.get .bool x7.2.2.1 x7.1))) (A.inl _ (x7.1,x7.2.1,x7.2.2.1,()))<|
 A.cl fJ fK (A.fI .iop 0 x8.1,A.lit 3,A.lit 5,()) fun x9=>
 A.bind [.i,.x .blk,.l .bool,.x .iop] (A.cond (A.ak (A.ak x9.1 (A.bl true) (A.cmp .eql (A.fI .iop 0 x8.1) (A.lit 7))) (A.bl true) (A.cmp .eql (A.fI .iop 0 x8.1) (A.lit 8))) (A.bd .bool x7.2.2.1 (A.fI .iop 1 x8.1)<|
 A.bd .bool x7.2.2.1 (A.fI .iop 1 x8.1)<|
 A.l1 .b (A.bl true) fun x10=>
 A.ret _ (x7.1,x7.2.1,A.set .bool x7.2.2.1 (A.fI .iop 1 x8.1) (A.mkX .bool (x10.1,())),x8.1,()))<|
 A.ret _ (x7.1,x7.2.1,x7.2.2.1,x8.1,())) fun x10=>
 A.bind [.i,.x .blk,.l .bool] (A.cond (A.ak (A.cmp .eql (A.fI .iop 0 x10.2.2.2.1) (A.lit 3)) (A.bl true) (A.cmp .eql (A.fI .iop 0 x10.2.2.2.1) (A.lit 5))) (A.bd .bool x10.2.2.1 (A.fI .iop 2 x10.2.2.2.1)<|
 A.bd .bool x10.2.2.1 (A.fI .iop 2 x10.2.2.2.1)<|
 A.l1 .b (A.bl true) fun x11=>
 A.ret _ (x10.1,x10.2.1,A.set .bool x10.2.2.1 (A.fI .iop 2 x10.2.2.2.1) (A.mkX .bool (x11.1,())),()))<|
 A.ret _ (x10.1,x10.2.1,x10.2.2.1,())) fun x11=>
 A.inl _ (x11.1,x11.2.1,x11.2.2.1,())) fun x8=>
 A.l1 .i (A.arith .sub .i64 x8.1 (A.lit 1)) fun x9=>
 A.inl _ (x9.1,x8.2.1,x8.2.2.1,()))<|
 A.inr _<|A.ret _ (x7.2.2.1,())) (x6.1,x5.1,x5.2.1,())) (x2.1,x.1,x0.1,())
def Qs (A:Alg) (nA:Pt A gJ) (nC:Ft A gJ) (aeK:Pt A Ef) (aeL:Ft A Ef) (Qt:Pt A uo) (Qu:Ft A uo) (x:Tup A.ah [.x .blk]):Ot A Eh:=
 A.cl nA nC (x.1,()) fun x0=>
 A.cond (A.aA x0.1) (A.ret _ (A.lit 0,A.lit 0,A.lit 0,A.lit 0,A.lit 0,A.lit 0,A.bP .iop,()))<|
 A.cl aeK aeL (x.1,()) fun x1=>
 A.cl Qt Qu (x.1,x1.1,()) fun x2=>
 A.ret _ (x2.1,x2.2.1,x2.2.2.1,x2.2.2.2.1,x2.q.1,x2.q.2.1,x2.q.2.2.1,())
def Qv (A:Alg) (x:Tup A.ah [.l .iop,.i]):Ot A Ei:=
 A.l1 .b (A.bl false) fun x0=>
 A.l1 .i (A.arith .add .i64 x.2.1 (A.lit 1)) fun x1=>
 A.iter [.l .iop,.i,.i] (fun x2=>
 A.cond (A.cmp .lss x2.2.2.1 (A.len .iop x2.1)) (A.bd .iop x2.1 x2.2.2.1<|
 A.chk (A.orB (A.aA (A.aA (A.cmp .eql (A.fI .iop 0 (A.get .iop x2.1 x2.2.2.1)) (A.lit 4)))) (A.cmp .leq (A.lit 0) x2.2.2.1))<|
 A.chk (A.orB (A.aA (A.aA (A.cmp .eql (A.fI .iop 0 (A.get .iop x2.1 x2.2.2.1)) (A.lit 4)))) (A.cmp .lss x2.2.2.1 (A.len .iop x2.1)))<|
 A.chk (A.orB (A.aA (A.aA (A.ak (A.cmp .eql (A.fI .iop 0 (A.get .iop x2.1 x2.2.2.1)) (A.lit 4)) (A.bl true) (A.cmp .eql (A.fI .iop 0 (A.get .iop x2.1 x2.2.2.1)) (A.lit 5))))) (A.cmp .leq (A.lit 0) x2.2.2.1))<|
 A.chk (A.orB (A.aA (A.aA (A.ak (A.cmp .eql (A.fI .iop 0 (A.get .iop x2.1 x2.2.2.1)) (A.lit 4)) (A.bl true) (A.cmp .eql (A.fI .iop 0 (A.get .iop x2.1 x2.2.2.1)) (A.lit 5))))) (A.cmp .lss x2.2.2.1 (A.len .iop x2.1)))<|
 A.chk (A.orB (A.aA (A.mQ (A.aA (A.ak (A.cmp .eql (A.fI .iop 0 (A.get .iop x2.1 x2.2.2.1)) (A.lit 4)) (A.bl true) (A.cmp .eql (A.fI .iop 0 (A.get .iop x2.1 x2.2.2.1)) (A.lit 5)))) (A.cmp .eql (A.fI .iop 0 (A.get .iop x2.1 x2.2.2.1)) (A.lit 2)))) (A.cmp .leq (A.lit 0) x2.2.2.1))<|
 A.chk (A.orB (A.aA (A.mQ (A.aA (A.ak (A.cmp .eql (A.fI .iop 0 (A.get .iop x2.1 x2.2.2.1)) (A.lit 4)) (A.bl true) (A.cmp .eql (A.fI .iop 0 (A.get .iop x2.1 x2.2.2.1)) (A.lit 5)))) (A.cmp .eql (A.fI .iop 0 (A.get .iop x2.1 x2.2.2.1)) (A.lit 2)))) (A.cmp .lss x2.2.2.1 (A.len .iop x2.1)))<|
 A.chk (A.orB (A.aA (A.mQ (A.aA (A.ak (A.cmp .eql (A.fI .iop 0 (A.get .iop x2.1 x2.2.2.1)) (A.lit 4)) (A.bl true) (A.cmp .eql (A.fI .iop 0 (A.get .iop x2.1 x2.2.2.1)) (A.lit 5)))) (A.cmp .eql (A.fI .iop 0 (A.get .iop x2.1 x2.2.2.1)) (A.lit 2)))) (A.cmp .leq (A.lit 0) x2.2.1))<|
 A.chk (A.orB (A.aA (A.mQ (A.aA (A.ak (A.cmp .eql (A.fI .iop 0 (A.get .iop x2.1 x2.2.2.1)) (A.lit 4)) (A.bl true) (A.cmp .eql (A.fI .iop 0 (A.get .iop x2.1 x2.2.2.1)) (A.lit 5)))) (A.cmp .eql (A.fI .iop 0 (A.get .iop x2.1 x2.2.2.1)) (A.lit 2)))) (A.cmp .lss x2.2.1 (A.len .iop x2.1)))<|
 A.cond (A.ak (A.ak (A.cmp .eql (A.fI .iop 0 (A.get .iop x2.1 x2.2.2.1)) (A.lit 4)) (A.bl true) (A.cmp .eql (A.fI .iop 0 (A.get .iop x2.1 x2.2.2.1)) (A.lit 5))) (A.bl true) (A.ak (A.cmp .eql (A.fI .iop 0 (A.get .iop x2.1 x2.2.2.1)) (A.lit 2)) (A.cmp .eql (A.fI .iop 3 (A.get .iop x2.1 x2.2.2.1)) (A.fI .iop 3 (A.get .iop x2.1 x2.2.1))) (A.bl false))) (A.l1 .b (A.bl false) fun x3=>
 A.inr _<|A.ret _ (x3.1,()))<|
 A.bd .iop x2.1 x2.2.2.1<|
 A.chk (A.orB (A.aA (A.cmp .eql (A.fI .iop 0 (A.get .iop x2.1 x2.2.2.1)) (A.lit 8))) (A.cmp .leq (A.lit 0) x2.2.2.1))<|
 A.chk (A.orB (A.aA (A.cmp .eql (A.fI .iop 0 (A.get .iop x2.1 x2.2.2.1)) (A.lit 8))) (A.cmp .lss x2.2.2.1 (A.len .iop x2.1)))<|
 A.chk (A.orB (A.aA (A.cmp .eql (A.fI .iop 0 (A.get .iop x2.1 x2.2.2.1)) (A.lit 8))) (A.cmp .leq (A.lit 0) x2.2.1))<|
 A.chk (A.orB (A.aA (A.cmp .eql (A.fI .iop 0 (A.get .iop x2.1 x2.2.2.1)) (A.lit 8))) (A.cmp .lss x2.2.1 (A.len .iop x2.1)))<|
 A.cond (A.ak (A.cmp .eql (A.fI .iop 0 (A.get .iop x2.1 x2.2.2.1)) (A.lit 8)) (A.cmp .eql (A.fI .iop 3 (A.get .iop x2.1 x2.2.2.1)) (A.fI .iop 3 (A.get .iop x2.1 x2.2.1))) (A.bl false)) (A.l1 .b (A.bl true) fun x3=>
 A.inr _<|A.ret _ (x3.1,()))<|
 A.l1 .i (A.arith .add .i64 x2.2.2.1 (A.lit 1)) fun x3=>
 A.inl _ (x2.1,x2.2.1,x3.1,()))<|
 A.inr _<|A.rb (A.bl false)) (x.1,x.2.1,x1.1,())
def Qw (A:Alg) (nA:Pt A gJ) (nC:Ft A gJ) (Qt:Pt A uo) (Qu:Ft A uo) (aeM:Pt A Ei) (aeN:Ft A Ei) (x:Tup A.ah [.x .blk]):Ot A Ej:=
 A.cl nA nC (x.1,()) fun x0=>
 A.cond (A.aA x0.1) (A.ret _ (A.lit 0,A.lit 0,A.lit 0,A.lit 0,A.lit 0,A.lit 0,A.bP .iop,()))<|
 A.l1 (.l .bool) (A.lst .bool []) fun x1=>
 A.l1 .i (A.lit 0) fun x2=>
 A.iter [.i,.x .blk,.i,.i,.i,.i,.i,.i,.l .bool] (fun x3=>
 A.cond (A.cmp .lss x3.1 (A.len .iop (A.fL .blk 2 .iop x3.2.1))) (A.bd .iop (A.fL .blk 2 .iop x3.2.1) x3.1<|
 A.cg (A.aA (A.cmp .neq (A.fI .iop 0 (A.get .iop (A.fL .blk 2 .iop x3.2.1) x3.1)) (A.lit 8))) aeM aeN (A.fL .blk 2 .iop x3.2.1,x3.1,()) fun x4=>
 A.l1 (.l .bool) (A.lst .bool [A.mkX .bool (A.ak (A.cmp .neq (A.fI .iop 0 (A.get .iop (A.fL .blk 2 .iop x3.2.1) x3.1)) (A.lit 8)) (A.bl true) (A.aA x4.1),())]) fun x5=>
 A.chk (A.cmp .leq (A.addN (A.len .bool x3.o.1) (A.len .bool x5.1)) (A.lit 1073741824))<|
 A.l1 (.l .bool) (A.app .bool x3.o.1 x5.1) fun x6=>
 A.l1 .i (A.arith .add .i64 x3.1 (A.lit 1)) fun x7=>
 A.inl _ (x7.1,x3.2.1,x3.2.2.1,x3.2.2.2.1,x3.q.1,x3.q.2.1,x3.q.2.2.1,x3.q.2.2.2.1,x6.1,()))<|
 A.inr _<|A.cl Qt Qu (x3.2.1,x3.o.1,()) fun x4=>
 A.ret _ (x4.1,x4.2.1,x4.2.2.1,x4.2.2.2.1,x4.q.1,x4.q.2.1,x4.q.2.2.1,())) (x2.1,x.1,A.lit 0,A.lit 0,A.lit 0,A.lit 0,A.lit 0,A.lit 0,x1.1,())
def Qx (A:Alg) (x:Tup A.ah [.l .iop,.i]):Ot A uw:=
 A.l1 .i (A.lit 0) fun x0=>
 A.l1 .b (A.bl false) fun x1=>
 A.chk (A.orB (A.aA (A.aA (A.ak (A.cmp .lss x.2.1 (A.lit 0)) (A.bl true) (A.cmp .geq x.2.1 (A.len .iop x.1))))) (A.cmp .leq (A.lit 0) x.2.1))<|
 A.chk (A.orB (A.aA (A.aA (A.ak (A.cmp .lss x.2.1 (A.lit 0)) (A.bl true) (A.cmp .geq x.2.1 (A.len .iop x.1))))) (A.cmp .lss x.2.1 (A.len .iop x.1)))<|
 A.cond (A.ak (A.ak (A.cmp .lss x.2.1 (A.lit 0)) (A.bl true) (A.cmp .geq x.2.1 (A.len .iop x.1))) (A.bl true) (A.cmp .neq (A.fI .iop 0 (A.get .iop x.1 x.2.1)) (A.lit 1))) (A.l1 .i (A.lit 0) fun x2=>
 A.l1 .b (A.bl false) fun x3=>
 A.ret _ (x2.1,x3.1,()))<|
 A.bd .iop x.1 x.2.1<|
 A.l1 .i (A.fI .iop 3 (A.get .iop x.1 x.2.1)) fun x2=>
 A.l1 .b (A.bl true) fun x3=>
 A.ret _ (x2.1,x3.1,())
def Qy (A:Alg) (x:Tup A.ah [.i]):Ot A El:=
 A.l1 .i (A.lit 0) fun x0=>
 A.chk (A.cmp .neq (A.lit 65536) (A.lit 0))<|
 A.l1 .i (A.arith .rem .i64 x.1 (A.lit 65536)) fun x1=>
 A.bind [.i] (A.cond (A.cmp .lss x1.1 (A.lit 0)) (A.l1 .i (A.arith .add .i64 x1.1 (A.lit 65536)) fun x2=>
 A.ret _ (x2.1,()))<|
 A.ret _ (x1.1,())) fun x2=>
 A.l1 .i x2.1 fun x3=>
 A.ret _ (x3.1,())
def Qz (A:Alg) (QA:Pt A El) (QB:Ft A El) (yF:Pt A mX) (yG:Ft A mX) (x:Tup A.ah [.i,.i,.i]):Ot A Em:=
 A.l1 .i (A.lit 0) fun x0=>
 A.cl yF yG (x.2.1,()) fun x1=>
 A.cg (A.aA (A.aA x1.1)) yF yG (x.2.2.1,()) fun x2=>
 A.cond (A.ak (A.aA x1.1) (A.bl true) (A.aA x2.1)) (A.l1 .i (A.lit 0) fun x3=>
 A.ret _ (x3.1,()))<|
 A.l1 .b (A.cmp .eql x.1 (A.lit 1)) fun x3=>
 A.cond x3.1 (A.cl QA QB (A.arith .add .i64 x.2.1 x.2.2.1,()) fun x4=>
 A.l1 .i x4.1 fun x5=>
 A.ret _ (x5.1,()))<|
 A.l1 .b (A.cmp .eql x.1 (A.lit 2)) fun x4=>
 A.cond x4.1 (A.cl QA QB (A.arith .sub .i64 x.2.1 x.2.2.1,()) fun x5=>
 A.l1 .i x5.1 fun x6=>
 A.ret _ (x6.1,()))<|
 A.l1 .b (A.cmp .eql x.1 (A.lit 3)) fun x5=>
 A.cond x5.1 (A.cl QA QB (A.arith .mul .i64 x.2.1 x.2.2.1,()) fun x6=>
 A.l1 .i x6.1 fun x7=>
 A.ret _ (x7.1,()))<|
 A.l1 .b (A.cmp .eql x.1 (A.lit 4)) fun x6=>
 A.cond x6.1 (A.l1 .i (A.arith .and .i64 x.2.1 x.2.2.1) fun x7=>
 A.ret _ (x7.1,()))<|
 A.l1 .b (A.cmp .eql x.1 (A.lit 5)) fun x7=>
 A.cond x7.1 (A.l1 .i (A.arith .xor .i64 x.2.1 x.2.2.1) fun x8=>
 A.ret _ (x8.1,()))<|
 A.l1 .i (A.lit 0) fun x8=>
 A.ret _ (x8.1,())
def QC (A:Alg) (x:Tup A.ah [.x .blk,.i]):Ot A En:=
 A.l1 .i (A.lit 1) fun x0=>
 A.l1 .i (A.lit 0) fun x1=>
 A.l1 .i (A.lit 0) fun x2=>
 A.l1 .i x.2.1 fun x3=>
 A.ret _ (A.fI .blk 0 x.1,A.fI .blk 1 x.1,A.fL .blk 2 .iop x.1,x0.1,x1.1,x2.1,x3.1,())
def QD (A:Alg) (QE:Pt A En) (QF:Ft A En) (FC:Pt A uw) (FD:Ft A uw) (x:Tup A.ah [.x .blk]):Ot A Eo:=
 A.cl FC FD (A.fL .blk 2 .iop x.1,A.fI .blk 4 x.1,()) fun x0=>
 A.l1 .i x0.1 fun x1=>
 A.l1 .b x0.2.1 fun x2=>
 A.cl FC FD (A.fL .blk 2 .iop x.1,A.fI .blk 5 x.1,()) fun x3=>
 A.l1 .i x3.1 fun x4=>
 A.l1 .b x3.2.1 fun x5=>
 A.l1 .b (A.ak (A.cmp .eql (A.fI .blk 3 x.1) (A.lit 2)) x2.1 (A.bl false)) fun x6=>
 A.cond x6.1 (A.cl QE QF (x.1,x1.1,()) fun x7=>
 A.ret _ (A.mkX .blk (x7.1,x7.2.1,x7.2.2.1,x7.2.2.2.1,x7.q.1,x7.q.2.1,x7.q.2.2.1,()),()))<|
 A.l1 .b (A.ak (A.ak (A.ak (A.cmp .eql (A.fI .blk 3 x.1) (A.lit 3)) x2.1 (A.bl false)) x5.1 (A.bl false)) (A.cmp .eql x1.1 x4.1) (A.bl false)) fun x7=>
 A.bind [.b,.b,.b,.x .blk,.i,.i,.i,.i,.i,.i] (A.cond x7.1 (A.ret _ (x2.1,x5.1,x7.1,x.1,A.lit 0,A.lit 0,A.lit 0,A.lit 0,A.lit 0,A.lit 0,()))<|
 A.l1 .b (A.ak (A.ak (A.ak (A.cmp .eql (A.fI .blk 3 x.1) (A.lit 4)) x2.1 (A.bl false)) x5.1 (A.bl false)) (A.cmp .lss x1.1 x4.1) (A.bl false)) fun x8=>
 A.ret _ (x2.1,x5.1,x8.1,x.1,A.lit 0,A.lit 0,A.lit 0,A.lit 0,A.lit 0,A.lit 0,())) fun x8=>
 A.cond x8.2.2.1 (A.cl QE QF (x8.2.2.2.1,A.fI .blk 6 x8.2.2.2.1,()) fun x9=>
 A.ret _ (A.mkX .blk (x9.1,x9.2.1,x9.2.2.1,x9.2.2.2.1,x9.q.1,x9.q.2.1,x9.q.2.2.1,()),()))<|
 A.l1 .b (A.ak (A.ak (A.ak (A.cmp .eql (A.fI .blk 3 x8.2.2.2.1) (A.lit 3)) (A.bl true) (A.cmp .eql (A.fI .blk 3 x8.2.2.2.1) (A.lit 4))) x8.1 (A.bl false)) x8.2.1 (A.bl false)) fun x9=>
 A.cond x9.1 (A.cl QE QF (x8.2.2.2.1,A.arith .add .i64 (A.fI .blk 0 x8.2.2.2.1) (A.fI .blk 1 x8.2.2.2.1),()) fun x10=>
 A.ret _ (A.mkX .blk (x10.1,x10.2.1,x10.2.2.1,x10.2.2.2.1,x10.q.1,x10.q.2.1,x10.q.2.2.1,()),()))<|
 A.l1 (.x .blk) x8.2.2.2.1 fun x10=>
 A.ret _ (x10.1,())
def QG (A:Alg) (nA:Pt A gJ) (nC:Ft A gJ) (aeO:Pt A Em) (aeP:Ft A Em) (aeQ:Pt A Eo) (aeR:Ft A Eo) (FC:Pt A uw) (FD:Ft A uw) (Fz:Pt A mY) (FB:Ft A mY) (x:Tup A.ah [.x .blk]):Ot A Ep:=
 A.cl nA nC (x.1,()) fun x0=>
 A.cond (A.aA x0.1) (A.ret _ (A.mkX .blk (A.lit 0,A.lit 0,A.bP .iop,A.lit 0,A.lit 0,A.lit 0,A.lit 0,()),()))<|
 A.cl Fz FB (x.1,()) fun x1=>
 A.l1 .i (A.lit 0) fun x2=>
 A.iter [.i,.i,.i,.i,.i,.i,.i,.i,.i,.i,.i,.i,.i,.l .iop] (fun x3=>
 A.cond (A.cmp .lss x3.1 (A.len .iop x3.o.q.2.1)) (A.bd .iop x3.o.q.2.1 x3.1<|
 A.bd .iop x3.o.q.2.1 x3.1<|
 A.l1 (.x .iop) (A.get .iop x3.o.q.2.1 x3.1) fun x4=>
 A.cl FC FD (x3.o.q.2.1,A.fI .iop 1 x4.1,()) fun x5=>
 A.l1 .i x5.1 fun x6=>
 A.l1 .b x5.2.1 fun x7=>
 A.cl FC FD (x3.o.q.2.1,A.fI .iop 2 x4.1,()) fun x8=>
 A.l1 .i x8.1 fun x9=>
 A.l1 .b x8.2.1 fun x10=>
 A.bind [.i,.i,.i,.i,.i,.i,.i,.i,.i,.i,.i,.i,.i,.l .iop] (A.cond (A.ak (A.ak (A.cmp .eql (A.fI .iop 0 x4.1) (A.lit 3)) x7.1 (A.bl false)) x10.1 (A.bl false)) (A.cl aeO aeP (A.fI .iop 3 x4.1,x6.1,x9.1,()) fun x11=>
 A.bd .iop x3.o.q.2.1 x3.1<|
 A.bd .iop x3.o.q.2.1 x3.1<|
 A.ret _ (x3.1,x3.2.1,x3.2.2.1,x3.2.2.2.1,x3.q.1,x3.q.2.1,x3.q.2.2.1,x3.q.2.2.2.1,x3.o.1,x3.o.2.1,x3.o.2.2.1,x3.o.2.2.2.1,x3.o.q.1,A.set .iop x3.o.q.2.1 x3.1 (A.mkX .iop (A.lit 1,A.lit 0,A.lit 0,x11.1,A.lit 0,())),()))<|
 A.ret _ (x3.1,x3.2.1,x3.2.2.1,x3.2.2.2.1,x3.q.1,x3.q.2.1,x3.q.2.2.1,x3.q.2.2.2.1,x3.o.1,x3.o.2.1,x3.o.2.2.1,x3.o.2.2.2.1,x3.o.q.1,x3.o.q.2.1,())) fun x11=>
 A.l1 .i (A.arith .add .i64 x11.1 (A.lit 1)) fun x12=>
 A.inl _ (x12.1,x11.2.1,x11.2.2.1,x11.2.2.2.1,x11.q.1,x11.q.2.1,x11.q.2.2.1,x11.q.2.2.2.1,x11.o.1,x11.o.2.1,x11.o.2.2.1,x11.o.2.2.2.1,x11.o.q.1,x11.o.q.2.1,()))<|
 A.inr _<|A.cl aeQ aeR (A.mkX .blk (x3.q.2.2.2.1,x3.o.1,x3.o.q.2.1,x3.o.2.1,x3.o.2.2.1,x3.o.2.2.2.1,x3.o.q.1,()),()) fun x4=>
 A.l1 (.x .blk) x4.1 fun x5=>
 A.ret _ (x5.1,())) (x2.1,A.lit 0,A.lit 0,A.lit 0,A.lit 0,A.lit 0,A.lit 0,x1.1,x1.2.1,x1.2.2.1,x1.2.2.2.1,x1.q.1,x1.q.2.1,x1.q.2.2.1,())
def QH (A:Alg) (aeS:Pt A Ep) (aeT:Ft A Ep) (FH:Pt A mZ) (FJ:Ft A mZ) (Xz:Pt A Eh) (XA:Ft A Eh) (aeU:Pt A Ej) (aeV:Ft A Ej) (x:Tup A.ah [.x .blk]):Ot A Er:=
 A.cl FH FJ (x.1,()) fun x0=>
 A.cl aeS aeT (A.mkX .blk (x0.1,x0.2.1,x0.q.2.2.1,x0.2.2.1,x0.2.2.2.1,x0.q.1,x0.q.2.1,()),()) fun x1=>
 A.cl Xz XA (x1.1,()) fun x2=>
 A.cl aeU aeV (A.mkX .blk (x2.1,x2.2.1,x2.q.2.2.1,x2.2.2.1,x2.2.2.2.1,x2.q.1,x2.q.2.1,()),()) fun x3=>
 A.cl Xz XA (A.mkX .blk (x3.1,x3.2.1,x3.q.2.2.1,x3.2.2.1,x3.2.2.2.1,x3.q.1,x3.q.2.1,()),()) fun x4=>
 A.ret _ (x4.1,x4.2.1,x4.2.2.1,x4.2.2.2.1,x4.q.1,x4.q.2.1,x4.q.2.2.1,())
def QI (A:Alg) (aV:Pt A dZ) (aW:Ft A dZ) (x:Tup A.ah [.l .u8,.i]):Ot A Es:=
 A.cl aV aW (A.lit 4,x.1,x.2.1,()) fun x0=>
 A.l1 .i x0.1 fun x1=>
 A.cl aV aW (A.lit 4,x0.2.1,x0.2.2.1,()) fun x2=>
 A.l1 .i x2.1 fun x3=>
 A.cl aV aW (A.lit 14,x2.2.1,x2.2.2.1,()) fun x4=>
 A.l1 .b (A.cmp .eql x4.1 (A.lit 0)) fun x5=>
 A.bind [.i,.i,.i,.b,.l .u8,.i,.i,.i,.i,.i] (A.cond x5.1 (A.ret _ (x1.1,x3.1,x4.1,x5.1,x4.2.1,x4.2.2.1,A.lit 0,A.lit 0,A.lit 0,A.lit 0,()))<|
 A.l1 .b (A.cmp .eql x4.1 (A.lit 1)) fun x6=>
 A.ret _ (x1.1,x3.1,x4.1,x6.1,x4.2.1,x4.2.2.1,A.lit 0,A.lit 0,A.lit 0,A.lit 0,())) fun x6=>
 A.cond x6.2.2.2.1 (A.cl aV aW (A.lit 64,x6.q.1,x6.q.2.1,()) fun x7=>
 A.cl aV aW (A.lit 256,x7.2.1,x7.2.2.1,()) fun x8=>
 A.l1 (.l .i64) (A.lst .i64 [A.mkX .i64 (A.lit 0,()),A.mkX .i64 (A.lit 1,()),A.mkX .i64 (A.lit 2,()),A.mkX .i64 (x7.1,()),A.mkX .i64 (x8.1,()),A.mkX .i64 (A.lit 255,())]) fun x9=>
 A.cl aV aW (A.lit 6,x8.2.1,x8.2.2.1,()) fun x10=>
 A.bd .i64 x9.1 x10.1<|
 A.bd .i64 x9.1 x10.1<|
 A.ret _ (A.lit 1,x6.1,A.lit 0,A.fI .i64 0 (A.get .i64 x9.1 x10.1),x10.2.1,x10.2.2.1,()))<|
 A.l1 .b (A.cmp .eql x6.2.2.1 (A.lit 2)) fun x7=>
 A.cond x7.1 (A.ret _ (A.lit 2,x6.1,x6.2.1,A.lit 0,x6.q.1,x6.q.2.1,()))<|
 A.l1 .b (A.cmp .eql x6.2.2.1 (A.lit 3)) fun x8=>
 A.bind [.i,.i,.i,.b,.l .u8,.i,.i,.i,.i,.i] (A.cond x8.1 (A.ret _ (x6.1,x6.2.1,x6.2.2.1,x8.1,x6.q.1,x6.q.2.1,x6.q.2.2.1,x6.q.2.2.2.1,x6.o.1,x6.o.2.1,()))<|
 A.l1 .b (A.cmp .eql x6.2.2.1 (A.lit 4)) fun x9=>
 A.bind [.i,.i,.i,.b,.l .u8,.i,.i,.i,.i,.i] (A.cond x9.1 (A.ret _ (x6.1,x6.2.1,x6.2.2.1,x9.1,x6.q.1,x6.q.2.1,x6.q.2.2.1,x6.q.2.2.2.1,x6.o.1,x6.o.2.1,()))<|
 A.l1 .b (A.cmp .eql x6.2.2.1 (A.lit 5)) fun x10=>
 A.ret _ (x6.1,x6.2.1,x6.2.2.1,x10.1,x6.q.1,x6.q.2.1,x6.q.2.2.1,x6.q.2.2.2.1,x6.o.1,x6.o.2.1,())) fun x10=>
 A.ret _ (x10.1,x10.2.1,x10.2.2.1,x10.2.2.2.1,x10.q.1,x10.q.2.1,x10.q.2.2.1,x10.q.2.2.2.1,x10.o.1,x10.o.2.1,())) fun x9=>
 A.cond x9.2.2.2.1 (A.cl aV aW (A.lit 5,x9.q.1,x9.q.2.1,()) fun x10=>
 A.cl aV aW (A.lit 4,x10.2.1,x10.2.2.1,()) fun x11=>
 A.ret _ (A.arith .add .i64 (A.lit 3) x10.1,x9.1,x9.2.1,x11.1,x11.2.1,x11.2.2.1,()))<|
 A.l1 .b (A.cmp .eql x9.2.2.1 (A.lit 6)) fun x10=>
 A.cond x10.1 (A.cl aV aW (A.lit 16,x9.q.1,x9.q.2.1,()) fun x11=>
 A.l1 (.l .i64) (A.lst .i64 [A.mkX .i64 (A.lit 0,()),A.mkX .i64 (A.lit 1,()),A.mkX .i64 (A.lit 8,()),A.mkX .i64 (A.lit 15,()),A.mkX .i64 (x11.1,())]) fun x12=>
 A.cl aV aW (A.lit 5,x11.2.1,x11.2.2.1,()) fun x13=>
 A.bd .i64 x12.1 x13.1<|
 A.bd .i64 x12.1 x13.1<|
 A.ret _ (A.lit 8,x9.1,x9.2.1,A.fI .i64 0 (A.get .i64 x12.1 x13.1),x13.2.1,x13.2.2.1,()))<|
 A.l1 .b (A.cmp .eql x9.2.2.1 (A.lit 7)) fun x11=>
 A.bind [.i,.i,.i,.b,.l .u8,.i,.i,.i,.i,.i] (A.cond x11.1 (A.ret _ (x9.1,x9.2.1,x9.2.2.1,x11.1,x9.q.1,x9.q.2.1,x9.q.2.2.1,x9.q.2.2.2.1,x9.o.1,x9.o.2.1,()))<|
 A.l1 .b (A.cmp .eql x9.2.2.1 (A.lit 8)) fun x12=>
 A.ret _ (x9.1,x9.2.1,x9.2.2.1,x12.1,x9.q.1,x9.q.2.1,x9.q.2.2.1,x9.q.2.2.2.1,x9.o.1,x9.o.2.1,())) fun x12=>
 A.cond x12.2.2.2.1 (A.cl aV aW (A.lit 2,x12.q.1,x12.q.2.1,()) fun x13=>
 A.cl aV aW (A.lit 64,x13.2.1,x13.2.2.1,()) fun x14=>
 A.l1 (.l .i64) (A.lst .i64 [A.mkX .i64 (A.lit 0,()),A.mkX .i64 (A.lit 1,()),A.mkX .i64 (x14.1,()),A.mkX .i64 (A.lit 63,()),A.mkX .i64 (A.lit 64,()),A.mkX .i64 (A.lit 255,())]) fun x15=>
 A.cl aV aW (A.lit 6,x14.2.1,x14.2.2.1,()) fun x16=>
 A.bd .i64 x15.1 x16.1<|
 A.bd .i64 x15.1 x16.1<|
 A.ret _ (A.arith .add .i64 (A.lit 9) x13.1,x12.1,x12.2.1,A.fI .i64 0 (A.get .i64 x15.1 x16.1),x16.2.1,x16.2.2.1,()))<|
 A.l1 .b (A.cmp .eql x12.2.2.1 (A.lit 9)) fun x13=>
 A.cond x13.1 (A.cl aV aW (A.lit 2,x12.q.1,x12.q.2.1,()) fun x14=>
 A.cl aV aW (A.lit 20,x14.2.1,x14.2.2.1,()) fun x15=>
 A.cl aV aW (A.lit 64,x15.2.1,x15.2.2.1,()) fun x16=>
 A.l1 (.l .i64) (A.lst .i64 [A.mkX .i64 (x15.1,()),A.mkX .i64 (x16.1,()),A.mkX .i64 (A.lit 200,())]) fun x17=>
 A.cl aV aW (A.lit 3,x16.2.1,x16.2.2.1,()) fun x18=>
 A.bd .i64 x17.1 x18.1<|
 A.bd .i64 x17.1 x18.1<|
 A.ret _ (A.arith .add .i64 (A.lit 11) x14.1,x12.1,x12.2.1,A.fI .i64 0 (A.get .i64 x17.1 x18.1),x18.2.1,x18.2.2.1,()))<|
 A.l1 .b (A.cmp .eql x12.2.2.1 (A.lit 10)) fun x14=>
 A.cond x14.1 (A.cl aV aW (A.lit 2,x12.q.1,x12.q.2.1,()) fun x15=>
 A.ret _ (A.arith .add .i64 (A.lit 14) x15.1,x12.1,A.lit 0,A.lit 0,x15.2.1,x15.2.2.1,()))<|
 A.l1 .b (A.cmp .eql x12.2.2.1 (A.lit 11)) fun x15=>
 A.cond x15.1 (A.cl aV aW (A.lit 4,x12.q.1,x12.q.2.1,()) fun x16=>
 A.ret _ (A.lit 0,A.lit 0,A.lit 0,x16.1,x16.2.1,x16.2.2.1,()))<|
 A.l1 .b (A.cmp .eql x12.2.2.1 (A.lit 12)) fun x16=>
 A.cond x16.1 (A.ret _ (A.lit 13,A.lit 0,x12.2.1,A.lit 0,x12.q.1,x12.q.2.1,()))<|
 A.ret _ (A.lit 14,x12.1,A.lit 0,A.lit 0,x12.q.1,x12.q.2.1,())
def QJ (A:Alg) (x:Tup A.ah [.x .ins]):Ot A Eu:=
 A.l1 .b (A.bl false) fun x0=>
 A.l1 .b (A.cmp .eql (A.fI .ins 0 x.1) (A.lit 0)) fun x1=>
 A.cond x1.1 (A.rb (A.ak (A.ak (A.cmp .eql (A.fI .ins 1 x.1) (A.lit 0)) (A.cmp .eql (A.fI .ins 2 x.1) (A.lit 0)) (A.bl false)) (A.cmp .leq (A.fI .ins 3 x.1) (A.lit 3)) (A.bl false)))<|
 A.l1 .b (A.cmp .eql (A.fI .ins 0 x.1) (A.lit 1)) fun x2=>
 A.cond x2.1 (A.rb (A.cmp .eql (A.fI .ins 2 x.1) (A.lit 0)))<|
 A.l1 .b (A.cmp .eql (A.fI .ins 0 x.1) (A.lit 2)) fun x3=>
 A.cond x3.1 (A.rb (A.cmp .eql (A.fI .ins 3 x.1) (A.lit 0)))<|
 A.l1 .b (A.cmp .eql (A.fI .ins 0 x.1) (A.lit 3)) fun x4=>
 A.bind [.i,.b,.x .ins] (A.cond x4.1 (A.ret _ (A.fI .ins 0 x.1,x4.1,x.1,()))<|
 A.l1 .b (A.cmp .eql (A.fI .ins 0 x.1) (A.lit 4)) fun x5=>
 A.bind [.i,.b,.x .ins] (A.cond x5.1 (A.ret _ (A.fI .ins 0 x.1,x5.1,x.1,()))<|
 A.l1 .b (A.cmp .eql (A.fI .ins 0 x.1) (A.lit 5)) fun x6=>
 A.bind [.i,.b,.x .ins] (A.cond x6.1 (A.ret _ (A.fI .ins 0 x.1,x6.1,x.1,()))<|
 A.l1 .b (A.cmp .eql (A.fI .ins 0 x.1) (A.lit 6)) fun x7=>
 A.bind [.i,.b,.x .ins] (A.cond x7.1 (A.ret _ (A.fI .ins 0 x.1,x7.1,x.1,()))<|
 A.l1 .b (A.cmp .eql (A.fI .ins 0 x.1) (A.lit 7)) fun x8=>
 A.ret _ (A.fI .ins 0 x.1,x8.1,x.1,())) fun x8=>
 A.ret _ (x8.1,x8.2.1,x8.2.2.1,())) fun x7=>
 A.ret _ (x7.1,x7.2.1,x7.2.2.1,())) fun x6=>
 A.ret _ (x6.1,x6.2.1,x6.2.2.1,())) fun x5=>
 A.cond x5.2.1 (A.rb (A.cmp .lss (A.fI .ins 3 x5.2.2.1) (A.lit 4)))<|
 A.l1 .b (A.cmp .eql x5.1 (A.lit 8)) fun x6=>
 A.cond x6.1 (A.rb (A.cmp .lss (A.fI .ins 3 x5.2.2.1) (A.lit 16)))<|
 A.l1 .b (A.cmp .eql x5.1 (A.lit 13)) fun x7=>
 A.cond x7.1 (A.rb (A.ak (A.cmp .eql (A.fI .ins 1 x5.2.2.1) (A.lit 0)) (A.cmp .eql (A.fI .ins 3 x5.2.2.1) (A.lit 0)) (A.bl false)))<|
 A.l1 .b (A.cmp .eql x5.1 (A.lit 14)) fun x8=>
 A.bind [.b,.x .ins] (A.cond x8.1 (A.ret _ (x8.1,x5.2.2.1,()))<|
 A.l1 .b (A.cmp .eql x5.1 (A.lit 15)) fun x9=>
 A.ret _ (x9.1,x5.2.2.1,())) fun x9=>
 A.cond x9.1 (A.rb (A.ak (A.cmp .eql (A.fI .ins 2 x9.2.1) (A.lit 0)) (A.cmp .eql (A.fI .ins 3 x9.2.1) (A.lit 0)) (A.bl false)))<|
 A.rb (A.bl true)
def QK (A:Alg) (fJ:Pt A fH) (fK:Ft A fH) (aeW:Pt A Eu) (aeX:Ft A Eu) (x:Tup A.ah [.x .ins]):Ot A uz:=
 A.l1 .b (A.bl false) fun x0=>
 A.cl fJ fK (A.fI .ins 0 x.1,A.lit 0,A.lit 15,()) fun x1=>
 A.cg x1.1 fJ fK (A.fI .ins 1 x.1,A.lit 0,A.lit 3,()) fun x2=>
 A.cg (A.ak x1.1 x2.1 (A.bl false)) fJ fK (A.fI .ins 2 x.1,A.lit 0,A.lit 3,()) fun x3=>
 A.cg (A.ak (A.ak x1.1 x2.1 (A.bl false)) x3.1 (A.bl false)) fJ fK (A.fI .ins 3 x.1,A.lit 0,A.lit 255,()) fun x4=>
 A.cg (A.ak (A.ak (A.ak x1.1 x2.1 (A.bl false)) x3.1 (A.bl false)) x4.1 (A.bl false)) aeW aeX (x.1,()) fun x5=>
 A.rb (A.ak (A.ak (A.ak (A.ak x1.1 x2.1 (A.bl false)) x3.1 (A.bl false)) x4.1 (A.bl false)) x5.1 (A.bl false))
def QL (A:Alg) (x:Tup A.ah [.i]):Ot A uD:=
 A.l1 .b (A.bl false) fun x0=>
 A.rb (A.ak (A.ak (A.cmp .eql x.1 (A.lit 11)) (A.bl true) (A.cmp .eql x.1 (A.lit 12))) (A.bl true) (A.cmp .eql x.1 (A.lit 13)))
def QM (A:Alg) (QN:Pt A uD) (QO:Ft A uD) (QS:Pt A uz) (QT:Ft A uz) (x:Tup A.ah [.x .ins]):Ot A uE:=
 A.l1 .b (A.bl false) fun x0=>
 A.cl QS QT (x.1,()) fun x1=>
 A.cg (A.ak x1.1 (A.cmp .neq (A.fI .ins 0 x.1) (A.lit 0)) (A.bl false)) QN QO (A.fI .ins 0 x.1,()) fun x2=>
 A.rb (A.ak (A.ak x1.1 (A.cmp .neq (A.fI .ins 0 x.1) (A.lit 0)) (A.bl false)) (A.aA x2.1) (A.bl false))
def QU (A:Alg) (aeY:Pt A Es) (aeZ:Ft A Es) (aV:Pt A dZ) (aW:Ft A dZ) (QV:Pt A uE) (QW:Ft A uE) (x:Tup A.ah [.l .u8,.i]):Ot A Ew:=
 A.cl aeY aeZ (x.1,x.2.1,()) fun x0=>
 A.cl QV QW (A.mkX .ins (x0.1,x0.2.1,x0.2.2.1,x0.2.2.2.1,()),()) fun x1=>
 A.cond (A.aA x1.1) (A.cl aV aW (A.lit 4,x0.q.1,x0.q.2.1,()) fun x2=>
 A.ret _ (A.lit 3,x0.2.1,x0.2.2.1,x2.1,x2.2.1,x2.2.2.1,()))<|
 A.ret _ (x0.1,x0.2.1,x0.2.2.1,x0.2.2.2.1,x0.q.1,x0.q.2.1,())
def QX (A:Alg) (XB:Pt A Ew) (XC:Ft A Ew) (aV:Pt A dZ) (aW:Ft A dZ) (x:Tup A.ah [.l .u8,.i]):Ot A Ey:=
 A.l1 (.l .ins) (A.lst .ins []) fun x0=>
 A.cl aV aW (A.lit 8,x.1,x.2.1,()) fun x1=>
 A.l1 .i x1.1 fun x2=>
 A.iter [.i,.l .u8,.i,.l .ins] (fun x3=>
 A.cond (A.cmp .gtr x3.1 (A.lit 0)) (A.cl XB XC (x3.2.1,x3.2.2.1,()) fun x4=>
 A.l1 (.l .ins) (A.lst .ins [A.mkX .ins (x4.1,x4.2.1,x4.2.2.1,x4.2.2.2.1,())]) fun x5=>
 A.chk (A.cmp .leq (A.addN (A.len .ins x3.2.2.2.1) (A.len .ins x5.1)) (A.lit 1073741824))<|
 A.l1 (.l .ins) (A.app .ins x3.2.2.2.1 x5.1) fun x6=>
 A.l1 .i (A.arith .sub .i64 x3.1 (A.lit 1)) fun x7=>
 A.inl _ (x7.1,x4.q.1,x4.q.2.1,x6.1,()))<|
 A.inr _<|A.cl aV aW (A.lit 3,x3.2.1,x3.2.2.1,()) fun x4=>
 A.l1 .b (A.cmp .eql x4.1 (A.lit 0)) fun x5=>
 A.cond x5.1 (A.cl aV aW (A.lit 2,x4.2.1,x4.2.2.1,()) fun x6=>
 A.cl aV aW (A.lit 4,x6.2.1,x6.2.2.1,()) fun x7=>
 A.cl aV aW (A.lit 4,x7.2.1,x7.2.2.1,()) fun x8=>
 A.cl aV aW (A.lit 64,x8.2.1,x8.2.2.1,()) fun x9=>
 A.l1 (.l .ins) (A.lst .ins [A.mkX .ins (A.arith .add .i64 (A.lit 11) x6.1,x7.1,x8.1,x9.1,())]) fun x10=>
 A.chk (A.cmp .leq (A.addN (A.len .ins x3.2.2.2.1) (A.len .ins x10.1)) (A.lit 1073741824))<|
 A.l1 (.l .ins) (A.app .ins x3.2.2.2.1 x10.1) fun x11=>
 A.ret _ (x9.2.1,x9.2.2.1,x11.1,()))<|
 A.l1 .b (A.cmp .eql x4.1 (A.lit 1)) fun x6=>
 A.cond x6.1 (A.cl aV aW (A.lit 4,x4.2.1,x4.2.2.1,()) fun x7=>
 A.l1 (.l .ins) (A.lst .ins [A.mkX .ins (A.lit 13,A.lit 0,x7.1,A.lit 0,())]) fun x8=>
 A.chk (A.cmp .leq (A.addN (A.len .ins x3.2.2.2.1) (A.len .ins x8.1)) (A.lit 1073741824))<|
 A.l1 (.l .ins) (A.app .ins x3.2.2.2.1 x8.1) fun x9=>
 A.ret _ (x7.2.1,x7.2.2.1,x9.1,()))<|
 A.cl XB XC (x4.2.1,x4.2.2.1,()) fun x7=>
 A.l1 (.l .ins) (A.lst .ins [A.mkX .ins (x7.1,x7.2.1,x7.2.2.1,x7.2.2.2.1,())]) fun x8=>
 A.chk (A.cmp .leq (A.addN (A.len .ins x3.2.2.2.1) (A.len .ins x8.1)) (A.lit 1073741824))<|
 A.l1 (.l .ins) (A.app .ins x3.2.2.2.1 x8.1) fun x9=>
 A.ret _ (x7.q.1,x7.q.2.1,x9.1,())) (x2.1,x1.2.1,x1.2.2.1,x0.1,())
def QY (A:Alg) (QN:Pt A uD) (QO:Ft A uD) (QS:Pt A uz) (QT:Ft A uz) (fJ:Pt A fH) (fK:Ft A fH) (QV:Pt A uE) (QW:Ft A uE) (x:Tup A.ah [.i,.l .ins]):Ot A Ez:=
 A.l1 .b (A.bl false) fun x0=>
 A.cl fJ fK (A.len .ins x.2.1,A.lit 1,A.lit 8,()) fun x1=>
 A.cg (A.aA (A.aA x1.1)) fJ fK (x.1,A.lit 0,A.arith .sub .i64 (A.lit 64) (A.len .ins x.2.1),()) fun x2=>
 A.cond (A.ak (A.aA x1.1) (A.bl true) (A.aA x2.1)) (A.rb (A.bl false))<|
 A.l1 .i (A.lit 0) fun x3=>
 A.iter [.l .ins,.i] (fun x4=>
 A.cond (A.cmp .lss x4.2.1 (A.len .ins x4.1)) (A.bd .ins x4.1 x4.2.1<|
 A.cl QV QW (A.get .ins x4.1 x4.2.1,()) fun x5=>
 A.chk (A.orB (A.aA (A.mQ (A.aA x5.1) (A.aA (A.cmp .lss x4.2.1 (A.arith .sub .i64 (A.len .ins x4.1) (A.lit 1)))))) (A.cmp .leq (A.lit 0) x4.2.1))<|
 A.chk (A.orB (A.aA (A.mQ (A.aA x5.1) (A.aA (A.cmp .lss x4.2.1 (A.arith .sub .i64 (A.len .ins x4.1) (A.lit 1)))))) (A.cmp .lss x4.2.1 (A.len .ins x4.1)))<|
 A.cg (A.mQ (A.aA x5.1) (A.aA (A.cmp .lss x4.2.1 (A.arith .sub .i64 (A.len .ins x4.1) (A.lit 1))))) QS QT (A.get .ins x4.1 x4.2.1,()) fun x6=>
 A.chk (A.orB (A.aA (A.mQ (A.aA x5.1) (A.aA (A.ak (A.cmp .lss x4.2.1 (A.arith .sub .i64 (A.len .ins x4.1) (A.lit 1))) (A.bl true) (A.aA x6.1))))) (A.cmp .leq (A.lit 0) x4.2.1))<|
 A.chk (A.orB (A.aA (A.mQ (A.aA x5.1) (A.aA (A.ak (A.cmp .lss x4.2.1 (A.arith .sub .i64 (A.len .ins x4.1) (A.lit 1))) (A.bl true) (A.aA x6.1))))) (A.cmp .lss x4.2.1 (A.len .ins x4.1)))<|
 A.cg (A.mQ (A.aA x5.1) (A.aA (A.ak (A.cmp .lss x4.2.1 (A.arith .sub .i64 (A.len .ins x4.1) (A.lit 1))) (A.bl true) (A.aA x6.1)))) QN QO (A.fI .ins 0 (A.get .ins x4.1 x4.2.1),()) fun x7=>
 A.cond (A.ak (A.aA x5.1) (A.ak (A.ak (A.cmp .lss x4.2.1 (A.arith .sub .i64 (A.len .ins x4.1) (A.lit 1))) (A.bl true) (A.aA x6.1)) (A.bl true) (A.aA x7.1)) (A.bl false)) (A.l1 .b (A.bl false) fun x8=>
 A.inr _<|A.ret _ (x8.1,()))<|
 A.l1 .i (A.arith .add .i64 x4.2.1 (A.lit 1)) fun x8=>
 A.inl _ (x4.1,x8.1,()))<|
 A.inr _<|A.rb (A.bl true)) (x.2.1,x3.1,())
def QZ (A:Alg) (x:Tup A.ah [.i,.i,.i,.i,.i,.i,.x .iop,.l .iop]):Ot A iF:=
 A.l1 .i (A.lit 0) fun x0=>
 A.l1 (.l .iop) (A.lst .iop [x.q.2.2.1]) fun x1=>
 A.chk (A.cmp .leq (A.addN (A.len .iop x.q.2.2.2.1) (A.len .iop x1.1)) (A.lit 1073741824))<|
 A.l1 (.l .iop) (A.app .iop x.q.2.2.2.1 x1.1) fun x2=>
 A.l1 .i (A.arith .sub .i64 (A.len .iop x2.1) (A.lit 1)) fun x3=>
 A.ret _ (x.1,x.2.1,x.2.2.1,x.2.2.2.1,x.q.1,x.q.2.1,x3.1,x2.1,())
def Q0 (A:Alg) (kg:Pt A iF) (ko:Ft A iF) (x:Tup A.ah [.i,.i,.i,.i,.i,.i,.i,.i,.l .iop]):Ot A uF:=
 A.cl kg ko (x.1,x.2.1,x.2.2.1,x.2.2.2.1,x.q.1,x.q.2.1,A.mkX .iop (A.lit 8,x.q.2.2.2.1,A.lit 0,x.q.2.2.1,A.lit 0,()),x.o.1,()) fun x0=>
 A.l1 .i x0.q.2.2.1 fun x1=>
 A.ret _ (x0.1,x0.2.1,x0.2.2.1,x0.2.2.2.1,x0.q.1,x0.q.2.1,x0.q.2.2.2.1,())
def Q5 (A:Alg) (kg:Pt A iF) (ko:Ft A iF) (x:Tup A.ah [.i,.i,.i,.i,.i,.i,.i,.l .iop]):Ot A jL:=
 A.l1 .i (A.lit 0) fun x0=>
 A.cl kg ko (x.1,x.2.1,x.2.2.1,x.2.2.2.1,x.q.1,x.q.2.1,A.mkX .iop (A.lit 2,A.lit 0,A.lit 0,x.q.2.2.1,A.lit 0,()),x.q.2.2.2.1,()) fun x1=>
 A.l1 .i x1.q.2.2.1 fun x2=>
 A.ret _ (x1.1,x1.2.1,x1.2.2.1,x1.2.2.2.1,x1.q.1,x1.q.2.1,x2.1,x1.q.2.2.2.1,())
def Q6 (A:Alg) (pq:Pt A jL) (pz:Ft A jL) (kg:Pt A iF) (ko:Ft A iF) (x:Tup A.ah [.i,.i,.i,.i,.i,.i,.i,.i,.x .iop,.l .iop]):Ot A uG:=
 A.l1 .i (A.lit 0) fun x0=>
 A.cl pq pz (x.1,x.2.1,x.2.2.1,x.2.2.2.1,x.q.1,x.q.2.1,x.q.2.2.2.1,x.o.2.1,()) fun x1=>
 A.l1 .i x1.q.2.2.1 fun x2=>
 A.cl kg ko (x1.1,x1.2.1,x1.2.2.1,x1.2.2.2.1,x1.q.1,x1.q.2.1,x.o.1,x1.q.2.2.2.1,()) fun x3=>
 A.l1 .i x3.q.2.2.1 fun x4=>
 A.cl kg ko (x3.1,x3.2.1,x3.2.2.1,x3.2.2.2.1,x3.q.1,x3.q.2.1,A.mkX .iop (A.lit 3,x2.1,x4.1,x.q.2.2.1,A.lit 0,()),x3.q.2.2.2.1,()) fun x5=>
 A.l1 .i x5.q.2.2.1 fun x6=>
 A.ret _ (x5.1,x5.2.1,x5.2.2.1,x5.2.2.2.1,x5.q.1,x5.q.2.1,x6.1,x5.q.2.2.2.1,())
def Q7 (A:Alg) (x:Tup A.ah [.i]):Ot A EA:=
 A.l1 .i (A.lit 0) fun x0=>
 A.l1 .i (A.lit 1) fun x1=>
 A.l1 .i (A.lit 0) fun x2=>
 A.iter [.i,.i,.i] (fun x3=>
 A.cond (A.cmp .lss x3.2.2.1 x3.1) (A.l1 .i (A.arith .add .i64 x3.2.1 x3.2.1) fun x4=>
 A.l1 .i (A.arith .add .i64 x3.2.2.1 (A.lit 1)) fun x5=>
 A.inl _ (x3.1,x4.1,x5.1,()))<|
 A.inr _<|A.l1 .i x3.2.1 fun x4=>
 A.ret _ (x4.1,())) (x.1,x1.1,x2.1,())
def Q8 (A:Alg) (pq:Pt A jL) (pz:Ft A jL) (kg:Pt A iF) (ko:Ft A iF) (Ko:Pt A uG) (Kq:Ft A uG) (yH:Pt A uF) (yI:Ft A uF) (x:Tup A.ah [.i,.i,.i,.i,.i,.i,.x .ins,.i,.l .iop]):Ot A EB:=
 A.cl Ko Kq (x.1,x.2.1,x.2.2.1,x.2.2.2.1,x.q.1,x.q.2.1,A.lit 1,A.fI .ins 2 x.q.2.2.1,A.mkX .iop (A.lit 1,A.lit 0,A.lit 0,A.fI .ins 3 x.q.2.2.1,A.lit 0,()),x.o.1,()) fun x0=>
 A.l1 .i x0.q.2.2.1 fun x1=>
 A.cond (A.cmp .eql (A.fI .ins 0 x.q.2.2.1) (A.lit 9)) (A.cl kg ko (x0.1,x0.2.1,x0.2.2.1,x0.2.2.2.1,x0.q.1,x0.q.2.1,A.mkX .iop (A.lit 4,x1.1,A.lit 0,A.lit 0,x.q.2.2.2.1,()),x0.q.2.2.2.1,()) fun x2=>
 A.l1 .i x2.q.2.2.1 fun x3=>
 A.cl yH yI (x2.1,x2.2.1,x2.2.2.1,x2.2.2.2.1,x2.q.1,x2.q.2.1,A.fI .ins 1 x.q.2.2.1,x3.1,x2.q.2.2.2.1,()) fun x4=>
 A.ret _ (x4.1,x4.2.1,x4.2.2.1,x4.2.2.2.1,x4.q.1,x4.q.2.1,x4.q.2.2.1,()))<|
 A.cl pq pz (x0.1,x0.2.1,x0.2.2.1,x0.2.2.2.1,x0.q.1,x0.q.2.1,A.fI .ins 1 x.q.2.2.1,x0.q.2.2.2.1,()) fun x2=>
 A.l1 .i x2.q.2.2.1 fun x3=>
 A.cl kg ko (x2.1,x2.2.1,x2.2.2.1,x2.2.2.2.1,x2.q.1,x2.q.2.1,A.mkX .iop (A.lit 5,x1.1,x3.1,A.lit 0,x.q.2.2.2.1,()),x2.q.2.2.2.1,()) fun x4=>
 A.l1 .i x4.q.2.2.1 fun x5=>
 A.ret _ (x4.1,x4.2.1,x4.2.2.1,x4.2.2.2.1,x4.q.1,x4.q.2.1,x4.q.2.2.2.1,())
def Q9 (A:Alg) (pq:Pt A jL) (pz:Ft A jL) (x:Tup A.ah [.i,.i,.i,.i,.i,.i,.x .ins,.l .iop]):Ot A EC:=
 A.cond (A.cmp .eql (A.fI .ins 0 x.q.2.2.1) (A.lit 13)) (A.cl pq pz (x.1,x.2.1,x.2.2.1,x.2.2.2.1,x.q.1,x.q.2.1,A.fI .ins 2 x.q.2.2.1,x.q.2.2.2.1,()) fun x0=>
 A.l1 .i x0.q.2.2.1 fun x1=>
 A.l1 .i (A.lit 2) fun x2=>
 A.l1 .i x1.1 fun x3=>
 A.l1 .i (A.lit 0) fun x4=>
 A.ret _ (x0.1,x0.2.1,x2.1,x3.1,x0.q.1,x4.1,x0.q.2.2.2.1,()))<|
 A.cl pq pz (x.1,x.2.1,x.2.2.1,x.2.2.2.1,x.q.1,x.q.2.1,A.fI .ins 1 x.q.2.2.1,x.q.2.2.2.1,()) fun x0=>
 A.l1 .i x0.q.2.2.1 fun x1=>
 A.cl pq pz (x0.1,x0.2.1,x0.2.2.1,x0.2.2.2.1,x0.q.1,x0.q.2.1,A.fI .ins 2 x.q.2.2.1,x0.q.2.2.2.1,()) fun x2=>
 A.l1 .i x2.q.2.2.1 fun x3=>
 A.l1 .i (A.lit 3) fun x4=>
 A.bind [.i,.i,.x .ins,.i,.i,.i,.i,.i,.i,.i,.i,.i,.i,.i,.i,.l .iop] (A.cond (A.cmp .eql (A.fI .ins 0 x.q.2.2.1) (A.lit 12)) (A.l1 .i (A.lit 4) fun x5=>
 A.ret _ (x1.1,x3.1,x.q.2.2.1,A.lit 0,A.lit 0,A.lit 0,A.lit 0,A.lit 0,A.lit 0,x2.1,x2.2.1,x5.1,x2.2.2.2.1,x2.q.1,x2.q.2.1,x2.q.2.2.2.1,()))<|
 A.ret _ (x1.1,x3.1,x.q.2.2.1,A.lit 0,A.lit 0,A.lit 0,A.lit 0,A.lit 0,A.lit 0,x2.1,x2.2.1,x4.1,x2.2.2.2.1,x2.q.1,x2.q.2.1,x2.q.2.2.2.1,())) fun x5=>
 A.l1 .i x5.1 fun x6=>
 A.l1 .i x5.2.1 fun x7=>
 A.l1 .i (A.fI .ins 3 x5.2.2.1) fun x8=>
 A.ret _ (x5.o.2.1,x5.o.2.2.1,x5.o.2.2.2.1,x6.1,x7.1,x8.1,x5.o.q.2.2.2.1,())
def Ra (A:Alg) (pq:Pt A jL) (pz:Ft A jL) (ae0:Pt A EC) (ae1:Ft A EC) (kg:Pt A iF) (ko:Ft A iF) (ae2:Pt A EB) (ae3:Ft A EB) (Ko:Pt A uG) (Kq:Ft A uG) (yH:Pt A uF) (yI:Ft A uF) (ae4:Pt A EA) (ae5:Ft A EA) (x:Tup A.ah [.i,.i,.i,.i,.i,.i,.x .ins,.i,.l .iop]):Ot A ED:=
 A.l1 .b (A.cmp .eql (A.fI .ins 0 x.q.2.2.1) (A.lit 1)) fun x0=>
 A.cond x0.1 (A.cl kg ko (x.1,x.2.1,x.2.2.1,x.2.2.2.1,x.q.1,x.q.2.1,A.mkX .iop (A.lit 1,A.lit 0,A.lit 0,A.fI .ins 3 x.q.2.2.1,A.lit 0,()),x.o.1,()) fun x1=>
 A.l1 .i x1.q.2.2.1 fun x2=>
 A.cl yH yI (x1.1,x1.2.1,x1.2.2.1,x1.2.2.2.1,x1.q.1,x1.q.2.1,A.fI .ins 1 x.q.2.2.1,x2.1,x1.q.2.2.2.1,()) fun x3=>
 A.ret _ (x3.1,x3.2.1,x3.2.2.1,x3.2.2.2.1,x3.q.1,x3.q.2.1,x3.q.2.2.1,()))<|
 A.l1 .b (A.cmp .eql (A.fI .ins 0 x.q.2.2.1) (A.lit 2)) fun x1=>
 A.cond x1.1 (A.cl pq pz (x.1,x.2.1,x.2.2.1,x.2.2.2.1,x.q.1,x.q.2.1,A.fI .ins 2 x.q.2.2.1,x.o.1,()) fun x2=>
 A.l1 .i x2.q.2.2.1 fun x3=>
 A.cl yH yI (x2.1,x2.2.1,x2.2.2.1,x2.2.2.2.1,x2.q.1,x2.q.2.1,A.fI .ins 1 x.q.2.2.1,x3.1,x2.q.2.2.2.1,()) fun x4=>
 A.ret _ (x4.1,x4.2.1,x4.2.2.1,x4.2.2.2.1,x4.q.1,x4.q.2.1,x4.q.2.2.1,()))<|
 A.l1 .b (A.cmp .eql (A.fI .ins 0 x.q.2.2.1) (A.lit 8)) fun x2=>
 A.cond x2.1 (A.cl ae4 ae5 (A.fI .ins 3 x.q.2.2.1,()) fun x3=>
 A.cl Ko Kq (x.1,x.2.1,x.2.2.1,x.2.2.2.1,x.q.1,x.q.2.1,A.lit 3,A.fI .ins 2 x.q.2.2.1,A.mkX .iop (A.lit 1,A.lit 0,A.lit 0,x3.1,A.lit 0,()),x.o.1,()) fun x4=>
 A.l1 .i x4.q.2.2.1 fun x5=>
 A.cl yH yI (x4.1,x4.2.1,x4.2.2.1,x4.2.2.2.1,x4.q.1,x4.q.2.1,A.fI .ins 1 x.q.2.2.1,x5.1,x4.q.2.2.2.1,()) fun x6=>
 A.ret _ (x6.1,x6.2.1,x6.2.2.1,x6.2.2.2.1,x6.q.1,x6.q.2.1,x6.q.2.2.1,()))<|
 A.l1 .b (A.cmp .eql (A.fI .ins 0 x.q.2.2.1) (A.lit 9)) fun x3=>
 A.bind [.i,.i,.b,.l .iop,.i,.i,.i,.i,.i,.i,.x .ins,.i,.i,.i,.i,.i,.i] (A.cond x3.1 (A.ret _ (x.q.2.2.2.1,A.fI .ins 0 x.q.2.2.1,x3.1,x.o.1,x.1,x.2.1,x.2.2.1,x.2.2.2.1,x.q.1,x.q.2.1,x.q.2.2.1,A.lit 0,A.lit 0,A.lit 0,A.lit 0,A.lit 0,A.lit 0,()))<|
 A.l1 .b (A.cmp .eql (A.fI .ins 0 x.q.2.2.1) (A.lit 10)) fun x4=>
 A.ret _ (x.q.2.2.2.1,A.fI .ins 0 x.q.2.2.1,x4.1,x.o.1,x.1,x.2.1,x.2.2.1,x.2.2.2.1,x.q.1,x.q.2.1,x.q.2.2.1,A.lit 0,A.lit 0,A.lit 0,A.lit 0,A.lit 0,A.lit 0,())) fun x4=>
 A.cond x4.2.2.1 (A.cl ae2 ae3 (x4.q.1,x4.q.2.1,x4.q.2.2.1,x4.q.2.2.2.1,x4.o.1,x4.o.2.1,x4.o.2.2.1,x4.1,x4.2.2.2.1,()) fun x5=>
 A.ret _ (x5.1,x5.2.1,x5.2.2.1,x5.2.2.2.1,x5.q.1,x5.q.2.1,x5.q.2.2.1,()))<|
 A.l1 .b (A.cmp .eql x4.2.1 (A.lit 14)) fun x5=>
 A.cond x5.1 (A.cl pq pz (x4.q.1,x4.q.2.1,x4.q.2.2.1,x4.q.2.2.2.1,x4.o.1,x4.o.2.1,A.fI .ins 1 x4.o.2.2.1,x4.2.2.2.1,()) fun x6=>
 A.l1 .i x6.q.2.2.1 fun x7=>
 A.cl kg ko (x6.1,x6.2.1,x6.2.2.1,x6.2.2.2.1,x6.q.1,x6.q.2.1,A.mkX .iop (A.lit 7,x7.1,A.lit 0,A.lit 0,x4.1,()),x6.q.2.2.2.1,()) fun x8=>
 A.l1 .i x8.q.2.2.1 fun x9=>
 A.ret _ (x8.1,x8.2.1,x8.2.2.1,x8.2.2.2.1,x8.q.1,x8.q.2.1,x8.q.2.2.2.1,()))<|
 A.l1 .b (A.cmp .eql x4.2.1 (A.lit 15)) fun x6=>
 A.cond x6.1 (A.cl kg ko (x4.q.1,x4.q.2.1,x4.q.2.2.1,x4.q.2.2.2.1,x4.o.1,x4.o.2.1,A.mkX .iop (A.lit 6,A.lit 0,A.lit 0,A.lit 0,x4.1,()),x4.2.2.2.1,()) fun x7=>
 A.l1 .i x7.q.2.2.1 fun x8=>
 A.cl yH yI (x7.1,x7.2.1,x7.2.2.1,x7.2.2.2.1,x7.q.1,x7.q.2.1,A.fI .ins 1 x4.o.2.2.1,x8.1,x7.q.2.2.2.1,()) fun x9=>
 A.ret _ (x9.1,x9.2.1,x9.2.2.1,x9.2.2.2.1,x9.q.1,x9.q.2.1,x9.q.2.2.1,()))<|
 A.l1 .b (A.cmp .eql x4.2.1 (A.lit 11)) fun x7=>
 A.bind [.b,.l .iop,.i,.i,.i,.i,.i,.i,.x .ins,.i,.i,.i,.i,.i,.i] (A.cond x7.1 (A.ret _ (x7.1,x4.2.2.2.1,x4.q.1,x4.q.2.1,x4.q.2.2.1,x4.q.2.2.2.1,x4.o.1,x4.o.2.1,x4.o.2.2.1,x4.o.2.2.2.1,x4.o.q.1,x4.o.q.2.1,x4.o.q.2.2.1,x4.o.q.2.2.2.1,x4.o.o.1,()))<|
 A.l1 .b (A.cmp .eql x4.2.1 (A.lit 12)) fun x8=>
 A.bind [.b,.l .iop,.i,.i,.i,.i,.i,.i,.x .ins,.i,.i,.i,.i,.i,.i] (A.cond x8.1 (A.ret _ (x8.1,x4.2.2.2.1,x4.q.1,x4.q.2.1,x4.q.2.2.1,x4.q.2.2.2.1,x4.o.1,x4.o.2.1,x4.o.2.2.1,x4.o.2.2.2.1,x4.o.q.1,x4.o.q.2.1,x4.o.q.2.2.1,x4.o.q.2.2.2.1,x4.o.o.1,()))<|
 A.l1 .b (A.cmp .eql x4.2.1 (A.lit 13)) fun x9=>
 A.ret _ (x9.1,x4.2.2.2.1,x4.q.1,x4.q.2.1,x4.q.2.2.1,x4.q.2.2.2.1,x4.o.1,x4.o.2.1,x4.o.2.2.1,x4.o.2.2.2.1,x4.o.q.1,x4.o.q.2.1,x4.o.q.2.2.1,x4.o.q.2.2.2.1,x4.o.o.1,())) fun x9=>
 A.ret _ (x9.1,x9.2.1,x9.2.2.1,x9.2.2.2.1,x9.q.1,x9.q.2.1,x9.q.2.2.1,x9.q.2.2.2.1,x9.o.1,x9.o.2.1,x9.o.2.2.1,x9.o.2.2.2.1,x9.o.q.1,x9.o.q.2.1,x9.o.q.2.2.1,())) fun x8=>
 A.cond x8.1 (A.cl ae0 ae1 (x8.2.2.1,x8.2.2.2.1,x8.q.1,x8.q.2.1,x8.q.2.2.1,x8.q.2.2.2.1,x8.o.1,x8.2.1,()) fun x9=>
 A.ret _ (x9.1,x9.2.1,x9.2.2.1,x9.2.2.2.1,x9.q.1,x9.q.2.1,x9.q.2.2.1,()))<|
 A.cl Ko Kq (x8.2.2.1,x8.2.2.2.1,x8.q.1,x8.q.2.1,x8.q.2.2.1,x8.q.2.2.2.1,A.arith .add .i64 (A.arith .sub .i64 (A.fI .ins 0 x8.o.1) (A.lit 3)) (A.lit 1),A.fI .ins 2 x8.o.1,A.mkX .iop (A.lit 2,A.lit 0,A.lit 0,A.fI .ins 3 x8.o.1,A.lit 0,()),x8.2.1,()) fun x9=>
 A.l1 .i x9.q.2.2.1 fun x10=>
 A.cl yH yI (x9.1,x9.2.1,x9.2.2.1,x9.2.2.2.1,x9.q.1,x9.q.2.1,A.fI .ins 1 x8.o.1,x10.1,x9.q.2.2.2.1,()) fun x11=>
 A.ret _ (x11.1,x11.2.1,x11.2.2.1,x11.2.2.2.1,x11.q.1,x11.q.2.1,x11.q.2.2.1,())
def Rb (A:Alg) (ae6:Pt A Ez) (ae7:Ft A Ez) (ae8:Pt A ED) (ae9:Ft A ED) (x:Tup A.ah [.i,.l .ins]):Ot A EF:=
 A.cl ae6 ae7 (x.1,x.2.1,()) fun x0=>
 A.cond (A.aA x0.1) (A.ret _ (A.lit 0,A.lit 0,A.lit 0,A.lit 0,A.lit 0,A.lit 0,A.bP .iop,()))<|
 A.l1 .i (A.lit 0) fun x1=>
 A.iter [.l .ins,.i,.i,.i,.i,.i,.i,.i,.i,.i,.i,.i,.i,.i,.l .iop] (fun x2=>
 A.cond (A.cmp .lss x2.2.1 (A.len .ins x2.1)) (A.bd .ins x2.1 x2.2.1<|
 A.cl ae8 ae9 (x2.o.1,x2.o.2.1,x2.o.2.2.1,x2.o.2.2.2.1,x2.o.q.1,x2.o.q.2.1,A.get .ins x2.1 x2.2.1,x2.2.1,x2.o.q.2.2.1,()) fun x3=>
 A.l1 .i (A.arith .add .i64 x2.2.1 (A.lit 1)) fun x4=>
 A.inl _ (x2.1,x4.1,x2.2.2.1,x2.2.2.2.1,x2.q.1,x2.q.2.1,x2.q.2.2.1,x2.q.2.2.2.1,x3.1,x3.2.1,x3.2.2.1,x3.2.2.2.1,x3.q.1,x3.q.2.1,x3.q.2.2.1,()))<|
 A.inr _<|A.ret _ (x2.o.1,x2.o.2.1,x2.o.2.2.1,x2.o.2.2.2.1,x2.o.q.1,x2.o.q.2.1,x2.o.q.2.2.1,())) (x.2.1,x1.1,A.lit 0,A.lit 0,A.lit 0,A.lit 0,A.lit 0,A.lit 0,x.1,A.len .ins x.2.1,A.lit 1,A.lit 0,A.lit 0,A.arith .add .i64 x.1 (A.len .ins x.2.1),A.bP .iop,())
def Rc (A:Alg) (afa:Pt A EF) (afb:Ft A EF) (afc:Pt A Er) (afd:Ft A Er) (FH:Pt A mZ) (FJ:Ft A mZ) (aV:Pt A dZ) (aW:Ft A dZ) (afe:Pt A Ey) (aff:Ft A Ey) (x:Tup A.ah [.l .u8,.i]):Ot A EG:=
 A.cl afe aff (x.1,x.2.1,()) fun x0=>
 A.cl aV aW (A.lit 50,x0.1,x0.2.1,()) fun x1=>
 A.l1 (.l .i64) (A.lst .i64 [A.mkX .i64 (A.lit 0,()),A.mkX .i64 (A.lit 1,()),A.mkX .i64 (x1.1,()),A.mkX .i64 (A.arith .sub .i64 (A.lit 64) (A.len .ins x0.2.2.1),())]) fun x2=>
 A.cl aV aW (A.lit 4,x1.2.1,x1.2.2.1,()) fun x3=>
 A.bd .i64 x2.1 x3.1<|
 A.bd .i64 x2.1 x3.1<|
 A.cl afa afb (A.fI .i64 0 (A.get .i64 x2.1 x3.1),x0.2.2.1,()) fun x4=>
 A.cl aV aW (A.lit 5,x3.2.1,x3.2.2.1,()) fun x5=>
 A.l1 .b (A.cmp .eql x5.1 (A.lit 0)) fun x6=>
 A.cond x6.1 (A.cl afc afd (A.mkX .blk (x4.1,x4.2.1,x4.q.2.2.1,x4.2.2.1,x4.2.2.2.1,x4.q.1,x4.q.2.1,()),()) fun x7=>
 A.ret _ (x7.1,x7.2.1,x7.2.2.1,x7.2.2.2.1,x7.q.1,x7.q.2.1,x5.2.1,x5.2.2.1,x7.q.2.2.1,()))<|
 A.l1 .b (A.cmp .eql x5.1 (A.lit 1)) fun x7=>
 A.cond x7.1 (A.cl FH FJ (A.mkX .blk (x4.1,x4.2.1,x4.q.2.2.1,x4.2.2.1,x4.2.2.2.1,x4.q.1,x4.q.2.1,()),()) fun x8=>
 A.ret _ (x8.1,x8.2.1,x8.2.2.1,x8.2.2.2.1,x8.q.1,x8.q.2.1,x5.2.1,x5.2.2.1,x8.q.2.2.1,()))<|
 A.ret _ (x4.1,x4.2.1,x4.2.2.1,x4.2.2.2.1,x4.q.1,x4.q.2.1,x5.2.1,x5.2.2.1,x4.q.2.2.1,())
def Kr (A:Alg) (aV:Pt A dZ) (aW:Ft A dZ) (Fz:Pt A mY) (FB:Ft A mY) (x:Tup A.ah [.x .blk,.l .u8,.i]):Ot A EH:=
 A.cl Fz FB (x.1,()) fun x0=>
 A.cond (A.cmp .eql (A.len .iop x0.q.2.2.1) (A.lit 0)) (A.l1 .i (A.arith .add .i64 x0.q.2.1 (A.lit 1)) fun x1=>
 A.ret _ (x0.1,x0.2.1,x0.2.2.1,x0.2.2.2.1,x0.q.1,x1.1,x.2.1,x.2.2.1,x0.q.2.2.1,()))<|
 A.cl aV aW (A.len .iop x0.q.2.2.1,x.2.1,x.2.2.1,()) fun x1=>
 A.l1 .i x1.1 fun x2=>
 A.cl aV aW (A.lit 9,x1.2.1,x1.2.2.1,()) fun x3=>
 A.l1 .b (A.cmp .eql x3.1 (A.lit 0)) fun x4=>
 A.bind [.l .u8,.i,.i,.i,.i,.i,.i,.i,.i,.i,.i,.i,.i,.i,.l .iop] (A.cond x4.1 (A.bd .iop x0.q.2.2.1 x2.1<|
 A.bd .iop x0.q.2.2.1 x2.1<|
 A.bd .iop x0.q.2.2.1 x2.1<|
 A.bd .iop x0.q.2.2.1 x2.1<|
 A.l1 .i (A.arith .add .i64 (A.fI .iop 3 (A.get .iop x0.q.2.2.1 x2.1)) (A.lit 1)) fun x5=>
 A.ret _ (x3.2.1,x3.2.2.1,A.lit 0,A.lit 0,A.lit 0,A.lit 0,A.lit 0,A.lit 0,x0.1,x0.2.1,x0.2.2.1,x0.2.2.2.1,x0.q.1,x0.q.2.1,A.set .iop x0.q.2.2.1 x2.1 (A.mkX .iop (A.fI .iop 0 (A.get .iop x0.q.2.2.1 x2.1),A.fI .iop 1 (A.get .iop x0.q.2.2.1 x2.1),A.fI .iop 2 (A.get .iop x0.q.2.2.1 x2.1),x5.1,A.fI .iop 4 (A.get .iop x0.q.2.2.1 x2.1),())),()))<|
 A.l1 .b (A.cmp .eql x3.1 (A.lit 1)) fun x5=>
 A.bind [.l .u8,.i,.i,.i,.i,.i,.i,.i,.i,.i,.i,.i,.i,.i,.l .iop] (A.cond x5.1 (A.cl aV aW (A.arith .add .i64 x2.1 (A.lit 1),x3.2.1,x3.2.2.1,()) fun x6=>
 A.bd .iop x0.q.2.2.1 x2.1<|
 A.bd .iop x0.q.2.2.1 x2.1<|
 A.l1 .i x6.1 fun x7=>
 A.ret _ (x6.2.1,x6.2.2.1,A.lit 0,A.lit 0,A.lit 0,A.lit 0,A.lit 0,A.lit 0,x0.1,x0.2.1,x0.2.2.1,x0.2.2.2.1,x0.q.1,x0.q.2.1,A.set .iop x0.q.2.2.1 x2.1 (A.mkX .iop (A.fI .iop 0 (A.get .iop x0.q.2.2.1 x2.1),x7.1,A.fI .iop 2 (A.get .iop x0.q.2.2.1 x2.1),A.fI .iop 3 (A.get .iop x0.q.2.2.1 x2.1),A.fI .iop 4 (A.get .iop x0.q.2.2.1 x2.1),())),()))<|
 A.l1 .b (A.cmp .eql x3.1 (A.lit 2)) fun x6=>
 A.bind [.l .u8,.i,.i,.i,.i,.i,.i,.i,.i,.i,.i,.i,.i,.i,.l .iop] (A.cond x6.1 (A.cl aV aW (A.arith .add .i64 x2.1 (A.lit 1),x3.2.1,x3.2.2.1,()) fun x7=>
 A.bd .iop x0.q.2.2.1 x2.1<|
 A.bd .iop x0.q.2.2.1 x2.1<|
 A.l1 .i x7.1 fun x8=>
 A.ret _ (x7.2.1,x7.2.2.1,A.lit 0,A.lit 0,A.lit 0,A.lit 0,A.lit 0,A.lit 0,x0.1,x0.2.1,x0.2.2.1,x0.2.2.2.1,x0.q.1,x0.q.2.1,A.set .iop x0.q.2.2.1 x2.1 (A.mkX .iop (A.fI .iop 0 (A.get .iop x0.q.2.2.1 x2.1),A.fI .iop 1 (A.get .iop x0.q.2.2.1 x2.1),x8.1,A.fI .iop 3 (A.get .iop x0.q.2.2.1 x2.1),A.fI .iop 4 (A.get .iop x0.q.2.2.1 x2.1),())),()))<|
 A.l1 .b (A.cmp .eql x3.1 (A.lit 3)) fun x7=>
 A.bind [.l .u8,.i,.i,.i,.i,.i,.i,.i,.i,.i,.i,.i,.i,.i,.l .iop] (A.cond x7.1 (A.cl aV aW (A.arith .add .i64 x0.2.1 (A.lit 1),x3.2.1,x3.2.2.1,()) fun x8=>
 A.bd .iop x0.q.2.2.1 x2.1<|
 A.bd .iop x0.q.2.2.1 x2.1<|
 A.l1 .i x8.1 fun x9=>
 A.ret _ (x8.2.1,x8.2.2.1,A.lit 0,A.lit 0,A.lit 0,A.lit 0,A.lit 0,A.lit 0,x0.1,x0.2.1,x0.2.2.1,x0.2.2.2.1,x0.q.1,x0.q.2.1,A.set .iop x0.q.2.2.1 x2.1 (A.mkX .iop (A.fI .iop 0 (A.get .iop x0.q.2.2.1 x2.1),A.fI .iop 1 (A.get .iop x0.q.2.2.1 x2.1),A.fI .iop 2 (A.get .iop x0.q.2.2.1 x2.1),A.fI .iop 3 (A.get .iop x0.q.2.2.1 x2.1),x9.1,())),()))<|
 A.l1 .b (A.cmp .eql x3.1 (A.lit 4)) fun x8=>
 A.bind [.l .u8,.i,.i,.i,.i,.i,.i,.i,.i,.i,.i,.i,.i,.i,.l .iop] (A.cond x8.1 (A.cl aV aW (A.lit 66,x3.2.1,x3.2.2.1,()) fun x9=>
 A.l1 .i x9.1 fun x10=>
 A.ret _ (x9.2.1,x9.2.2.1,A.lit 0,A.lit 0,A.lit 0,A.lit 0,A.lit 0,A.lit 0,x0.1,x0.2.1,x0.2.2.1,x0.2.2.2.1,x0.q.1,x10.1,x0.q.2.2.1,()))<|
 A.l1 .b (A.cmp .eql x3.1 (A.lit 5)) fun x9=>
 A.bind [.l .u8,.i,.i,.i,.i,.i,.i,.i,.i,.i,.i,.i,.i,.i,.l .iop] (A.cond x9.1 (A.cl aV aW (A.lit 4,x3.2.1,x3.2.2.1,()) fun x10=>
 A.l1 .i (A.arith .add .i64 (A.lit 1) x10.1) fun x11=>
 A.ret _ (x10.2.1,x10.2.2.1,A.lit 0,A.lit 0,A.lit 0,A.lit 0,A.lit 0,A.lit 0,x0.1,x0.2.1,x11.1,x0.2.2.2.1,x0.q.1,x0.q.2.1,x0.q.2.2.1,()))<|
 A.l1 .b (A.cmp .eql x3.1 (A.lit 6)) fun x10=>
 A.bind [.l .u8,.i,.i,.i,.i,.i,.i,.i,.i,.i,.i,.i,.i,.i,.l .iop] (A.cond x10.1 (A.bind [.l .u8,.i,.i,.i,.i,.i,.i,.i,.i,.i,.i,.i,.i,.i,.l .iop] (A.cond (A.cmp .gtr x2.1 (A.lit 0)) (A.bd .iop x0.q.2.2.1 x2.1<|
 A.bd .iop x0.q.2.2.1 x2.1<|
 A.l1 (.x .iop) (A.get .iop x0.q.2.2.1 x2.1) fun x11=>
 A.bd .iop x0.q.2.2.1 (A.arith .sub .i64 x2.1 (A.lit 1))<|
 A.bd .iop x0.q.2.2.1 (A.arith .sub .i64 x2.1 (A.lit 1))<|
 A.bd .iop x0.q.2.2.1 x2.1<|
 A.bd .iop x0.q.2.2.1 x2.1<|
 A.l1 (.x .iop) (A.get .iop x0.q.2.2.1 (A.arith .sub .i64 x2.1 (A.lit 1))) fun x12=>
 A.bd .iop (A.set .iop x0.q.2.2.1 x2.1 x12.1) (A.arith .sub .i64 x2.1 (A.lit 1))<|
 A.bd .iop (A.set .iop x0.q.2.2.1 x2.1 x12.1) (A.arith .sub .i64 x2.1 (A.lit 1))<|
 A.l1 (.x .iop) x11.1 fun x13=>
 A.ret _ (x3.2.1,x3.2.2.1,A.lit 0,A.lit 0,A.lit 0,A.lit 0,A.lit 0,A.lit 0,x0.1,x0.2.1,x0.2.2.1,x0.2.2.2.1,x0.q.1,x0.q.2.1,A.set .iop (A.set .iop x0.q.2.2.1 x2.1 x12.1) (A.arith .sub .i64 x2.1 (A.lit 1)) x13.1,()))<|
 A.ret _ (x3.2.1,x3.2.2.1,A.lit 0,A.lit 0,A.lit 0,A.lit 0,A.lit 0,A.lit 0,x0.1,x0.2.1,x0.2.2.1,x0.2.2.2.1,x0.q.1,x0.q.2.1,x0.q.2.2.1,())) fun x11=>
 A.ret _ (x11.1,x11.2.1,x11.2.2.1,x11.2.2.2.1,x11.q.1,x11.q.2.1,x11.q.2.2.1,x11.q.2.2.2.1,x11.o.1,x11.o.2.1,x11.o.2.2.1,x11.o.2.2.2.1,x11.o.q.1,x11.o.q.2.1,x11.o.q.2.2.1,()))<|
 A.l1 .b (A.cmp .eql x3.1 (A.lit 7)) fun x11=>
 A.bind [.l .u8,.i,.i,.i,.i,.i,.i,.i,.i,.i,.i,.i,.i,.i,.l .iop] (A.cond x11.1 (A.cl aV aW (A.lit 3,x3.2.1,x3.2.2.1,()) fun x12=>
 A.bd .iop x0.q.2.2.1 x2.1<|
 A.bd .iop x0.q.2.2.1 x2.1<|
 A.ret _ (x12.2.1,x12.2.2.1,A.lit 0,A.lit 0,A.lit 0,A.lit 0,A.lit 0,A.lit 0,x0.1,x0.2.1,x0.2.2.1,x0.2.2.2.1,x0.q.1,x0.q.2.1,A.set .iop x0.q.2.2.1 x2.1 (A.mkX .iop (A.lit 1,A.lit 0,A.lit 0,x12.1,A.lit 0,())),()))<|
 A.chk (A.cmp .leq (A.lit 0) (A.lit 0))<|
 A.chk (A.cmp .leq (A.lit 0) x2.1)<|
 A.chk (A.cmp .leq x2.1 (A.len .iop x0.q.2.2.1))<|
 A.chk (A.cmp .eql (A.lit 0) (A.lit 0))<|
 A.chk (A.cmp .leq (A.lit 0) (A.Ch x2.1 (A.lit 0)))<|
 A.chk (A.cmp .leq (A.Ch x2.1 (A.lit 0)) (A.len .iop x0.q.2.2.1))<|
 A.ret _ (x3.2.1,x3.2.2.1,A.lit 0,A.lit 0,A.lit 0,A.lit 0,A.lit 0,A.lit 0,x0.1,x0.2.1,x0.2.2.1,x0.2.2.2.1,x0.q.1,x0.q.2.1,A.sub .iop x0.q.2.2.1 (A.lit 0) (A.Ch x2.1 (A.lit 0)),())) fun x12=>
 A.ret _ (x12.1,x12.2.1,x12.2.2.1,x12.2.2.2.1,x12.q.1,x12.q.2.1,x12.q.2.2.1,x12.q.2.2.2.1,x12.o.1,x12.o.2.1,x12.o.2.2.1,x12.o.2.2.2.1,x12.o.q.1,x12.o.q.2.1,x12.o.q.2.2.1,())) fun x11=>
 A.ret _ (x11.1,x11.2.1,x11.2.2.1,x11.2.2.2.1,x11.q.1,x11.q.2.1,x11.q.2.2.1,x11.q.2.2.2.1,x11.o.1,x11.o.2.1,x11.o.2.2.1,x11.o.2.2.2.1,x11.o.q.1,x11.o.q.2.1,x11.o.q.2.2.1,())) fun x10=>
 A.ret _ (x10.1,x10.2.1,x10.2.2.1,x10.2.2.2.1,x10.q.1,x10.q.2.1,x10.q.2.2.1,x10.q.2.2.2.1,x10.o.1,x10.o.2.1,x10.o.2.2.1,x10.o.2.2.2.1,x10.o.q.1,x10.o.q.2.1,x10.o.q.2.2.1,())) fun x9=>
 A.ret _ (x9.1,x9.2.1,x9.2.2.1,x9.2.2.2.1,x9.q.1,x9.q.2.1,x9.q.2.2.1,x9.q.2.2.2.1,x9.o.1,x9.o.2.1,x9.o.2.2.1,x9.o.2.2.2.1,x9.o.q.1,x9.o.q.2.1,x9.o.q.2.2.1,())) fun x8=>
 A.ret _ (x8.1,x8.2.1,x8.2.2.1,x8.2.2.2.1,x8.q.1,x8.q.2.1,x8.q.2.2.1,x8.q.2.2.2.1,x8.o.1,x8.o.2.1,x8.o.2.2.1,x8.o.2.2.2.1,x8.o.q.1,x8.o.q.2.1,x8.o.q.2.2.1,())) fun x7=>
 A.ret _ (x7.1,x7.2.1,x7.2.2.1,x7.2.2.2.1,x7.q.1,x7.q.2.1,x7.q.2.2.1,x7.q.2.2.2.1,x7.o.1,x7.o.2.1,x7.o.2.2.1,x7.o.2.2.2.1,x7.o.q.1,x7.o.q.2.1,x7.o.q.2.2.1,())) fun x6=>
 A.ret _ (x6.1,x6.2.1,x6.2.2.1,x6.2.2.2.1,x6.q.1,x6.q.2.1,x6.q.2.2.1,x6.q.2.2.2.1,x6.o.1,x6.o.2.1,x6.o.2.2.1,x6.o.2.2.2.1,x6.o.q.1,x6.o.q.2.1,x6.o.q.2.2.1,())) fun x5=>
 A.ret _ (x5.o.1,x5.o.2.1,x5.o.2.2.1,x5.o.2.2.2.1,x5.o.q.1,x5.o.q.2.1,x5.1,x5.2.1,x5.o.q.2.2.1,())
def Rf (A:Alg) (afg:Pt A Eb) (afh:Ft A Eb) (aV:Pt A dZ) (aW:Ft A dZ) (afi:Pt A EH) (afj:Ft A EH) (afk:Pt A EG) (afl:Ft A EG) (x:Tup A.ah [.i,.l .u8,.i]):Ot A EI:=
 A.cl afk afl (x.2.1,x.2.2.1,()) fun x0=>
 A.cl afg afh (x.1,x0.q.2.2.1,x0.q.2.2.2.1,()) fun x1=>
 A.jS [.l .u8,.i,.i,.i,.i,.i,.i,.i,.i,.i,.i,.i,.i,.i,.l .iop] (A.cond x1.1 (A.cl aV aW (A.lit 6,x1.2.1,x1.2.2.1,()) fun x2=>
 A.l1 .b (A.cmp .eql x2.1 (A.lit 0)) fun x3=>
 A.jS [.l .u8,.i,.i,.i,.i,.i,.i,.i,.i,.i,.i,.i,.i,.i,.l .iop] (A.cond x3.1 (A.l1 (.l .i64) (A.lst .i64 [A.mkX .i64 (A.lit 0,()),A.mkX .i64 (A.lit 9,())]) fun x4=>
 A.cl aV aW (A.lit 2,x2.2.1,x2.2.2.1,()) fun x5=>
 A.bd .i64 x4.1 x5.1<|
 A.bd .i64 x4.1 x5.1<|
 A.l1 .i (A.fI .i64 0 (A.get .i64 x4.1 x5.1)) fun x6=>
 A.inl _ (x5.2.1,x5.2.2.1,A.lit 0,A.lit 0,A.lit 0,A.lit 0,A.lit 0,A.lit 0,x0.1,x6.1,x0.2.2.1,x0.2.2.2.1,x0.q.1,x0.q.2.1,x0.o.1,()))<|
 A.l1 .b (A.cmp .eql x2.1 (A.lit 1)) fun x4=>
 A.jS [.l .u8,.i,.i,.i,.i,.i,.i,.i,.i,.i,.i,.i,.i,.i,.l .iop] (A.cond x4.1 (A.l1 (.l .i64) (A.lst .i64 [A.mkX .i64 (A.lit (-1),()),A.mkX .i64 (A.lit 64,())]) fun x5=>
 A.cl aV aW (A.lit 2,x2.2.1,x2.2.2.1,()) fun x6=>
 A.bd .i64 x5.1 x6.1<|
 A.bd .i64 x5.1 x6.1<|
 A.l1 .i (A.fI .i64 0 (A.get .i64 x5.1 x6.1)) fun x7=>
 A.inl _ (x6.2.1,x6.2.2.1,A.lit 0,A.lit 0,A.lit 0,A.lit 0,A.lit 0,A.lit 0,x7.1,x0.2.1,x0.2.2.1,x0.2.2.2.1,x0.q.1,x0.q.2.1,x0.o.1,()))<|
 A.l1 .b (A.cmp .eql x2.1 (A.lit 2)) fun x5=>
 A.jS [.l .u8,.i,.i,.i,.i,.i,.i,.i,.i,.i,.i,.i,.i,.i,.l .iop] (A.cond x5.1 (A.iter [.l .u8,.i,.i,.i,.i,.i,.i,.i,.i,.i,.i,.i,.i,.i,.l .iop] (fun x6=>
 A.cond (A.cmp .leq (A.len .iop x6.o.q.2.2.1) (A.lit 48)) (A.l1 (.l .iop) (A.lst .iop [A.mkX .iop (A.lit 1,A.lit 0,A.lit 0,A.lit 0,A.lit 0,())]) fun x7=>
 A.chk (A.cmp .leq (A.addN (A.len .iop x6.o.q.2.2.1) (A.len .iop x7.1)) (A.lit 1073741824))<|
 A.l1 (.l .iop) (A.app .iop x6.o.q.2.2.1 x7.1) fun x8=>
 A.inl _ (x6.1,x6.2.1,x6.2.2.1,x6.2.2.2.1,x6.q.1,x6.q.2.1,x6.q.2.2.1,x6.q.2.2.2.1,x6.o.1,x6.o.2.1,x6.o.2.2.1,x6.o.2.2.2.1,x6.o.q.1,x6.o.q.2.1,x8.1,()))<|
 A.inr _<|A.inl _ (x6.1,x6.2.1,x6.2.2.1,x6.2.2.2.1,x6.q.1,x6.q.2.1,x6.q.2.2.1,x6.q.2.2.2.1,x6.o.1,x6.o.2.1,x6.o.2.2.1,x6.o.2.2.2.1,x6.o.q.1,x6.o.q.2.1,x6.o.q.2.2.1,())) (x2.2.1,x2.2.2.1,A.lit 0,A.lit 0,A.lit 0,A.lit 0,A.lit 0,A.lit 0,x0.1,x0.2.1,x0.2.2.1,x0.2.2.2.1,x0.q.1,x0.q.2.1,x0.o.1,()))<|
 A.l1 .b (A.cmp .eql x2.1 (A.lit 3)) fun x6=>
 A.jS [.l .u8,.i,.i,.i,.i,.i,.i,.i,.i,.i,.i,.i,.i,.i,.l .iop] (A.cond x6.1 (A.l1 (.l .i64) (A.lst .i64 [A.mkX .i64 (A.lit 0,()),A.mkX .i64 (A.lit 5,())]) fun x7=>
 A.cl aV aW (A.lit 2,x2.2.1,x2.2.2.1,()) fun x8=>
 A.bd .i64 x7.1 x8.1<|
 A.bd .i64 x7.1 x8.1<|
 A.l1 .i (A.fI .i64 0 (A.get .i64 x7.1 x8.1)) fun x9=>
 A.inl _ (x8.2.1,x8.2.2.1,A.lit 0,A.lit 0,A.lit 0,A.lit 0,A.lit 0,A.lit 0,x0.1,x0.2.1,x9.1,x0.2.2.2.1,x0.q.1,x0.q.2.1,x0.o.1,()))<|
 A.l1 .b (A.cmp .eql x2.1 (A.lit 4)) fun x7=>
 A.cond x7.1 (A.cl aV aW (A.lit 3,x2.2.1,x2.2.2.1,()) fun x8=>
 A.bd .i64 (A.lst .i64 [A.mkX .i64 (A.lit 0,()),A.mkX .i64 (A.lit 9,()),A.mkX .i64 (A.lit 8,())]) x8.1<|
 A.chk (A.cmp .leq (A.addN (A.len .iop x0.o.1) (A.len .iop (A.lst .iop [A.mkX .iop (A.fI .i64 0 (A.get .i64 (A.lst .i64 [A.mkX .i64 (A.lit 0,()),A.mkX .i64 (A.lit 9,()),A.mkX .i64 (A.lit 8,())]) x8.1),A.len .iop x0.o.1,A.lit 0,A.lit 0,A.lit 0,())]))) (A.lit 1073741824))<|
 A.l1 (.l .iop) (A.app .iop x0.o.1 (A.lst .iop [A.mkX .iop (A.fI .i64 0 (A.get .i64 (A.lst .i64 [A.mkX .i64 (A.lit 0,()),A.mkX .i64 (A.lit 9,()),A.mkX .i64 (A.lit 8,())]) x8.1),A.len .iop x0.o.1,A.lit 0,A.lit 0,A.lit 0,())])) fun x9=>
 A.inl _ (x8.2.1,x8.2.2.1,A.lit 0,A.lit 0,A.lit 0,A.lit 0,A.lit 0,A.lit 0,x0.1,x0.2.1,x0.2.2.1,x0.2.2.2.1,x0.q.1,x0.q.2.1,x9.1,()))<|
 A.cl afi afj (A.mkX .blk (x0.1,x0.2.1,x0.o.1,x0.2.2.1,x0.2.2.2.1,x0.q.1,x0.q.2.1,()),x2.2.1,x2.2.2.1,()) fun x8=>
 A.inr _<|A.inr _<|A.inr _<|A.inr _<|A.inr _<|A.ret _ (A.mkX .blk (x8.1,x8.2.1,x8.o.1,x8.2.2.1,x8.2.2.2.1,x8.q.1,x8.q.2.1,()),x8.q.2.2.1,x8.q.2.2.2.1,())) fun x7=>
 A.inl _ (x7.1,x7.2.1,x7.2.2.1,x7.2.2.2.1,x7.q.1,x7.q.2.1,x7.q.2.2.1,x7.q.2.2.2.1,x7.o.1,x7.o.2.1,x7.o.2.2.1,x7.o.2.2.2.1,x7.o.q.1,x7.o.q.2.1,x7.o.q.2.2.1,())) fun x6=>
 A.inl _ (x6.1,x6.2.1,x6.2.2.1,x6.2.2.2.1,x6.q.1,x6.q.2.1,x6.q.2.2.1,x6.q.2.2.2.1,x6.o.1,x6.o.2.1,x6.o.2.2.1,x6.o.2.2.2.1,x6.o.q.1,x6.o.q.2.1,x6.o.q.2.2.1,())) fun x5=>
 A.inl _ (x5.1,x5.2.1,x5.2.2.1,x5.2.2.2.1,x5.q.1,x5.q.2.1,x5.q.2.2.1,x5.q.2.2.2.1,x5.o.1,x5.o.2.1,x5.o.2.2.1,x5.o.2.2.2.1,x5.o.q.1,x5.o.q.2.1,x5.o.q.2.2.1,())) fun x4=>
 A.inl _ (x4.1,x4.2.1,x4.2.2.1,x4.2.2.2.1,x4.q.1,x4.q.2.1,x4.q.2.2.1,x4.q.2.2.2.1,x4.o.1,x4.o.2.1,x4.o.2.2.1,x4.o.2.2.2.1,x4.o.q.1,x4.o.q.2.1,x4.o.q.2.2.1,()))<|
 A.inl _ (x1.2.1,x1.2.2.1,A.lit 0,A.lit 0,A.lit 0,A.lit 0,A.lit 0,A.lit 0,x0.1,x0.2.1,x0.2.2.1,x0.2.2.2.1,x0.q.1,x0.q.2.1,x0.o.1,())) fun x2=>
 A.ret _ (A.mkX .blk (x2.o.1,x2.o.2.1,x2.o.q.2.2.1,x2.o.2.2.1,x2.o.2.2.2.1,x2.o.q.1,x2.o.q.2.1,()),x2.1,x2.2.1,())
def Rh (A:Alg) (x:Tup A.ah [.l .u8]):Ot A EJ:=
 A.bind [.l .u8] (A.cond (A.cmp .gtr (A.len .u8 x.1) (A.lit 2000)) (A.chk (A.cmp .leq (A.lit 0) (A.lit 0))<|
 A.chk (A.cmp .leq (A.lit 0) (A.lit 2000))<|
 A.chk (A.cmp .leq (A.lit 2000) (A.len .u8 x.1))<|
 A.l1 (.l .u8) (A.sub .u8 x.1 (A.lit 0) (A.lit 2000)) fun x0=>
 A.ret _ (x0.1,()))<|
 A.ret _ (x.1,())) fun x0=>
 A.ret _ (x0.1,A.lit 0,())
def XD (A:Alg) (x:Tup A.ah [.i,.i,.i]):Ot A bZ:=
 A.l1 .b (A.bl false) fun x0=>
 A.rb (A.ak (A.cmp .leq x.2.1 x.1) (A.cmp .leq x.1 x.2.2.1) (A.bl false))
def XE (A:Alg) (gq:Pt A bZ) (gu:Ft A bZ) (x:Tup A.ah [.i]):Ot A jq:=
 A.l1 .b (A.bl false) fun x0=>
 A.cl gq gu (x.1,A.lit 0,A.lit 65535,()) fun x1=>
 A.rb x1.1
def XF (A:Alg) (gq:Pt A bZ) (gu:Ft A bZ) (x:Tup A.ah [.x .iop]):Ot A ow:=
 A.l1 .b (A.bl false) fun x0=>
 A.l1 .b (A.bl false) fun x1=>
 A.l1 .b (A.bl false) fun x2=>
 A.l1 .b (A.bl false) fun x3=>
 A.l1 .b (A.ak (A.ak (A.cmp .neq (A.fI .iop 0 x.1) (A.lit 1)) (A.cmp .neq (A.fI .iop 0 x.1) (A.lit 2)) (A.bl false)) (A.cmp .neq (A.fI .iop 0 x.1) (A.lit 6)) (A.bl false)) fun x4=>
 A.l1 .b (A.ak (A.cmp .eql (A.fI .iop 0 x.1) (A.lit 3)) (A.bl true) (A.cmp .eql (A.fI .iop 0 x.1) (A.lit 5))) fun x5=>
 A.l1 .b (A.ak (A.ak (A.ak (A.cmp .eql (A.fI .iop 0 x.1) (A.lit 1)) (A.bl true) (A.cmp .eql (A.fI .iop 0 x.1) (A.lit 2))) (A.bl true) (A.cmp .eql (A.fI .iop 0 x.1) (A.lit 3))) (A.bl true) (A.cmp .eql (A.fI .iop 0 x.1) (A.lit 8))) fun x6=>
 A.cl gq gu (A.fI .iop 0 x.1,A.lit 4,A.lit 7,()) fun x7=>
 A.l1 .b x7.1 fun x8=>
 A.l1 .b x4.1 fun x9=>
 A.l1 .b x5.1 fun x10=>
 A.l1 .b x6.1 fun x11=>
 A.l1 .b x8.1 fun x12=>
 A.ret _ (x9.1,x10.1,x11.1,x12.1,())
def XG (A:Alg) (gq:Pt A bZ) (gu:Ft A bZ) (x:Tup A.ah [.i]):Ot A Bj:=
 A.l1 .b (A.bl false) fun x0=>
 A.cl gq gu (x.1,A.lit 0,A.lit 3,()) fun x1=>
 A.rb x1.1
def XH (A:Alg) (gq:Pt A bZ) (gu:Ft A bZ) (x:Tup A.ah [.i]):Ot A Bn:=
 A.l1 .b (A.bl false) fun x0=>
 A.cl gq gu (x.1,A.lit 1,A.lit 5,()) fun x1=>
 A.rb x1.1
def XI (A:Alg) (gq:Pt A bZ) (gu:Ft A bZ) (x:Tup A.ah [.x .iop]):Ot A MF:=
 A.l1 .b (A.bl false) fun x0=>
 A.cl gq gu (A.fI .iop 0 x.1,A.lit 1,A.lit 4,()) fun x1=>
 A.rb (A.ak x1.1 (A.bl true) (A.cmp .eql (A.fI .iop 0 x.1) (A.lit 6)))
def XJ (A:Alg) (ak8:Pt A MF) (ak9:Ft A MF) (gq:Pt A bZ) (gu:Ft A bZ) (x:Tup A.ah [.x .blk,.i,.i]):Ot A Bo:=
 A.l1 .b (A.bl false) fun x0=>
 A.cl gq gu (x.2.1,A.lit 0,A.arith .sub .i64 x.2.2.1 (A.lit 1),()) fun x1=>
 A.chk (A.orB (A.aA x1.1) (A.cmp .leq (A.lit 0) x.2.1))<|
 A.chk (A.orB (A.aA x1.1) (A.cmp .lss x.2.1 (A.len .iop (A.fL .blk 2 .iop x.1))))<|
 A.cg x1.1 ak8 ak9 (A.get .iop (A.fL .blk 2 .iop x.1) x.2.1,()) fun x2=>
 A.rb (A.ak x1.1 x2.1 (A.bl false))
def XK (A:Alg) (Nr:Pt A Bo) (Ns:Ft A Bo) (FK:Pt A ow) (FL:Ft A ow) (qC:Pt A jq) (qD:Ft A jq) (gq:Pt A bZ) (gu:Ft A bZ) (XL:Pt A Bn) (XM:Ft A Bn) (Ut:Pt A Bj) (Uu:Ft A Bj) (x:Tup A.ah [.x .blk,.i]):Ot A MG:=
 A.l1 .b (A.bl false) fun x0=>
 A.bd .iop (A.fL .blk 2 .iop x.1) x.2.1<|
 A.l1 (.x .iop) (A.get .iop (A.fL .blk 2 .iop x.1) x.2.1) fun x1=>
 A.cl gq gu (A.fI .iop 0 x1.1,A.lit 1,A.lit 8,()) fun x2=>
 A.cond (A.aA x2.1) (A.rb (A.bl false))<|
 A.cl FK FL (x1.1,()) fun x3=>
 A.l1 .b x3.1 fun x4=>
 A.l1 .b x3.2.1 fun x5=>
 A.l1 .b x3.2.2.1 fun x6=>
 A.l1 .b x3.2.2.2.1 fun x7=>
 A.cl qC qD (A.fI .iop 3 x1.1,()) fun x8=>
 A.cl Ut Uu (A.fI .iop 3 x1.1,()) fun x9=>
 A.cl XL XM (A.fI .iop 3 x1.1,()) fun x10=>
 A.cl Ut Uu (A.fI .iop 3 x1.1,()) fun x11=>
 A.l1 .b (A.ak (A.cmp .eql (A.fI .iop 0 x1.1) (A.lit 1)) x8.1 (A.ak (A.cmp .eql (A.fI .iop 0 x1.1) (A.lit 2)) x9.1 (A.ak (A.cmp .eql (A.fI .iop 0 x1.1) (A.lit 3)) x10.1 (A.ak (A.cmp .eql (A.fI .iop 0 x1.1) (A.lit 8)) x11.1 (A.bl false))))) fun x12=>
 A.cg x4.1 Nr Ns (x.1,A.fI .iop 1 x1.1,x.2.1,()) fun x13=>
 A.cg (A.mQ (A.ak (A.ak x4.1 x13.1 (A.bl false)) (A.bl true) (A.ak (A.aA x4.1) (A.cmp .eql (A.fI .iop 1 x1.1) (A.lit 0)) (A.bl false))) x5.1) Nr Ns (x.1,A.fI .iop 2 x1.1,x.2.1,()) fun x14=>
 A.cg (A.mQ (A.ak (A.ak (A.ak (A.ak x4.1 x13.1 (A.bl false)) (A.bl true) (A.ak (A.aA x4.1) (A.cmp .eql (A.fI .iop 1 x1.1) (A.lit 0)) (A.bl false))) (A.ak (A.ak x5.1 x14.1 (A.bl false)) (A.bl true) (A.ak (A.aA x5.1) (A.cmp .eql (A.fI .iop 2 x1.1) (A.lit 0)) (A.bl false))) (A.bl false)) (A.ak (A.ak x6.1 x12.1 (A.bl false)) (A.bl true) (A.ak (A.aA x6.1) (A.cmp .eql (A.fI .iop 3 x1.1) (A.lit 0)) (A.bl false))) (A.bl false)) x7.1) gq gu (A.fI .iop 4 x1.1,A.lit 0,A.arith .sub .i64 (A.fI .blk 1 x.1) (A.lit 1),()) fun x15=>
 A.rb (A.ak (A.ak (A.ak (A.ak (A.ak x4.1 x13.1 (A.bl false)) (A.bl true) (A.ak (A.aA x4.1) (A.cmp .eql (A.fI .iop 1 x1.1) (A.lit 0)) (A.bl false))) (A.ak (A.ak x5.1 x14.1 (A.bl false)) (A.bl true) (A.ak (A.aA x5.1) (A.cmp .eql (A.fI .iop 2 x1.1) (A.lit 0)) (A.bl false))) (A.bl false)) (A.ak (A.ak x6.1 x12.1 (A.bl false)) (A.bl true) (A.ak (A.aA x6.1) (A.cmp .eql (A.fI .iop 3 x1.1) (A.lit 0)) (A.bl false))) (A.bl false)) (A.ak (A.ak x7.1 x15.1 (A.bl false)) (A.bl true) (A.ak (A.aA x7.1) (A.cmp .eql (A.fI .iop 4 x1.1) (A.lit 0)) (A.bl false))) (A.bl false))
def XO (A:Alg) (x:Tup A.ah [.x .blk]):Ot A oC:=
 A.l1 .b (A.bl false) fun x0=>
 A.l1 .b (A.bl false) fun x1=>
 A.l1 .b (A.bl false) fun x2=>
 A.l1 .b (A.cmp .neq (A.fI .blk 3 x.1) (A.lit 1)) fun x3=>
 A.l1 .b (A.cmp .geq (A.fI .blk 3 x.1) (A.lit 3)) fun x4=>
 A.l1 .b (A.cmp .neq (A.fI .blk 3 x.1) (A.lit 2)) fun x5=>
 A.ret _ (x3.1,x4.1,x5.1,())
def XP (A:Alg) (FN:Pt A oC) (FP:Ft A oC) (Nr:Pt A Bo) (Ns:Ft A Bo) (qC:Pt A jq) (qD:Ft A jq) (gq:Pt A bZ) (gu:Ft A bZ) (x:Tup A.ah [.x .blk]):Ot A MH:=
 A.l1 .b (A.bl false) fun x0=>
 A.cl FN FP (x.1,()) fun x1=>
 A.l1 .b x1.1 fun x2=>
 A.l1 .b x1.2.1 fun x3=>
 A.l1 .b x1.2.2.1 fun x4=>
 A.cl gq gu (A.fI .blk 3 x.1,A.lit 1,A.lit 4,()) fun x5=>
 A.cg (A.mQ x5.1 x2.1) Nr Ns (x.1,A.fI .blk 4 x.1,A.len .iop (A.fL .blk 2 .iop x.1),()) fun x6=>
 A.cg (A.mQ (A.ak x5.1 (A.ak (A.ak x2.1 x6.1 (A.bl false)) (A.bl true) (A.ak (A.aA x2.1) (A.cmp .eql (A.fI .blk 4 x.1) (A.lit 0)) (A.bl false))) (A.bl false)) x3.1) Nr Ns (x.1,A.fI .blk 5 x.1,A.len .iop (A.fL .blk 2 .iop x.1),()) fun x7=>
 A.cg (A.mQ (A.ak (A.ak x5.1 (A.ak (A.ak x2.1 x6.1 (A.bl false)) (A.bl true) (A.ak (A.aA x2.1) (A.cmp .eql (A.fI .blk 4 x.1) (A.lit 0)) (A.bl false))) (A.bl false)) (A.ak (A.ak x3.1 x7.1 (A.bl false)) (A.bl true) (A.ak (A.aA x3.1) (A.cmp .eql (A.fI .blk 5 x.1) (A.lit 0)) (A.bl false))) (A.bl false)) x4.1) qC qD (A.fI .blk 6 x.1,()) fun x8=>
 A.rb (A.ak (A.ak (A.ak x5.1 (A.ak (A.ak x2.1 x6.1 (A.bl false)) (A.bl true) (A.ak (A.aA x2.1) (A.cmp .eql (A.fI .blk 4 x.1) (A.lit 0)) (A.bl false))) (A.bl false)) (A.ak (A.ak x3.1 x7.1 (A.bl false)) (A.bl true) (A.ak (A.aA x3.1) (A.cmp .eql (A.fI .blk 5 x.1) (A.lit 0)) (A.bl false))) (A.bl false)) (A.ak (A.ak x4.1 x8.1 (A.bl false)) (A.bl true) (A.ak (A.aA x4.1) (A.cmp .eql (A.fI .blk 6 x.1) (A.lit 0)) (A.bl false))) (A.bl false))
def XQ (A:Alg) (ala:Pt A MH) (alb:Ft A MH) (alc:Pt A MG) (ald:Ft A MG) (gq:Pt A bZ) (gu:Ft A bZ) (x:Tup A.ah [.x .blk]):Ot A jr:=
 A.l1 .b (A.bl false) fun x0=>
 A.cl gq gu (A.fI .blk 1 x.1,A.lit 1,A.lit 8,()) fun x1=>
 A.cg (A.aA (A.aA x1.1)) gq gu (A.fI .blk 0 x.1,A.lit 0,A.arith .sub .i64 (A.lit 64) (A.fI .blk 1 x.1),()) fun x2=>
 A.cond (A.ak (A.ak (A.aA x1.1) (A.bl true) (A.aA x2.1)) (A.bl true) (A.cmp .gtr (A.len .iop (A.fL .blk 2 .iop x.1)) (A.lit 48))) (A.rb (A.bl false))<|
 A.iter [.i,.i,.x .blk] (fun x3=>
 A.cond (A.cmp .lss x3.2.1 x3.1) (A.l1 .i x3.2.1 fun x4=>
 A.cl alc ald (x3.2.2.1,x4.1,()) fun x5=>
 A.cond (A.aA x5.1) (A.l1 .b (A.bl false) fun x6=>
 A.inr _<|A.ret _ (x6.1,()))<|
 A.inl _ (x3.1,A.arith .add .i64 x3.2.1 (A.lit 1),x3.2.2.1,()))<|
 A.inr _<|A.cl ala alb (x3.2.2.1,()) fun x4=>
 A.rb x4.1) (A.len .iop (A.fL .blk 2 .iop x.1),A.lit 0,x.1,())
def XR (A:Alg) (x:Tup A.ah [.x .blk]):Ot A Bq:=
 A.chk (A.cmp .leq (A.len .iop (A.fL .blk 2 .iop x.1)) (A.lit 1073741824))<|
 A.l1 (.l .iop) (A.fL .blk 2 .iop x.1) fun x0=>
 A.ret _ (A.fI .blk 0 x.1,A.fI .blk 1 x.1,A.fI .blk 3 x.1,A.fI .blk 4 x.1,A.fI .blk 5 x.1,A.fI .blk 6 x.1,x0.1,())
def XU (A:Alg) (FN:Pt A oC) (FP:Ft A oC) (FK:Pt A ow) (FL:Ft A ow) (x:Tup A.ah [.l .i64,.i,.i,.i,.i,.i,.i,.l .iop]):Ot A Br:=
 A.iter [.l .i64,.i,.i,.i,.i,.i,.i,.i,.i,.l .iop] (fun x0=>
 A.cond (A.cmp .lss x0.2.2.1 x0.2.1) (A.bd .iop x0.o.2.1 x0.2.2.1<|
 A.bd .iop x0.o.2.1 x0.2.2.1<|
 A.l1 .i x0.2.2.1 fun x1=>
 A.l1 (.x .iop) (A.get .iop x0.o.2.1 x0.2.2.1) fun x2=>
 A.cl FK FL (x2.1,()) fun x3=>
 A.l1 .b x3.1 fun x4=>
 A.l1 .b x3.2.1 fun x5=>
 A.l1 .b x3.2.2.1 fun x6=>
 A.l1 .b x3.2.2.2.1 fun x7=>
 A.bind [.l .i64,.i,.b,.i,.i,.i,.i,.i,.i,.i,.i,.l .iop,.x .iop] (A.cond x4.1 (A.bd .i64 x0.1 (A.fI .iop 1 x2.1)<|
 A.bd .iop x0.o.2.1 x1.1<|
 A.bd .iop x0.o.2.1 x1.1<|
 A.l1 .i (A.fI .i64 0 (A.get .i64 x0.1 (A.fI .iop 1 x2.1))) fun x8=>
 A.ret _ (x0.1,x1.1,x5.1,x0.2.1,x0.2.2.1,x0.2.2.2.1,x0.q.1,x0.q.2.1,x0.q.2.2.1,x0.q.2.2.2.1,x0.o.1,A.set .iop x0.o.2.1 x1.1 (A.mkX .iop (A.fI .iop 0 (A.get .iop x0.o.2.1 x1.1),x8.1,A.fI .iop 2 (A.get .iop x0.o.2.1 x1.1),A.fI .iop 3 (A.get .iop x0.o.2.1 x1.1),A.fI .iop 4 (A.get .iop x0.o.2.1 x1.1),())),x2.1,()))<|
 A.ret _ (x0.1,x1.1,x5.1,x0.2.1,x0.2.2.1,x0.2.2.2.1,x0.q.1,x0.q.2.1,x0.q.2.2.1,x0.q.2.2.2.1,x0.o.1,x0.o.2.1,x2.1,())) fun x8=>
 A.bind [.l .i64,.i,.i,.i,.i,.i,.i,.i,.i,.l .iop] (A.cond x8.2.2.1 (A.bd .i64 x8.1 (A.fI .iop 2 x8.o.q.1)<|
 A.bd .iop x8.o.2.2.2.1 x8.2.1<|
 A.bd .iop x8.o.2.2.2.1 x8.2.1<|
 A.l1 .i (A.fI .i64 0 (A.get .i64 x8.1 (A.fI .iop 2 x8.o.q.1))) fun x9=>
 A.ret _ (x8.1,x8.2.2.2.1,x8.q.1,x8.q.2.1,x8.q.2.2.1,x8.q.2.2.2.1,x8.o.1,x8.o.2.1,x8.o.2.2.1,A.set .iop x8.o.2.2.2.1 x8.2.1 (A.mkX .iop (A.fI .iop 0 (A.get .iop x8.o.2.2.2.1 x8.2.1),A.fI .iop 1 (A.get .iop x8.o.2.2.2.1 x8.2.1),x9.1,A.fI .iop 3 (A.get .iop x8.o.2.2.2.1 x8.2.1),A.fI .iop 4 (A.get .iop x8.o.2.2.2.1 x8.2.1),())),()))<|
 A.ret _ (x8.1,x8.2.2.2.1,x8.q.1,x8.q.2.1,x8.q.2.2.1,x8.q.2.2.2.1,x8.o.1,x8.o.2.1,x8.o.2.2.1,x8.o.2.2.2.1,())) fun x9=>
 A.inl _ (x9.1,x9.2.1,A.arith .add .i64 x9.2.2.1 (A.lit 1),x9.2.2.2.1,x9.q.1,x9.q.2.1,x9.q.2.2.1,x9.q.2.2.2.1,x9.o.1,x9.o.2.1,()))<|
 A.inr _<|A.cl FN FP (A.mkX .blk (x0.2.2.2.1,x0.q.1,x0.o.2.1,x0.q.2.1,x0.q.2.2.1,x0.q.2.2.2.1,x0.o.1,()),()) fun x1=>
 A.l1 .b x1.1 fun x2=>
 A.l1 .b x1.2.1 fun x3=>
 A.l1 .b x1.2.2.1 fun x4=>
 A.bind [.l .i64,.b,.i,.i,.i,.i,.i,.i,.l .iop] (A.cond x2.1 (A.bd .i64 x0.1 x0.q.2.2.1<|
 A.l1 .i (A.fI .i64 0 (A.get .i64 x0.1 x0.q.2.2.1)) fun x5=>
 A.ret _ (x0.1,x3.1,x0.2.2.2.1,x0.q.1,x0.q.2.1,x5.1,x0.q.2.2.2.1,x0.o.1,x0.o.2.1,()))<|
 A.ret _ (x0.1,x3.1,x0.2.2.2.1,x0.q.1,x0.q.2.1,x0.q.2.2.1,x0.q.2.2.2.1,x0.o.1,x0.o.2.1,())) fun x5=>
 A.bind [.i,.i,.i,.i,.i,.i,.l .iop] (A.cond x5.2.1 (A.bd .i64 x5.1 x5.q.2.2.1<|
 A.l1 .i (A.fI .i64 0 (A.get .i64 x5.1 x5.q.2.2.1)) fun x6=>
 A.ret _ (x5.2.2.1,x5.2.2.2.1,x5.q.1,x5.q.2.1,x6.1,x5.q.2.2.2.1,x5.o.1,()))<|
 A.ret _ (x5.2.2.1,x5.2.2.2.1,x5.q.1,x5.q.2.1,x5.q.2.2.1,x5.q.2.2.2.1,x5.o.1,())) fun x6=>
 A.ret _ (x6.1,x6.2.1,x6.2.2.1,x6.2.2.2.1,x6.q.1,x6.q.2.1,x6.q.2.2.1,())) (x.1,A.len .iop x.q.2.2.2.1,A.lit 0,x.2.1,x.2.2.1,x.2.2.2.1,x.q.1,x.q.2.1,x.q.2.2.1,x.q.2.2.2.1,())
def XV (A:Alg) (XW:Pt A Bq) (XY:Ft A Bq) (XZ:Pt A Br) (X0:Ft A Br) (rW:Pt A jr) (rX:Ft A jr) (x:Tup A.ah [.x .blk]):Ot A MI:=
 A.cl rW rX (x.1,()) fun x0=>
 A.cond (A.aA x0.1) (A.ret _ (A.mkX .blk (A.lit 0,A.lit 0,A.bP .iop,A.lit 0,A.lit 0,A.lit 0,A.lit 0,()),()))<|
 A.chk (A.cmp .eql (A.len .iop (A.fL .blk 2 .iop x.1)) (A.len .iop (A.fL .blk 2 .iop x.1)))<|
 A.chk (A.cmp .leq (A.lit 0) (A.len .iop (A.fL .blk 2 .iop x.1)))<|
 A.chk (A.cmp .leq (A.len .iop (A.fL .blk 2 .iop x.1)) (A.lit 1073741824))<|
 A.l1 (.l .i64) (A.rep .i64 (A.len .iop (A.fL .blk 2 .iop x.1)) (A.mkX .i64 (A.lit 0,()))) fun x1=>
 A.l1 (.l .i64) (A.lst .i64 [A.mkX .i64 (A.lit (-1),()),A.mkX .i64 (A.lit (-1),()),A.mkX .i64 (A.lit (-1),()),A.mkX .i64 (A.lit (-1),())]) fun x2=>
 A.iter [.l .iop,.i,.i,.x .blk,.i,.i,.i,.i,.i,.i,.l .i64,.l .i64] (fun x3=>
 A.cond (A.cmp .lss x3.2.2.1 x3.2.1) (A.bd .iop x3.1 x3.2.2.1<|
 A.l1 .i x3.2.2.1 fun x4=>
 A.l1 (.x .iop) (A.get .iop x3.1 x3.2.2.1) fun x5=>
 A.bd .i64 x3.o.2.2.1 x4.1<|
 A.bd .i64 x3.o.2.2.1 x4.1<|
 A.l1 .i x4.1 fun x6=>
 A.chk (A.orB (A.aA (A.cmp .eql (A.fI .iop 0 x5.1) (A.lit 2))) (A.cmp .leq (A.lit 0) (A.fI .iop 3 x5.1)))<|
 A.chk (A.orB (A.aA (A.cmp .eql (A.fI .iop 0 x5.1) (A.lit 2))) (A.cmp .lss (A.fI .iop 3 x5.1) (A.len .i64 x3.o.2.2.2.1)))<|
 A.chk (A.orB (A.aA (A.cmp .eql (A.fI .iop 0 x5.1) (A.lit 2))) (A.cmp .leq (A.lit 0) (A.fI .iop 3 x5.1)))<|
 A.chk (A.orB (A.aA (A.cmp .eql (A.fI .iop 0 x5.1) (A.lit 2))) (A.cmp .lss (A.fI .iop 3 x5.1) (A.len .i64 x3.o.2.2.2.1)))<|
 A.l1 .b (A.ak (A.cmp .eql (A.fI .iop 0 x5.1) (A.lit 2)) (A.cmp .geq (A.fI .i64 0 (A.get .i64 x3.o.2.2.2.1 (A.fI .iop 3 x5.1))) (A.lit 0)) (A.bl false)) fun x7=>
 A.bind [.l .iop,.i,.i,.x .blk,.i,.i,.i,.i,.i,.i,.l .i64,.l .i64] (A.cond x7.1 (A.bd .i64 x3.o.2.2.2.1 (A.fI .iop 3 x5.1)<|
 A.bd .i64 x3.o.2.2.2.1 (A.fI .iop 3 x5.1)<|
 A.bd .i64 (A.set .i64 x3.o.2.2.1 x4.1 (A.mkX .i64 (x6.1,()))) x4.1<|
 A.bd .i64 (A.set .i64 x3.o.2.2.1 x4.1 (A.mkX .i64 (x6.1,()))) x4.1<|
 A.l1 .i (A.fI .i64 0 (A.get .i64 x3.o.2.2.2.1 (A.fI .iop 3 x5.1))) fun x8=>
 A.ret _ (x3.1,x3.2.1,x3.2.2.1,x3.2.2.2.1,x3.q.1,x3.q.2.1,x3.q.2.2.1,x3.q.2.2.2.1,x3.o.1,x3.o.2.1,A.set .i64 (A.set .i64 x3.o.2.2.1 x4.1 (A.mkX .i64 (x6.1,()))) x4.1 (A.mkX .i64 (x8.1,())),x3.o.2.2.2.1,()))<|
 A.l1 .b (A.cmp .eql (A.fI .iop 0 x5.1) (A.lit 2)) fun x8=>
 A.bind [.l .iop,.i,.i,.x .blk,.i,.i,.i,.i,.i,.i,.l .i64,.l .i64] (A.cond x8.1 (A.bd .i64 x3.o.2.2.2.1 (A.fI .iop 3 x5.1)<|
 A.bd .i64 x3.o.2.2.2.1 (A.fI .iop 3 x5.1)<|
 A.l1 .i x4.1 fun x9=>
 A.ret _ (x3.1,x3.2.1,x3.2.2.1,x3.2.2.2.1,x3.q.1,x3.q.2.1,x3.q.2.2.1,x3.q.2.2.2.1,x3.o.1,x3.o.2.1,A.set .i64 x3.o.2.2.1 x4.1 (A.mkX .i64 (x6.1,())),A.set .i64 x3.o.2.2.2.1 (A.fI .iop 3 x5.1) (A.mkX .i64 (x9.1,())),()))<|
 A.l1 .b (A.cmp .eql (A.fI .iop 0 x5.1) (A.lit 8)) fun x9=>
 A.bind [.l .iop,.i,.i,.x .blk,.i,.i,.i,.i,.i,.i,.l .i64,.l .i64] (A.cond x9.1 (A.bd .i64 (A.set .i64 x3.o.2.2.1 x4.1 (A.mkX .i64 (x6.1,()))) (A.fI .iop 1 x5.1)<|
 A.bd .i64 (A.set .i64 x3.o.2.2.1 x4.1 (A.mkX .i64 (x6.1,()))) (A.fI .iop 1 x5.1)<|
 A.bd .i64 x3.o.2.2.2.1 (A.fI .iop 3 x5.1)<|
 A.bd .i64 x3.o.2.2.2.1 (A.fI .iop 3 x5.1)<|
 A.l1 .i (A.fI .i64 0 (A.get .i64 (A.set .i64 x3.o.2.2.1 x4.1 (A.mkX .i64 (x6.1,()))) (A.fI .iop 1 x5.1))) fun x10=>
 A.ret _ (x3.1,x3.2.1,x3.2.2.1,x3.2.2.2.1,x3.q.1,x3.q.2.1,x3.q.2.2.1,x3.q.2.2.2.1,x3.o.1,x3.o.2.1,A.set .i64 x3.o.2.2.1 x4.1 (A.mkX .i64 (x6.1,())),A.set .i64 x3.o.2.2.2.1 (A.fI .iop 3 x5.1) (A.mkX .i64 (x10.1,())),()))<|
 A.ret _ (x3.1,x3.2.1,x3.2.2.1,x3.2.2.2.1,x3.q.1,x3.q.2.1,x3.q.2.2.1,x3.q.2.2.2.1,x3.o.1,x3.o.2.1,A.set .i64 x3.o.2.2.1 x4.1 (A.mkX .i64 (x6.1,())),x3.o.2.2.2.1,())) fun x10=>
 A.ret _ (x10.1,x10.2.1,x10.2.2.1,x10.2.2.2.1,x10.q.1,x10.q.2.1,x10.q.2.2.1,x10.q.2.2.2.1,x10.o.1,x10.o.2.1,x10.o.2.2.1,x10.o.2.2.2.1,())) fun x9=>
 A.ret _ (x9.1,x9.2.1,x9.2.2.1,x9.2.2.2.1,x9.q.1,x9.q.2.1,x9.q.2.2.1,x9.q.2.2.2.1,x9.o.1,x9.o.2.1,x9.o.2.2.1,x9.o.2.2.2.1,())) fun x8=>
 A.inl _ (x8.1,x8.2.1,A.arith .add .i64 x8.2.2.1 (A.lit 1),x8.2.2.2.1,x8.q.1,x8.q.2.1,x8.q.2.2.1,x8.q.2.2.2.1,x8.o.1,x8.o.2.1,x8.o.2.2.1,x8.o.2.2.2.1,()))<|
 A.inr _<|A.cl XW XY (x3.2.2.2.1,()) fun x4=>
 A.cl XZ X0 (x3.o.2.2.1,x4.1,x4.2.1,x4.2.2.1,x4.2.2.2.1,x4.q.1,x4.q.2.1,x4.q.2.2.1,()) fun x5=>
 A.ret _ (A.mkX .blk (x5.1,x5.2.1,x5.q.2.2.1,x5.2.2.1,x5.2.2.2.1,x5.q.1,x5.q.2.1,()),())) (A.fL .blk 2 .iop x.1,A.len .iop (A.fL .blk 2 .iop x.1),A.lit 0,x.1,A.lit 0,A.lit 0,A.lit 0,A.lit 0,A.lit 0,A.lit 0,x1.1,x2.1,())
def X3 (A:Alg) (qC:Pt A jq) (qD:Ft A jq) (x:Tup A.ah []):Ot A MJ:=
 A.l1 .b (A.bl false) fun x0=>
 A.cl qC qD (A.lit 1,()) fun x1=>
 A.rb x1.1
def X4 (A:Alg) (FN:Pt A oC) (FP:Ft A oC) (FK:Pt A ow) (FL:Ft A ow) (x:Tup A.ah [.x .blk]):Ot A MK:=
 A.chk (A.cmp .eql (A.len .iop (A.fL .blk 2 .iop x.1)) (A.len .iop (A.fL .blk 2 .iop x.1)))<|
 A.chk (A.cmp .leq (A.lit 0) (A.len .iop (A.fL .blk 2 .iop x.1)))<|
 A.chk (A.cmp .leq (A.len .iop (A.fL .blk 2 .iop x.1)) (A.lit 1073741824))<|
 A.l1 (.l .bool) (A.rep .bool (A.len .iop (A.fL .blk 2 .iop x.1)) (A.mkX .bool (A.bl false,()))) fun x0=>
 A.cl FN FP (x.1,()) fun x1=>
 A.l1 .b x1.1 fun x2=>
 A.l1 .b x1.2.1 fun x3=>
 A.l1 .b x1.2.2.1 fun x4=>
 A.bind [.b,.x .blk,.l .bool] (A.cond x2.1 (A.bd .bool x0.1 (A.fI .blk 4 x.1)<|
 A.bd .bool x0.1 (A.fI .blk 4 x.1)<|
 A.l1 .b (A.bl true) fun x5=>
 A.ret _ (x3.1,x.1,A.set .bool x0.1 (A.fI .blk 4 x.1) (A.mkX .bool (x5.1,())),()))<|
 A.ret _ (x3.1,x.1,x0.1,())) fun x5=>
 A.bind [.x .blk,.l .bool] (A.cond x5.1 (A.bd .bool x5.2.2.1 (A.fI .blk 5 x5.2.1)<|
 A.bd .bool x5.2.2.1 (A.fI .blk 5 x5.2.1)<|
 A.l1 .b (A.bl true) fun x6=>
 A.ret _ (x5.2.1,A.set .bool x5.2.2.1 (A.fI .blk 5 x5.2.1) (A.mkX .bool (x6.1,())),()))<|
 A.ret _ (x5.2.1,x5.2.2.1,())) fun x6=>
 A.l1 .i (A.arith .sub .i64 (A.len .iop (A.fL .blk 2 .iop x6.1)) (A.lit 1)) fun x7=>
 A.iter [.i,.x .blk,.l .bool] (fun x8=>
 A.cond (A.cmp .geq x8.1 (A.lit 0)) (A.jS [.i,.x .blk,.l .bool] (A.bd .iop (A.fL .blk 2 .iop x8.2.1) x8.1<|
 A.l1 (.x .iop) (A.get .iop (A.fL .blk 2 .iop x8.2.1) x8.1) fun x9=>
 A.bd .bool x8.2.2.1 x8.1<|
 A.bd .bool x8.2.2.1 x8.1<|
 A.bd .bool x8.2.2.1 x8.1<|
 A.bd .bool x8.2.2.1 x8.1<|
 A.l1 .b (A.ak (A.fB .bool 0 (A.get .bool x8.2.2.1 x8.1)) (A.bl true) (A.cmp .geq (A.fI .iop 0 x9.1) (A.lit 4))) fun x10=>
 A.bd .bool (A.set .bool x8.2.2.1 x8.1 (A.mkX .bool (x10.1,()))) x8.1<|
 A.bd .bool (A.set .bool x8.2.2.1 x8.1 (A.mkX .bool (x10.1,()))) x8.1<|
 A.cond (A.aA (A.fB .bool 0 (A.get .bool (A.set .bool x8.2.2.1 x8.1 (A.mkX .bool (x10.1,()))) x8.1))) (A.inl _ (x8.1,x8.2.1,A.set .bool x8.2.2.1 x8.1 (A.mkX .bool (x10.1,())),()))<|
 A.cl FK FL (x9.1,()) fun x11=>
 A.l1 .b x11.1 fun x12=>
 A.l1 .b x11.2.1 fun x13=>
 A.l1 .b x11.2.2.1 fun x14=>
 A.l1 .b x11.2.2.2.1 fun x15=>
 A.bind [.i,.b,.x .blk,.l .bool,.x .iop] (A.cond x12.1 (A.bd .bool (A.set .bool x8.2.2.1 x8.1 (A.mkX .bool (x10.1,()))) (A.fI .iop 1 x9.1)<|
 A.bd .bool (A.set .bool x8.2.2.1 x8.1 (A.mkX .bool (x10.1,()))) (A.fI .iop 1 x9.1)<|
 A.l1 .b (A.bl true) fun x16=>
 A.ret _ (x8.1,x13.1,x8.2.1,A.set .bool (A.set .bool x8.2.2.1 x8.1 (A.mkX .bool (x10.1,()))) (A.fI .iop 1 x9.1) (A.mkX .bool (x16.1,())),x9.1,()))<|
 A.ret _ (x8.1,x13.1,x8.2.1,A.set .bool x8.2.2.1 x8.1 (A.mkX .bool (x10.1,())),x9.1,())) fun x16=>
 A.bind [.i,.x .blk,.l .bool] (A.cond x16.2.1 (A.bd .bool x16.2.2.2.1 (A.fI .iop 2 x16.q.1)<|
 A.bd .bool x16.2.2.2.1 (A.fI .iop 2 x16.q.1)<|
 A.l1 .b (A.bl true) fun x17=>
 A.ret _ (x16.1,x16.2.2.1,A.set .bool x16.2.2.2.1 (A.fI .iop 2 x16.q.1) (A.mkX .bool (x17.1,())),()))<|
 A.ret _ (x16.1,x16.2.2.1,x16.2.2.2.1,())) fun x17=>
 A.inl _ (x17.1,x17.2.1,x17.2.2.1,())) fun x9=>
 A.l1 .i (A.arith .sub .i64 x9.1 (A.lit 1)) fun x10=>
 A.inl _ (x10.1,x9.2.1,x9.2.2.1,()))<|
 A.inr _<|A.ret _ (x8.2.2.1,())) (x7.1,x6.1,x6.2.1,())
def Ri (A:Alg) (x:Tup A.ah [.l .iop,.l .iop]):Ot A EK:=
 A.l1 .b (A.bl false) fun x0=>
 A.cond (A.cmp .neq (A.len .iop x.1) (A.len .iop x.2.1)) (A.rb (A.bl false))<|
 A.iter [.l .iop,.l .iop,.i,.i] (fun x1=>
 A.cond (A.cmp .lss x1.2.2.2.1 x1.2.2.1) (A.l1 .i x1.2.2.2.1 fun x2=>
 A.bd .iop x1.1 x2.1<|
 A.bd .iop x1.2.1 x2.1<|
 A.cond (A.aA (A.eqX .iop (A.get .iop x1.1 x2.1) (A.get .iop x1.2.1 x2.1))) (A.l1 .b (A.bl false) fun x3=>
 A.inr _<|A.ret _ (x3.1,()))<|
 A.inl _ (x1.1,x1.2.1,x1.2.2.1,A.arith .add .i64 x1.2.2.2.1 (A.lit 1),()))<|
 A.inr _<|A.rb (A.bl true)) (x.1,x.2.1,A.len .iop x.1,A.lit 0,())
def X5 (A:Alg) (afm:Pt A EK) (afn:Ft A EK) (x:Tup A.ah [.x .blk,.x .blk]):Ot A ML:=
 A.l1 .b (A.bl false) fun x0=>
 A.cg (A.ak (A.ak (A.ak (A.ak (A.ak (A.cmp .eql (A.fI .blk 0 x.1) (A.fI .blk 0 x.2.1)) (A.cmp .eql (A.fI .blk 1 x.1) (A.fI .blk 1 x.2.1)) (A.bl false)) (A.cmp .eql (A.fI .blk 3 x.1) (A.fI .blk 3 x.2.1)) (A.bl false)) (A.cmp .eql (A.fI .blk 4 x.1) (A.fI .blk 4 x.2.1)) (A.bl false)) (A.cmp .eql (A.fI .blk 5 x.1) (A.fI .blk 5 x.2.1)) (A.bl false)) (A.cmp .eql (A.fI .blk 6 x.1) (A.fI .blk 6 x.2.1)) (A.bl false)) afm afn (A.fL .blk 2 .iop x.1,A.fL .blk 2 .iop x.2.1,()) fun x1=>
 A.rb (A.ak (A.ak (A.ak (A.ak (A.ak (A.ak (A.cmp .eql (A.fI .blk 0 x.1) (A.fI .blk 0 x.2.1)) (A.cmp .eql (A.fI .blk 1 x.1) (A.fI .blk 1 x.2.1)) (A.bl false)) (A.cmp .eql (A.fI .blk 3 x.1) (A.fI .blk 3 x.2.1)) (A.bl false)) (A.cmp .eql (A.fI .blk 4 x.1) (A.fI .blk 4 x.2.1)) (A.bl false)) (A.cmp .eql (A.fI .blk 5 x.1) (A.fI .blk 5 x.2.1)) (A.bl false)) (A.cmp .eql (A.fI .blk 6 x.1) (A.fI .blk 6 x.2.1)) (A.bl false)) x1.1 (A.bl false))
def X6 (A:Alg) (x:Tup A.ah [.i,.i]):Ot A MN:=
 A.l1 .b (A.bl false) fun x0=>
 A.l1 .b (A.cmp .geq x.1 x.2.1) fun x1=>
 A.ret _ (x1.1,x.2.1,())
def Rj (A:Alg) (ale:Pt A MN) (alf:Ft A MN) (x:Tup A.ah [.l .i64,.i]):Ot A EL:=
 A.l1 .i (A.lit 0) fun x0=>
 A.iter [.l .i64,.i,.i,.i] (fun x1=>
 A.cond (A.cmp .lss x1.2.2.1 x1.2.1) (A.l1 .i x1.2.2.1 fun x2=>
 A.bd .i64 x1.1 x2.1<|
 A.cl ale alf (A.fI .i64 0 (A.get .i64 x1.1 x2.1),x1.2.2.2.1,()) fun x3=>
 A.cond x3.1 (A.l1 .i x2.1 fun x4=>
 A.inr _<|A.ret _ (x4.1,x3.2.1,()))<|
 A.inl _ (x1.1,x1.2.1,A.arith .add .i64 x1.2.2.1 (A.lit 1),x3.2.1,()))<|
 A.inr _<|A.l1 .i (A.lit (-1)) fun x2=>
 A.ret _ (x2.1,x1.2.2.2.1,())) (x.1,A.len .i64 x.1,A.lit 0,x.2.1,())
def Rk (A:Alg) (afo:Pt A EL) (afp:Ft A EL) (x:Tup A.ah [.l .i64,.i]):Ot A EM:=
 A.l1 .b (A.bl false) fun x0=>
 A.cl afo afp (x.1,x.2.1,()) fun x1=>
 A.l1 .b (A.cmp .geq x1.1 (A.lit 0)) fun x2=>
 A.ret _ (x2.1,x1.2.1,())
def X7 (A:Alg) (afq:Pt A EM) (afr:Ft A EM) (x:Tup A.ah [.x .poly,.i]):Ot A Bu:=
 A.l1 .b (A.bl false) fun x0=>
 A.iter [.l .mono,.i,.i,.i] (fun x1=>
 A.cond (A.cmp .lss x1.2.2.1 x1.2.1) (A.bd .mono x1.1 x1.2.2.1<|
 A.l1 (.x .mono) (A.get .mono x1.1 x1.2.2.1) fun x2=>
 A.cl afq afr (A.fL .mono 1 .i64 x2.1,x1.2.2.2.1,()) fun x3=>
 A.cond x3.1 (A.l1 .b (A.bl false) fun x4=>
 A.inr _<|A.ret _ (x4.1,()))<|
 A.inl _ (x1.1,x1.2.1,A.arith .add .i64 x1.2.2.1 (A.lit 1),x3.2.1,()))<|
 A.inr _<|A.rb (A.bl true)) (A.fL .poly 0 .mono x.1,A.len .mono (A.fL .poly 0 .mono x.1),A.lit 0,x.2.1,())
def afs (A:Alg) (x:Tup A.ah [.i]):Ot A MO:=
 A.l1 .b (A.bl false) fun x0=>
 A.rb (A.cmp .neq x.1 x.1)
def aft (A:Alg) (X8:Pt A MO) (X9:Ft A MO) (x:Tup A.ah [.i,.i]):Ot A EN:=
 A.l1 .i (A.lit 0) fun x0=>
 A.cl X8 X9 (x.1,()) fun x1=>
 A.l1 .b x1.1 fun x2=>
 A.cl X8 X9 (x.2.1,()) fun x3=>
 A.l1 .b x3.1 fun x4=>
 A.cond x2.1 (A.cond x4.1 (A.l1 .i (A.lit 0) fun x5=>
 A.ret _ (x5.1,()))<|
 A.l1 .i (A.lit (-1)) fun x5=>
 A.ret _ (x5.1,()))<|
 A.cond x4.1 (A.l1 .i (A.lit 1) fun x5=>
 A.ret _ (x5.1,()))<|
 A.cond (A.cmp .lss x.1 x.2.1) (A.l1 .i (A.lit (-1)) fun x5=>
 A.ret _ (x5.1,()))<|
 A.cond (A.cmp .gtr x.1 x.2.1) (A.l1 .i (A.lit 1) fun x5=>
 A.ret _ (x5.1,()))<|
 A.l1 .i (A.lit 0) fun x5=>
 A.ret _ (x5.1,())
def afu (A:Alg) (x:Tup A.ah [.l .i64]):Ot A MQ:=
 A.l1 .i (A.lit 0) fun x0=>
 A.l1 .i (A.lit 0) fun x1=>
 A.iter [.i,.l .i64,.i,.i] (fun x2=>
 A.cond (A.cmp .lss x2.2.2.2.1 x2.2.2.1) (A.bd .i64 x2.2.1 x2.2.2.2.1<|
 A.l1 .i (A.fI .i64 0 (A.get .i64 x2.2.1 x2.2.2.2.1)) fun x3=>
 A.cond (A.cmp .neq x3.1 x2.1) (A.l1 .i x3.1 fun x4=>
 A.inr _<|A.ret _ (x4.1,()))<|
 A.inl _ (x2.1,x2.2.1,x2.2.2.1,A.arith .add .i64 x2.2.2.2.1 (A.lit 1),()))<|
 A.inr _<|A.l1 .i x2.1 fun x3=>
 A.ret _ (x3.1,())) (x1.1,x.1,A.len .i64 x.1,A.lit 0,())
def Ya (A:Alg) (V3:Pt A EN) (V4:Ft A EN) (x:Tup A.ah [.l .i64,.l .i64]):Ot A MR:=
 A.l1 .i (A.lit 0) fun x0=>
 A.iter [.l .i64,.l .i64,.l .i64,.i,.i] (fun x1=>
 A.cond (A.cmp .lss x1.q.1 x1.2.2.2.1) (A.bd .i64 x1.2.2.1 x1.q.1<|
 A.l1 .i x1.q.1 fun x2=>
 A.l1 .i (A.fI .i64 0 (A.get .i64 x1.2.2.1 x1.q.1)) fun x3=>
 A.cond (A.cmp .geq x2.1 (A.len .i64 x1.2.1)) (A.l1 .i (A.lit 1) fun x4=>
 A.inr _<|A.ret _ (x4.1,()))<|
 A.bd .i64 x1.2.1 x2.1<|
 A.l1 .i (A.fI .i64 0 (A.get .i64 x1.2.1 x2.1)) fun x4=>
 A.cl V3 V4 (x3.1,x4.1,()) fun x5=>
 A.l1 .i x5.1 fun x6=>
 A.cond (A.cmp .neq x6.1 (A.lit 0)) (A.l1 .i x6.1 fun x7=>
 A.inr _<|A.ret _ (x7.1,()))<|
 A.inl _ (x1.1,x1.2.1,x1.2.2.1,x1.2.2.2.1,A.arith .add .i64 x1.q.1 (A.lit 1),()))<|
 A.inr _<|A.cond (A.cmp .lss (A.len .i64 x1.1) (A.len .i64 x1.2.1)) (A.l1 .i (A.lit (-1)) fun x2=>
 A.ret _ (x2.1,()))<|
 A.l1 .i (A.lit 0) fun x2=>
 A.ret _ (x2.1,())) (x.1,x.2.1,x.1,A.len .i64 x.1,A.lit 0,())
def Yb (A:Alg) (afv:Pt A MQ) (afw:Ft A MQ) (V3:Pt A EN) (V4:Ft A EN) (alg:Pt A MR) (alh:Ft A MR) (x:Tup A.ah [.l .i64,.l .i64]):Ot A oD:=
 A.l1 .i (A.lit 0) fun x0=>
 A.cl V3 V4 (A.len .i64 x.1,A.len .i64 x.2.1,()) fun x1=>
 A.cl alg alh (x.1,x.2.1,()) fun x2=>
 A.l1 (.l .i64) (A.lst .i64 [A.mkX .i64 (x1.1,()),A.mkX .i64 (x2.1,())]) fun x3=>
 A.cl afv afw (x3.1,()) fun x4=>
 A.l1 .i x4.1 fun x5=>
 A.ret _ (x5.1,())
def afx (A:Alg) (X8:Pt A MO) (X9:Ft A MO) (x:Tup A.ah [.i,.i]):Ot A EO:=
 A.l1 .b (A.bl false) fun x0=>
 A.cl X8 X9 (x.1,()) fun x1=>
 A.cg x1.1 X8 X9 (x.2.1,()) fun x2=>
 A.rb (A.ak (A.ak x1.1 (A.aA x2.1) (A.bl false)) (A.bl true) (A.cmp .lss x.1 x.2.1))
def Rl (A:Alg) (Yc:Pt A EO) (Yd:Ft A EO) (x:Tup A.ah [.l .i64]):Ot A EP:=
 A.l1 .b (A.bl false) fun x0=>
 A.l1 .i (A.arith .sub .i64 (A.len .i64 x.1) (A.lit 1)) fun x1=>
 A.iter [.l .i64,.i] (fun x2=>
 A.cond (A.cmp .gtr x2.2.1 (A.lit 0)) (A.bd .i64 x2.1 x2.2.1<|
 A.bd .i64 x2.1 (A.arith .sub .i64 x2.2.1 (A.lit 1))<|
 A.cl Yc Yd (A.fI .i64 0 (A.get .i64 x2.1 x2.2.1),A.fI .i64 0 (A.get .i64 x2.1 (A.arith .sub .i64 x2.2.1 (A.lit 1))),()) fun x3=>
 A.cond x3.1 (A.l1 .b (A.bl false) fun x4=>
 A.inr _<|A.ret _ (x4.1,()))<|
 A.l1 .i (A.arith .sub .i64 x2.2.1 (A.lit 1)) fun x4=>
 A.inl _ (x2.1,x4.1,()))<|
 A.inr _<|A.rb (A.bl true)) (x.1,x1.1,())
def Ye (A:Alg) (x:Tup A.ah [.x .mono]):Ot A MS:=
 A.l1 .b (A.bl false) fun x0=>
 A.chk (A.orB (A.aA (A.cmp .gtr (A.len .i64 (A.fL .mono 1 .i64 x.1)) (A.lit 0))) (A.cmp .leq (A.lit 0) (A.lit 0)))<|
 A.chk (A.orB (A.aA (A.cmp .gtr (A.len .i64 (A.fL .mono 1 .i64 x.1)) (A.lit 0))) (A.cmp .lss (A.lit 0) (A.len .i64 (A.fL .mono 1 .i64 x.1))))<|
 A.rb (A.ak (A.cmp .gtr (A.len .i64 (A.fL .mono 1 .i64 x.1)) (A.lit 0)) (A.cmp .lss (A.fI .i64 0 (A.get .i64 (A.fL .mono 1 .i64 x.1) (A.lit 0))) (A.lit 0)) (A.bl false))
def Rm (A:Alg) (ali:Pt A MS) (alj:Ft A MS) (x:Tup A.ah [.l .mono]):Ot A ER:=
 A.l1 .i (A.lit 0) fun x0=>
 A.iter [.l .mono,.i,.i] (fun x1=>
 A.cond (A.cmp .lss x1.2.2.1 x1.2.1) (A.l1 .i x1.2.2.1 fun x2=>
 A.bd .mono x1.1 x2.1<|
 A.cl ali alj (A.get .mono x1.1 x2.1,()) fun x3=>
 A.cond x3.1 (A.l1 .i x2.1 fun x4=>
 A.inr _<|A.ret _ (x4.1,()))<|
 A.inl _ (x1.1,x1.2.1,A.arith .add .i64 x1.2.2.1 (A.lit 1),()))<|
 A.inr _<|A.l1 .i (A.lit (-1)) fun x2=>
 A.ret _ (x2.1,())) (x.1,A.len .mono x.1,A.lit 0,())
def Rn (A:Alg) (afy:Pt A ER) (afz:Ft A ER) (x:Tup A.ah [.l .mono]):Ot A ET:=
 A.l1 .b (A.bl false) fun x0=>
 A.cl afy afz (x.1,()) fun x1=>
 A.rb (A.cmp .geq x1.1 (A.lit 0))
def Yf (A:Alg) (gq:Pt A bZ) (gu:Ft A bZ) (Uv:Pt A Bu) (Uw:Ft A Bu) (afA:Pt A EP) (afB:Ft A EP) (FQ:Pt A oD) (FR:Ft A oD) (afC:Pt A ET) (afD:Ft A ET) (x:Tup A.ah [.x .poly]):Ot A iG:=
 A.l1 .b (A.bl false) fun x0=>
 A.iter [.l .mono,.i,.i,.x .poly] (fun x1=>
 A.cond (A.cmp .lss x1.2.2.1 x1.2.1) (A.bd .mono x1.1 x1.2.2.1<|
 A.l1 .i x1.2.2.1 fun x2=>
 A.l1 (.x .mono) (A.get .mono x1.1 x1.2.2.1) fun x3=>
 A.cl gq gu (A.fI .mono 0 x3.1,A.lit 1,A.lit 65535,()) fun x4=>
 A.cg (A.aA (A.ak (A.aA x4.1) (A.bl true) (A.cmp .gtr (A.len .i64 (A.fL .mono 1 .i64 x3.1)) (A.lit 4)))) afA afB (A.fL .mono 1 .i64 x3.1,()) fun x5=>
 A.chk (A.orB (A.aA (A.mQ (A.aA (A.ak (A.ak (A.aA x4.1) (A.bl true) (A.cmp .gtr (A.len .i64 (A.fL .mono 1 .i64 x3.1)) (A.lit 4))) (A.bl true) (A.aA x5.1))) (A.cmp .gtr x2.1 (A.lit 0)))) (A.cmp .leq (A.lit 0) (A.arith .sub .i64 x2.1 (A.lit 1))))<|
 A.chk (A.orB (A.aA (A.mQ (A.aA (A.ak (A.ak (A.aA x4.1) (A.bl true) (A.cmp .gtr (A.len .i64 (A.fL .mono 1 .i64 x3.1)) (A.lit 4))) (A.bl true) (A.aA x5.1))) (A.cmp .gtr x2.1 (A.lit 0)))) (A.cmp .lss (A.arith .sub .i64 x2.1 (A.lit 1)) (A.len .mono (A.fL .poly 0 .mono x1.2.2.2.1))))<|
 A.cg (A.mQ (A.aA (A.ak (A.ak (A.aA x4.1) (A.bl true) (A.cmp .gtr (A.len .i64 (A.fL .mono 1 .i64 x3.1)) (A.lit 4))) (A.bl true) (A.aA x5.1))) (A.cmp .gtr x2.1 (A.lit 0))) FQ FR (A.fL .mono 1 .i64 (A.get .mono (A.fL .poly 0 .mono x1.2.2.2.1) (A.arith .sub .i64 x2.1 (A.lit 1))),A.fL .mono 1 .i64 x3.1,()) fun x6=>
 A.cond (A.ak (A.ak (A.ak (A.aA x4.1) (A.bl true) (A.cmp .gtr (A.len .i64 (A.fL .mono 1 .i64 x3.1)) (A.lit 4))) (A.bl true) (A.aA x5.1)) (A.bl true) (A.ak (A.cmp .gtr x2.1 (A.lit 0)) (A.cmp .geq x6.1 (A.lit 0)) (A.bl false))) (A.l1 .b (A.bl false) fun x7=>
 A.inr _<|A.ret _ (x7.1,()))<|
 A.inl _ (x1.1,x1.2.1,A.arith .add .i64 x1.2.2.1 (A.lit 1),x1.2.2.2.1,()))<|
 A.inr _<|A.cg (A.cmp .leq (A.len .mono (A.fL .poly 0 .mono x1.2.2.2.1)) (A.lit 12)) Uv Uw (x1.2.2.2.1,A.lit 200,()) fun x2=>
 A.cg (A.ak (A.cmp .leq (A.len .mono (A.fL .poly 0 .mono x1.2.2.2.1)) (A.lit 12)) x2.1 (A.bl false)) afC afD (A.fL .poly 0 .mono x1.2.2.2.1,()) fun x3=>
 A.rb (A.ak (A.ak (A.cmp .leq (A.len .mono (A.fL .poly 0 .mono x1.2.2.2.1)) (A.lit 12)) x2.1 (A.bl false)) (A.aA x3.1) (A.bl false))) (A.fL .poly 0 .mono x.1,A.len .mono (A.fL .poly 0 .mono x.1),A.lit 0,x.1,())
def Yg (A:Alg) (gq:Pt A bZ) (gu:Ft A bZ) (XL:Pt A Bn) (XM:Ft A Bn) (Uv:Pt A Bu) (Uw:Ft A Bu) (kS:Pt A iG) (kU:Ft A iG) (Ut:Pt A Bj) (Uu:Ft A Bj) (x:Tup A.ah [.x .atom,.i]):Ot A Bv:=
 A.l1 .b (A.bl false) fun x0=>
 A.cond (A.cmp .eql (A.fI .atom 0 x.1) (A.lit 4)) (A.cl XL XM (A.fI .atom 1 x.1,()) fun x1=>
 A.cg x1.1 kS kU (A.mkX .poly (A.fL .atom 2 .mono x.1,()),()) fun x2=>
 A.cg (A.ak x1.1 x2.1 (A.bl false)) kS kU (A.mkX .poly (A.fL .atom 3 .mono x.1,()),()) fun x3=>
 A.cg (A.ak (A.ak x1.1 x2.1 (A.bl false)) x3.1 (A.bl false)) Uv Uw (A.mkX .poly (A.fL .atom 2 .mono x.1,()),x.2.1,()) fun x4=>
 A.cg (A.ak (A.ak (A.ak x1.1 x2.1 (A.bl false)) x3.1 (A.bl false)) x4.1 (A.bl false)) Uv Uw (A.mkX .poly (A.fL .atom 3 .mono x.1,()),x.2.1,()) fun x5=>
 A.rb (A.ak (A.ak (A.ak (A.ak x1.1 x2.1 (A.bl false)) x3.1 (A.bl false)) x4.1 (A.bl false)) x5.1 (A.bl false)))<|
 A.cond (A.cmp .gtr (A.arith .add .i64 (A.len .mono (A.fL .atom 2 .mono x.1)) (A.len .mono (A.fL .atom 3 .mono x.1))) (A.lit 0)) (A.rb (A.bl false))<|
 A.cg (A.cmp .eql (A.fI .atom 0 x.1) (A.lit 1)) Ut Uu (A.fI .atom 1 x.1,()) fun x1=>
 A.cg (A.mQ (A.aA (A.ak (A.cmp .eql (A.fI .atom 0 x.1) (A.lit 1)) x1.1 (A.bl false))) (A.ak (A.cmp .eql (A.fI .atom 0 x.1) (A.lit 2)) (A.bl true) (A.cmp .eql (A.fI .atom 0 x.1) (A.lit 3)))) gq gu (A.fI .atom 1 x.1,A.lit 0,A.lit 199,()) fun x2=>
 A.rb (A.ak (A.ak (A.cmp .eql (A.fI .atom 0 x.1) (A.lit 1)) x1.1 (A.bl false)) (A.bl true) (A.ak (A.ak (A.cmp .eql (A.fI .atom 0 x.1) (A.lit 2)) (A.bl true) (A.cmp .eql (A.fI .atom 0 x.1) (A.lit 3))) x2.1 (A.bl false)))
def Yh (A:Alg) (afv:Pt A MQ) (afw:Ft A MQ) (V3:Pt A EN) (V4:Ft A EN) (FQ:Pt A oD) (FR:Ft A oD) (x:Tup A.ah [.x .poly,.x .poly]):Ot A uH:=
 A.l1 .i (A.lit 0) fun x0=>
 A.cl V3 V4 (A.len .mono (A.fL .poly 0 .mono x.1),A.len .mono (A.fL .poly 0 .mono x.2.1),()) fun x1=>
 A.l1 .i x1.1 fun x2=>
 A.cond (A.cmp .neq x2.1 (A.lit 0)) (A.l1 .i x2.1 fun x3=>
 A.ret _ (x3.1,()))<|
 A.iter [.l .mono,.i,.i,.x .poly] (fun x3=>
 A.cond (A.cmp .lss x3.2.2.1 x3.2.1) (A.bd .mono x3.1 x3.2.2.1<|
 A.l1 .i x3.2.2.1 fun x4=>
 A.l1 (.x .mono) (A.get .mono x3.1 x3.2.2.1) fun x5=>
 A.bd .mono (A.fL .poly 0 .mono x3.2.2.2.1) x4.1<|
 A.bd .mono (A.fL .poly 0 .mono x3.2.2.2.1) x4.1<|
 A.cl FQ FR (A.fL .mono 1 .i64 x5.1,A.fL .mono 1 .i64 (A.get .mono (A.fL .poly 0 .mono x3.2.2.2.1) x4.1),()) fun x6=>
 A.cl V3 V4 (A.fI .mono 0 x5.1,A.fI .mono 0 (A.get .mono (A.fL .poly 0 .mono x3.2.2.2.1) x4.1),()) fun x7=>
 A.cl afv afw (A.lst .i64 [A.mkX .i64 (x6.1,()),A.mkX .i64 (x7.1,())],()) fun x8=>
 A.l1 .i x8.1 fun x9=>
 A.cond (A.cmp .neq x9.1 (A.lit 0)) (A.l1 .i x9.1 fun x10=>
 A.inr _<|A.ret _ (x10.1,()))<|
 A.inl _ (x3.1,x3.2.1,A.arith .add .i64 x3.2.2.1 (A.lit 1),x3.2.2.2.1,()))<|
 A.inr _<|A.l1 .i (A.lit 0) fun x4=>
 A.ret _ (x4.1,())) (A.fL .poly 0 .mono x.1,A.len .mono (A.fL .poly 0 .mono x.1),A.lit 0,x.2.1,())
def Yi (A:Alg) (Nt:Pt A uH) (Nu:Ft A uH) (x:Tup A.ah [.x .poly,.x .poly]):Ot A jv:=
 A.l1 .b (A.bl false) fun x0=>
 A.cl Nt Nu (x.1,x.2.1,()) fun x1=>
 A.rb (A.cmp .eql x1.1 (A.lit 0))
def Yj (A:Alg) (lM:Pt A jv) (lN:Ft A jv) (x:Tup A.ah [.x .atom,.x .atom]):Ot A MU:=
 A.l1 .b (A.bl false) fun x0=>
 A.cg (A.ak (A.cmp .eql (A.fI .atom 0 x.1) (A.fI .atom 0 x.2.1)) (A.cmp .eql (A.fI .atom 1 x.1) (A.fI .atom 1 x.2.1)) (A.bl false)) lM lN (A.mkX .poly (A.fL .atom 2 .mono x.1,()),A.mkX .poly (A.fL .atom 2 .mono x.2.1,()),()) fun x1=>
 A.cg (A.ak (A.ak (A.cmp .eql (A.fI .atom 0 x.1) (A.fI .atom 0 x.2.1)) (A.cmp .eql (A.fI .atom 1 x.1) (A.fI .atom 1 x.2.1)) (A.bl false)) x1.1 (A.bl false)) lM lN (A.mkX .poly (A.fL .atom 3 .mono x.1,()),A.mkX .poly (A.fL .atom 3 .mono x.2.1,()),()) fun x2=>
 A.rb (A.ak (A.ak (A.ak (A.cmp .eql (A.fI .atom 0 x.1) (A.fI .atom 0 x.2.1)) (A.cmp .eql (A.fI .atom 1 x.1) (A.fI .atom 1 x.2.1)) (A.bl false)) x1.1 (A.bl false)) x2.1 (A.bl false))
def Yk (A:Alg) (alk:Pt A MU) (alm:Ft A MU) (x:Tup A.ah [.x .atom,.x .atom]):Ot A MV:=
 A.l1 .b (A.bl false) fun x0=>
 A.cl alk alm (x.2.1,x.1,()) fun x1=>
 A.l1 .b x1.1 fun x2=>
 A.ret _ (x2.1,x.2.1,())
def Ro (A:Alg) (aln:Pt A MV) (alo:Ft A MV) (x:Tup A.ah [.l .atom,.x .atom]):Ot A EU:=
 A.l1 .i (A.lit 0) fun x0=>
 A.iter [.l .atom,.i,.i,.x .atom] (fun x1=>
 A.cond (A.cmp .lss x1.2.2.1 x1.2.1) (A.l1 .i x1.2.2.1 fun x2=>
 A.bd .atom x1.1 x2.1<|
 A.cl aln alo (A.get .atom x1.1 x2.1,x1.2.2.2.1,()) fun x3=>
 A.cond x3.1 (A.l1 .i x2.1 fun x4=>
 A.inr _<|A.ret _ (x4.1,x3.2.1,()))<|
 A.inl _ (x1.1,x1.2.1,A.arith .add .i64 x1.2.2.1 (A.lit 1),x3.2.1,()))<|
 A.inr _<|A.l1 .i (A.lit (-1)) fun x2=>
 A.ret _ (x2.1,x1.2.2.2.1,())) (x.1,A.len .atom x.1,A.lit 0,x.2.1,())
def Yl (A:Alg) (afE:Pt A EU) (afF:Ft A EU) (x:Tup A.ah [.x .tab,.x .atom]):Ot A Bw:=
 A.l1 .i (A.lit 0) fun x0=>
 A.cl afE afF (A.fL .tab 0 .atom x.1,x.2.1,()) fun x1=>
 A.l1 .i x1.1 fun x2=>
 A.ret _ (x2.1,())
def Ym (A:Alg) (x:Tup A.ah [.l .atom]):Ot A MW:=
 A.chk (A.cmp .leq (A.lit 0) (A.lit 0))<|
 A.chk (A.cmp .leq (A.lit 0) (A.len .atom x.1))<|
 A.chk (A.cmp .leq (A.len .atom x.1) (A.len .atom x.1))<|
 A.chk (A.cmp .eql (A.len .atom x.1) (A.len .atom x.1))<|
 A.ret _ (A.sub .atom x.1 (A.lit 0) (A.len .atom x.1),())
def Yn (A:Alg) (Yo:Pt A Bv) (Yp:Ft A Bv) (Yq:Pt A Bw) (Yr:Ft A Bw) (alp:Pt A MW) (alq:Ft A MW) (x:Tup A.ah [.x .tab,.x .atom]):Ot A Bz:=
 A.l1 .i (A.lit 0) fun x0=>
 A.cl Yq Yr (x.1,x.2.1,()) fun x1=>
 A.l1 .i x1.1 fun x2=>
 A.cond (A.cmp .geq x2.1 (A.lit 0)) (A.l1 (.x .tab) x.1 fun x3=>
 A.l1 .i x2.1 fun x4=>
 A.ret _ (x3.1,x4.1,()))<|
 A.cl Yo Yp (x.2.1,A.len .atom (A.fL .tab 0 .atom x.1),()) fun x3=>
 A.cond (A.ak (A.aA x3.1) (A.bl true) (A.cmp .eql (A.len .atom (A.fL .tab 0 .atom x.1)) (A.lit 200))) (A.l1 (.x .tab) x.1 fun x4=>
 A.l1 .i (A.lit (-1)) fun x5=>
 A.ret _ (x4.1,x5.1,()))<|
 A.cl alp alq (A.fL .tab 0 .atom x.1,()) fun x4=>
 A.chk (A.orB (A.cmp .lss (A.lit 0) (A.len .atom (A.lst .atom [x.2.1]))) (A.cmp .eql (A.len .atom x4.1) (A.lit 0)))<|
 A.chk (A.cmp .leq (A.addN (A.len .atom x4.1) (A.len .atom (A.lst .atom [x.2.1]))) (A.lit 1073741824))<|
 A.l1 (.l .atom) (A.app .atom x4.1 (A.lst .atom [x.2.1])) fun x5=>
 A.l1 .i (A.len .atom (A.fL .tab 0 .atom x.1)) fun x6=>
 A.ret _ (A.mkX .tab (x5.1,()),x6.1,())
def Yt (A:Alg) (gq:Pt A bZ) (gu:Ft A bZ) (x:Tup A.ah [.i]):Ot A BA:=
 A.cl gq gu (x.1,A.lit 0,A.lit 199,()) fun x0=>
 A.cond (A.aA x0.1) (A.ret _ (A.bP .mono,()))<|
 A.l1 (.l .i64) (A.lst .i64 [A.mkX .i64 (x.1,())]) fun x1=>
 A.l1 (.l .mono) (A.lst .mono [A.mkX .mono (A.lit 1,x1.1,())]) fun x2=>
 A.ret _ (x2.1,())
def Yu (A:Alg) (Yv:Pt A BA) (Yw:Ft A BA) (Yx:Pt A Bz) (Yy:Ft A Bz) (x:Tup A.ah [.i,.i,.l .atom,.b]):Ot A BD:=
 A.cl Yx Yy (A.mkX .tab (x.2.2.1,()),A.mkX .atom (x.1,x.2.1,A.bP .mono,A.bP .mono,()),()) fun x0=>
 A.l1 (.x .tab) x0.1 fun x1=>
 A.l1 .i x0.2.1 fun x2=>
 A.cond (A.cmp .lss x2.1 (A.lit 0)) (A.l1 .b (A.bl true) fun x3=>
 A.ret _ (A.mkX .poly (A.bP .mono,()),x.2.2.1,x3.1,()))<|
 A.l1 (.x .tab) x1.1 fun x3=>
 A.cl Yv Yw (x2.1,()) fun x4=>
 A.ret _ (A.mkX .poly (x4.1,()),A.fL .tab 0 .atom x3.1,x.2.2.2.1,())
def Yz (A:Alg) (Ux:Pt A BD) (Uy:Ft A BD) (x:Tup A.ah [.l .atom,.b]):Ot A BF:=
 A.iter [.i,.l .atom,.b,.l .poly] (fun x0=>
 A.cond (A.cmp .lss x0.1 (A.lit 4)) (A.l1 .i x0.1 fun x1=>
 A.cl Ux Uy (A.lit 1,x1.1,x0.2.1,x0.2.2.1,()) fun x2=>
 A.l1 (.l .poly) (A.lst .poly [x2.1]) fun x3=>
 A.chk (A.cmp .leq (A.addN (A.len .poly x0.2.2.2.1) (A.len .poly x3.1)) (A.lit 1073741824))<|
 A.l1 (.l .poly) (A.app .poly x0.2.2.2.1 x3.1) fun x4=>
 A.inl _ (A.arith .add .i64 x0.1 (A.lit 1),x2.2.1,x2.2.2.1,x4.1,()))<|
 A.inr _<|A.ret _ (x0.2.1,x0.2.2.1,x0.2.2.2.1,())) (A.lit 0,x.1,x.2.1,A.bP .poly,())
def YA (A:Alg) (x:Tup A.ah [.l .i64]):Ot A BG:=
 A.chk (A.cmp .leq (A.len .i64 x.1) (A.lit 1073741824))<|
 A.l1 (.l .i64) x.1 fun x0=>
 A.ret _ (x0.1,())
def YB (A:Alg) (YC:Pt A BG) (YD:Ft A BG) (x:Tup A.ah [.x .poly]):Ot A uI:=
 A.iter [.l .mono,.i,.i,.l .mono] (fun x0=>
 A.cond (A.cmp .lss x0.2.2.1 x0.2.1) (A.bd .mono x0.1 x0.2.2.1<|
 A.l1 (.x .mono) (A.get .mono x0.1 x0.2.2.1) fun x1=>
 A.cl YC YD (A.fL .mono 1 .i64 x1.1,()) fun x2=>
 A.l1 (.l .mono) (A.lst .mono [A.mkX .mono (A.fI .mono 0 x1.1,x2.1,())]) fun x3=>
 A.chk (A.cmp .leq (A.addN (A.len .mono x0.2.2.2.1) (A.len .mono x3.1)) (A.lit 1073741824))<|
 A.l1 (.l .mono) (A.app .mono x0.2.2.2.1 x3.1) fun x4=>
 A.inl _ (x0.1,x0.2.1,A.arith .add .i64 x0.2.2.1 (A.lit 1),x4.1,()))<|
 A.inr _<|A.ret _ (x0.2.2.2.1,())) (A.fL .poly 0 .mono x.1,A.len .mono (A.fL .poly 0 .mono x.1),A.lit 0,A.bP .mono,())
def YE (A:Alg) (zy:Pt A uI) (zB:Ft A uI) (x:Tup A.ah [.x .tab]):Ot A BH:=
 A.iter [.l .atom,.i,.i,.l .atom] (fun x0=>
 A.cond (A.cmp .lss x0.2.2.1 x0.2.1) (A.bd .atom x0.1 x0.2.2.1<|
 A.l1 (.x .atom) (A.get .atom x0.1 x0.2.2.1) fun x1=>
 A.cl zy zB (A.mkX .poly (A.fL .atom 2 .mono x1.1,()),()) fun x2=>
 A.cl zy zB (A.mkX .poly (A.fL .atom 3 .mono x1.1,()),()) fun x3=>
 A.l1 (.l .atom) (A.lst .atom [A.mkX .atom (A.fI .atom 0 x1.1,A.fI .atom 1 x1.1,x2.1,x3.1,())]) fun x4=>
 A.chk (A.cmp .leq (A.addN (A.len .atom x0.2.2.2.1) (A.len .atom x4.1)) (A.lit 1073741824))<|
 A.l1 (.l .atom) (A.app .atom x0.2.2.2.1 x4.1) fun x5=>
 A.inl _ (x0.1,x0.2.1,A.arith .add .i64 x0.2.2.1 (A.lit 1),x5.1,()))<|
 A.inr _<|A.ret _ (x0.2.2.2.1,())) (A.fL .tab 0 .atom x.1,A.len .atom (A.fL .tab 0 .atom x.1),A.lit 0,A.bP .atom,())
def YF (A:Alg) (YG:Pt A BH) (YH:Ft A BH) (YI:Pt A BF) (YJ:Ft A BF) (x:Tup A.ah []):Ot A MX:=
 A.cl YI YJ (A.bP .atom,A.bl false,()) fun x0=>
 A.cl YG YH (A.mkX .tab (x0.1,()),()) fun x1=>
 A.ret _ (A.mkX .tab (x1.1,()),x0.2.2.1,())
def YK (A:Alg) (gq:Pt A bZ) (gu:Ft A bZ) (x:Tup A.ah [.x .iop]):Ot A MZ:=
 A.l1 .b (A.bl false) fun x0=>
 A.cl gq gu (A.fI .iop 0 x.1,A.lit 4,A.lit 7,()) fun x1=>
 A.rb x1.1
def YL (A:Alg) (Yo:Pt A Bv) (Yp:Ft A Bv) (Yq:Pt A Bw) (Yr:Ft A Bw) (x:Tup A.ah [.x .tab]):Ot A M0:=
 A.l1 .b (A.bl false) fun x0=>
 A.iter [.l .atom,.i,.i,.x .tab] (fun x1=>
 A.cond (A.cmp .lss x1.2.2.1 x1.2.1) (A.bd .atom x1.1 x1.2.2.1<|
 A.l1 .i x1.2.2.1 fun x2=>
 A.l1 (.x .atom) (A.get .atom x1.1 x1.2.2.1) fun x3=>
 A.cl Yo Yp (x3.1,x2.1,()) fun x4=>
 A.cg (A.aA (A.aA x4.1)) Yq Yr (x1.2.2.2.1,x3.1,()) fun x5=>
 A.cond (A.ak (A.aA x4.1) (A.bl true) (A.cmp .neq x5.1 x2.1)) (A.l1 .b (A.bl false) fun x6=>
 A.inr _<|A.ret _ (x6.1,()))<|
 A.inl _ (x1.1,x1.2.1,A.arith .add .i64 x1.2.2.1 (A.lit 1),x1.2.2.2.1,()))<|
 A.inr _<|A.rb (A.cmp .leq (A.len .atom (A.fL .tab 0 .atom x1.2.2.2.1)) (A.lit 200))) (A.fL .tab 0 .atom x.1,A.len .atom (A.fL .tab 0 .atom x.1),A.lit 0,x.1,())
def YM (A:Alg) (x:Tup A.ah [.l .poly]):Ot A M4:=
 A.chk (A.cmp .neq (A.len .poly x.1) (A.lit 0))<|
 A.cond (A.bl false) (A.ret _ (x.1,A.bP .poly,()))<|
 A.l1 (.l .poly) (A.lst .poly []) fun x0=>
 A.chk (A.cmp .leq (A.addN (A.len .poly x0.1) (A.len .poly x.1)) (A.lit 1073741824))<|
 A.l1 (.l .poly) (A.app .poly x0.1 x.1) fun x1=>
 A.ret _ (x.1,x1.1,())
def YN (A:Alg) (gq:Pt A bZ) (gu:Ft A bZ) (x:Tup A.ah [.i]):Ot A uJ:=
 A.cl gq gu (x.1,A.lit 1,A.lit 65535,()) fun x0=>
 A.cond (A.aA x0.1) (A.ret _ (A.bP .mono,()))<|
 A.l1 (.l .mono) (A.lst .mono [A.mkX .mono (x.1,A.bP .i64,())]) fun x1=>
 A.ret _ (x1.1,())
def YO (A:Alg) (x:Tup A.ah [.i]):Ot A uK:=
 A.l1 .i (A.lit 0) fun x0=>
 A.l1 .i (A.arith .and .i64 x.1 (A.lit 65535)) fun x1=>
 A.ret _ (x1.1,())
def YP (A:Alg) (qC:Pt A jq) (qD:Ft A jq) (FT:Pt A uK) (FU:Ft A uK) (x:Tup A.ah [.i,.i,.i]):Ot A BI:=
 A.l1 .i (A.lit 0) fun x0=>
 A.cl qC qD (x.2.1,()) fun x1=>
 A.cg (A.aA (A.aA x1.1)) qC qD (x.2.2.1,()) fun x2=>
 A.cond (A.ak (A.aA x1.1) (A.bl true) (A.aA x2.1)) (A.l1 .i (A.lit 0) fun x3=>
 A.ret _ (x3.1,()))<|
 A.l1 .b (A.cmp .eql x.1 (A.lit 1)) fun x3=>
 A.cond x3.1 (A.cl FT FU (A.arith .add .i64 x.2.1 x.2.2.1,()) fun x4=>
 A.l1 .i x4.1 fun x5=>
 A.ret _ (x5.1,()))<|
 A.l1 .b (A.cmp .eql x.1 (A.lit 2)) fun x4=>
 A.cond x4.1 (A.cl FT FU (A.arith .sub .i64 x.2.1 x.2.2.1,()) fun x5=>
 A.l1 .i x5.1 fun x6=>
 A.ret _ (x6.1,()))<|
 A.l1 .b (A.cmp .eql x.1 (A.lit 3)) fun x5=>
 A.cond x5.1 (A.cl FT FU (A.arith .mul .i64 x.2.1 x.2.2.1,()) fun x6=>
 A.l1 .i x6.1 fun x7=>
 A.ret _ (x7.1,()))<|
 A.l1 .b (A.cmp .eql x.1 (A.lit 4)) fun x6=>
 A.cond x6.1 (A.l1 .i (A.arith .and .i64 x.2.1 x.2.2.1) fun x7=>
 A.ret _ (x7.1,()))<|
 A.l1 .b (A.cmp .eql x.1 (A.lit 5)) fun x7=>
 A.cond x7.1 (A.l1 .i (A.arith .xor .i64 x.2.1 x.2.2.1) fun x8=>
 A.ret _ (x8.1,()))<|
 A.l1 .i (A.lit 0) fun x8=>
 A.ret _ (x8.1,())
def YQ (A:Alg) (kS:Pt A iG) (kU:Ft A iG) (x:Tup A.ah [.x .poly]):Ot A BJ:=
 A.l1 .i (A.lit 0) fun x0=>
 A.l1 .b (A.bl false) fun x1=>
 A.cl kS kU (x.1,()) fun x2=>
 A.l1 .b (A.aA x2.1) fun x3=>
 A.cond x3.1 (A.l1 .i (A.lit 0) fun x4=>
 A.l1 .b (A.bl false) fun x5=>
 A.ret _ (x4.1,x5.1,()))<|
 A.l1 .b (A.cmp .eql (A.len .mono (A.fL .poly 0 .mono x.1)) (A.lit 0)) fun x4=>
 A.cond x4.1 (A.l1 .i (A.lit 0) fun x5=>
 A.l1 .b (A.bl true) fun x6=>
 A.ret _ (x5.1,x6.1,()))<|
 A.chk (A.orB (A.aA (A.cmp .eql (A.len .mono (A.fL .poly 0 .mono x.1)) (A.lit 1))) (A.cmp .leq (A.lit 0) (A.lit 0)))<|
 A.chk (A.orB (A.aA (A.cmp .eql (A.len .mono (A.fL .poly 0 .mono x.1)) (A.lit 1))) (A.cmp .lss (A.lit 0) (A.len .mono (A.fL .poly 0 .mono x.1))))<|
 A.l1 .b (A.ak (A.cmp .eql (A.len .mono (A.fL .poly 0 .mono x.1)) (A.lit 1)) (A.cmp .eql (A.len .i64 (A.fL .mono 1 .i64 (A.get .mono (A.fL .poly 0 .mono x.1) (A.lit 0)))) (A.lit 0)) (A.bl false)) fun x5=>
 A.cond x5.1 (A.bd .mono (A.fL .poly 0 .mono x.1) (A.lit 0)<|
 A.l1 .i (A.fI .mono 0 (A.get .mono (A.fL .poly 0 .mono x.1) (A.lit 0))) fun x6=>
 A.l1 .b (A.bl true) fun x7=>
 A.ret _ (x6.1,x7.1,()))<|
 A.l1 .i (A.lit 0) fun x6=>
 A.l1 .b (A.bl false) fun x7=>
 A.ret _ (x6.1,x7.1,())
def YR (A:Alg) (FQ:Pt A oD) (FR:Ft A oD) (x:Tup A.ah [.x .mono,.x .mono]):Ot A BK:=
 A.l1 .i (A.lit 0) fun x0=>
 A.cl FQ FR (A.fL .mono 1 .i64 x.1,A.fL .mono 1 .i64 x.2.1,()) fun x1=>
 A.l1 .i x1.1 fun x2=>
 A.ret _ (x2.1,())
def Rp (A:Alg) (Nv:Pt A BK) (Nw:Ft A BK) (x:Tup A.ah [.i,.i,.l .mono]):Ot A EW:=
 A.l1 .i (A.arith .add .i64 x.1 (A.lit 1)) fun x0=>
 A.iter [.i,.i,.i,.l .mono] (fun x1=>
 A.cond (A.cmp .lss x1.2.2.1 x1.2.1) (A.l1 .i x1.2.2.1 fun x2=>
 A.iter [.i,.i,.i,.i,.l .mono] (fun x3=>
 A.chk (A.orB (A.aA (A.cmp .gtr x3.2.2.2.1 x3.1)) (A.cmp .leq (A.lit 0) x3.2.2.2.1))<|
 A.chk (A.orB (A.aA (A.cmp .gtr x3.2.2.2.1 x3.1)) (A.cmp .lss x3.2.2.2.1 (A.len .mono x3.q.1)))<|
 A.chk (A.orB (A.aA (A.cmp .gtr x3.2.2.2.1 x3.1)) (A.cmp .leq (A.lit 0) x3.2.2.2.1))<|
 A.chk (A.orB (A.aA (A.cmp .gtr x3.2.2.2.1 x3.1)) (A.cmp .lss x3.2.2.2.1 (A.len .mono x3.q.1)))<|
 A.chk (A.orB (A.aA (A.cmp .gtr x3.2.2.2.1 x3.1)) (A.cmp .leq (A.lit 0) (A.arith .sub .i64 x3.2.2.2.1 (A.lit 1))))<|
 A.chk (A.orB (A.aA (A.cmp .gtr x3.2.2.2.1 x3.1)) (A.cmp .lss (A.arith .sub .i64 x3.2.2.2.1 (A.lit 1)) (A.len .mono x3.q.1)))<|
 A.chk (A.orB (A.aA (A.cmp .gtr x3.2.2.2.1 x3.1)) (A.cmp .leq (A.lit 0) (A.arith .sub .i64 x3.2.2.2.1 (A.lit 1))))<|
 A.chk (A.orB (A.aA (A.cmp .gtr x3.2.2.2.1 x3.1)) (A.cmp .lss (A.arith .sub .i64 x3.2.2.2.1 (A.lit 1)) (A.len .mono x3.q.1)))<|
 A.cg (A.cmp .gtr x3.2.2.2.1 x3.1) Nv Nw (A.get .mono x3.q.1 x3.2.2.2.1,A.get .mono x3.q.1 (A.arith .sub .i64 x3.2.2.2.1 (A.lit 1)),()) fun x4=>
 A.cond (A.ak (A.cmp .gtr x3.2.2.2.1 x3.1) (A.cmp .lss x4.1 (A.lit 0)) (A.bl false)) (A.bd .mono x3.q.1 (A.arith .sub .i64 x3.2.2.2.1 (A.lit 1))<|
 A.bd .mono x3.q.1 (A.arith .sub .i64 x3.2.2.2.1 (A.lit 1))<|
 A.bd .mono x3.q.1 x3.2.2.2.1<|
 A.bd .mono x3.q.1 x3.2.2.2.1<|
 A.bd .mono x3.q.1 x3.2.2.2.1<|
 A.bd .mono x3.q.1 x3.2.2.2.1<|
 A.l1 (.x .mono) (A.get .mono x3.q.1 (A.arith .sub .i64 x3.2.2.2.1 (A.lit 1))) fun x5=>
 A.bd .mono (A.set .mono x3.q.1 x3.2.2.2.1 x5.1) (A.arith .sub .i64 x3.2.2.2.1 (A.lit 1))<|
 A.bd .mono (A.set .mono x3.q.1 x3.2.2.2.1 x5.1) (A.arith .sub .i64 x3.2.2.2.1 (A.lit 1))<|
 A.l1 (.x .mono) (A.get .mono x3.q.1 x3.2.2.2.1) fun x6=>
 A.l1 .i (A.arith .sub .i64 x3.2.2.2.1 (A.lit 1)) fun x7=>
 A.inl _ (x3.1,x3.2.1,x3.2.2.1,x7.1,A.set .mono (A.set .mono x3.q.1 x3.2.2.2.1 x5.1) (A.arith .sub .i64 x3.2.2.2.1 (A.lit 1)) x6.1,()))<|
 A.inr _<|A.l1 .i (A.arith .add .i64 x3.2.2.1 (A.lit 1)) fun x5=>
 A.inl _ (x3.1,x3.2.1,x5.1,x3.q.1,())) (x1.1,x1.2.1,x1.2.2.1,x2.1,x1.2.2.2.1,()))<|
 A.inr _<|A.ret _ (x1.2.2.2.1,())) (x.1,x.2.1,x0.1,x.2.2.1,())
def Rq (A:Alg) (x:Tup A.ah [.i,.i,.i,.l .mono]):Ot A EX:=
 A.l1 .i (A.lit 0) fun x0=>
 A.iter [.i,.i,.i,.i,.l .mono] (fun x1=>
 A.cond (A.cmp .lss x1.2.2.2.1 x1.2.2.1) (A.bd .mono x1.q.1 (A.arith .add .i64 x1.2.1 x1.2.2.2.1)<|
 A.bd .mono x1.q.1 (A.arith .add .i64 x1.2.1 x1.2.2.2.1)<|
 A.bd .mono x1.q.1 (A.arith .add .i64 x1.1 x1.2.2.2.1)<|
 A.bd .mono x1.q.1 (A.arith .add .i64 x1.1 x1.2.2.2.1)<|
 A.bd .mono x1.q.1 (A.arith .add .i64 x1.1 x1.2.2.2.1)<|
 A.bd .mono x1.q.1 (A.arith .add .i64 x1.1 x1.2.2.2.1)<|
 A.l1 (.x .mono) (A.get .mono x1.q.1 (A.arith .add .i64 x1.2.1 x1.2.2.2.1)) fun x2=>
 A.bd .mono (A.set .mono x1.q.1 (A.arith .add .i64 x1.1 x1.2.2.2.1) x2.1) (A.arith .add .i64 x1.2.1 x1.2.2.2.1)<|
 A.bd .mono (A.set .mono x1.q.1 (A.arith .add .i64 x1.1 x1.2.2.2.1) x2.1) (A.arith .add .i64 x1.2.1 x1.2.2.2.1)<|
 A.l1 (.x .mono) (A.get .mono x1.q.1 (A.arith .add .i64 x1.1 x1.2.2.2.1)) fun x3=>
 A.l1 .i (A.arith .add .i64 x1.2.2.2.1 (A.lit 1)) fun x4=>
 A.inl _ (x1.1,x1.2.1,x1.2.2.1,x4.1,A.set .mono (A.set .mono x1.q.1 (A.arith .add .i64 x1.1 x1.2.2.2.1) x2.1) (A.arith .add .i64 x1.2.1 x1.2.2.2.1) x3.1,()))<|
 A.inr _<|A.ret _ (x1.q.1,())) (x.1,x.2.1,x.2.2.1,x0.1,x.2.2.2.1,())
def Rs (A:Alg) (Rt:Pt A EX) (Rv:Ft A EX) (x:Tup A.ah [.i,.i,.i,.l .mono]):Ot A EY:=
 A.l1 .i (A.arith .sub .i64 x.2.1 x.1) fun x0=>
 A.l1 .i (A.arith .sub .i64 x.2.2.1 x.2.1) fun x1=>
 A.iter [.i,.i,.i,.l .mono] (fun x2=>
 A.cond (A.cmp .neq x2.2.1 x2.2.2.1) (A.bind [.i,.i,.i,.l .mono] (A.cond (A.cmp .gtr x2.2.1 x2.2.2.1) (A.cl Rt Rv (A.arith .sub .i64 x2.1 x2.2.1,x2.1,x2.2.2.1,x2.2.2.2.1,()) fun x3=>
 A.l1 .i (A.arith .sub .i64 x2.2.1 x2.2.2.1) fun x4=>
 A.ret _ (x2.1,x4.1,x2.2.2.1,x3.1,()))<|
 A.cl Rt Rv (A.arith .sub .i64 x2.1 x2.2.1,A.arith .sub .i64 (A.arith .add .i64 x2.1 x2.2.2.1) x2.2.1,x2.2.1,x2.2.2.2.1,()) fun x3=>
 A.l1 .i (A.arith .sub .i64 x2.2.2.1 x2.2.1) fun x4=>
 A.ret _ (x2.1,x2.2.1,x4.1,x3.1,())) fun x3=>
 A.inl _ (x3.1,x3.2.1,x3.2.2.1,x3.2.2.2.1,()))<|
 A.inr _<|A.cl Rt Rv (A.arith .sub .i64 x2.1 x2.2.1,x2.1,x2.2.1,x2.2.2.2.1,()) fun x3=>
 A.ret _ (x3.1,())) (x.2.1,x0.1,x1.1,x.2.2.2.1,())
def FV (A:Alg) (Nv:Pt A BK) (Nw:Ft A BK) (afG:Pt A EY) (afH:Ft A EY) (FW:Pt A nu) (FX:Ft A nu) (x:Tup A.ah [.i,.i,.i,.l .mono]):Ot A nu:=
 A.cond (A.cmp .eql (A.arith .sub .i64 x.2.1 x.1) (A.lit 1)) (A.l1 .i x.2.1 fun x0=>
 A.l1 .i x.2.2.1 fun x1=>
 A.iter [.i,.i,.i,.l .mono] (fun x2=>
 A.cond (A.cmp .lss x2.2.1 x2.2.2.1) (A.chk (A.cmp .leq (A.lit 0) (A.lit 1))<|
 A.l1 .i (A.conv .i64 (A.arith .shr .u64 (A.conv .u64 (A.arith .add .i64 x2.2.1 x2.2.2.1)) (A.lit 1))) fun x3=>
 A.bd .mono x2.2.2.2.1 x3.1<|
 A.bd .mono x2.2.2.2.1 x3.1<|
 A.bd .mono x2.2.2.2.1 x2.1<|
 A.bd .mono x2.2.2.2.1 x2.1<|
 A.cl Nv Nw (A.get .mono x2.2.2.2.1 x3.1,A.get .mono x2.2.2.2.1 x2.1,()) fun x4=>
 A.bind [.i,.i,.i,.l .mono] (A.cond (A.cmp .lss x4.1 (A.lit 0)) (A.l1 .i (A.arith .add .i64 x3.1 (A.lit 1)) fun x5=>
 A.ret _ (x2.1,x5.1,x2.2.2.1,x2.2.2.2.1,()))<|
 A.l1 .i x3.1 fun x5=>
 A.ret _ (x2.1,x2.2.1,x5.1,x2.2.2.2.1,())) fun x5=>
 A.inl _ (x5.1,x5.2.1,x5.2.2.1,x5.2.2.2.1,()))<|
 A.inr _<|A.l1 .i x2.1 fun x3=>
 A.iter [.i,.i,.l .mono] (fun x4=>
 A.cond (A.cmp .lss x4.2.1 (A.arith .sub .i64 x4.1 (A.lit 1))) (A.bd .mono x4.2.2.1 (A.arith .add .i64 x4.2.1 (A.lit 1))<|
 A.bd .mono x4.2.2.1 (A.arith .add .i64 x4.2.1 (A.lit 1))<|
 A.bd .mono x4.2.2.1 x4.2.1<|
 A.bd .mono x4.2.2.1 x4.2.1<|
 A.bd .mono x4.2.2.1 x4.2.1<|
 A.bd .mono x4.2.2.1 x4.2.1<|
 A.l1 (.x .mono) (A.get .mono x4.2.2.1 (A.arith .add .i64 x4.2.1 (A.lit 1))) fun x5=>
 A.bd .mono (A.set .mono x4.2.2.1 x4.2.1 x5.1) (A.arith .add .i64 x4.2.1 (A.lit 1))<|
 A.bd .mono (A.set .mono x4.2.2.1 x4.2.1 x5.1) (A.arith .add .i64 x4.2.1 (A.lit 1))<|
 A.l1 (.x .mono) (A.get .mono x4.2.2.1 x4.2.1) fun x6=>
 A.l1 .i (A.arith .add .i64 x4.2.1 (A.lit 1)) fun x7=>
 A.inl _ (x4.1,x7.1,A.set .mono (A.set .mono x4.2.2.1 x4.2.1 x5.1) (A.arith .add .i64 x4.2.1 (A.lit 1)) x6.1,()))<|
 A.inr _<|A.ret _ (x4.2.2.1,())) (x2.2.1,x3.1,x2.2.2.2.1,())) (x.1,x0.1,x1.1,x.2.2.2.1,()))<|
 A.cond (A.cmp .eql (A.arith .sub .i64 x.2.2.1 x.2.1) (A.lit 1)) (A.l1 .i x.1 fun x0=>
 A.l1 .i x.2.1 fun x1=>
 A.iter [.i,.i,.i,.l .mono] (fun x2=>
 A.cond (A.cmp .lss x2.2.1 x2.2.2.1) (A.chk (A.cmp .leq (A.lit 0) (A.lit 1))<|
 A.l1 .i (A.conv .i64 (A.arith .shr .u64 (A.conv .u64 (A.arith .add .i64 x2.2.1 x2.2.2.1)) (A.lit 1))) fun x3=>
 A.bd .mono x2.2.2.2.1 x2.1<|
 A.bd .mono x2.2.2.2.1 x2.1<|
 A.bd .mono x2.2.2.2.1 x3.1<|
 A.bd .mono x2.2.2.2.1 x3.1<|
 A.cl Nv Nw (A.get .mono x2.2.2.2.1 x2.1,A.get .mono x2.2.2.2.1 x3.1,()) fun x4=>
 A.bind [.i,.i,.i,.l .mono] (A.cond (A.aA (A.cmp .lss x4.1 (A.lit 0))) (A.l1 .i (A.arith .add .i64 x3.1 (A.lit 1)) fun x5=>
 A.ret _ (x2.1,x5.1,x2.2.2.1,x2.2.2.2.1,()))<|
 A.l1 .i x3.1 fun x5=>
 A.ret _ (x2.1,x2.2.1,x5.1,x2.2.2.2.1,())) fun x5=>
 A.inl _ (x5.1,x5.2.1,x5.2.2.1,x5.2.2.2.1,()))<|
 A.inr _<|A.l1 .i x2.1 fun x3=>
 A.iter [.i,.i,.l .mono] (fun x4=>
 A.cond (A.cmp .gtr x4.2.1 x4.1) (A.bd .mono x4.2.2.1 (A.arith .sub .i64 x4.2.1 (A.lit 1))<|
 A.bd .mono x4.2.2.1 (A.arith .sub .i64 x4.2.1 (A.lit 1))<|
 A.bd .mono x4.2.2.1 x4.2.1<|
 A.bd .mono x4.2.2.1 x4.2.1<|
 A.bd .mono x4.2.2.1 x4.2.1<|
 A.bd .mono x4.2.2.1 x4.2.1<|
 A.l1 (.x .mono) (A.get .mono x4.2.2.1 (A.arith .sub .i64 x4.2.1 (A.lit 1))) fun x5=>
 A.bd .mono (A.set .mono x4.2.2.1 x4.2.1 x5.1) (A.arith .sub .i64 x4.2.1 (A.lit 1))<|
 A.bd .mono (A.set .mono x4.2.2.1 x4.2.1 x5.1) (A.arith .sub .i64 x4.2.1 (A.lit 1))<|
 A.l1 (.x .mono) (A.get .mono x4.2.2.1 x4.2.1) fun x6=>
 A.l1 .i (A.arith .sub .i64 x4.2.1 (A.lit 1)) fun x7=>
 A.inl _ (x4.1,x7.1,A.set .mono (A.set .mono x4.2.2.1 x4.2.1 x5.1) (A.arith .sub .i64 x4.2.1 (A.lit 1)) x6.1,()))<|
 A.inr _<|A.ret _ (x4.2.2.1,())) (x2.2.1,x3.1,x2.2.2.2.1,())) (x.2.1,x0.1,x1.1,x.2.2.2.1,()))<|
 A.chk (A.cmp .leq (A.lit 0) (A.lit 1))<|
 A.l1 .i (A.conv .i64 (A.arith .shr .u64 (A.conv .u64 (A.arith .add .i64 x.1 x.2.2.1)) (A.lit 1))) fun x0=>
 A.l1 .i (A.arith .add .i64 x0.1 x.2.1) fun x1=>
 A.l1 .i (A.lit 0) fun x2=>
 A.l1 .i (A.lit 0) fun x3=>
 A.bind [.i,.i,.i,.i,.i,.i,.i,.l .mono] (A.cond (A.cmp .gtr x.2.1 x0.1) (A.l1 .i (A.arith .sub .i64 x1.1 x.2.2.1) fun x4=>
 A.l1 .i x0.1 fun x5=>
 A.ret _ (x.1,x.2.1,x.2.2.1,x0.1,x1.1,x4.1,x5.1,x.2.2.2.1,()))<|
 A.l1 .i x.1 fun x4=>
 A.l1 .i x.2.1 fun x5=>
 A.ret _ (x.1,x.2.1,x.2.2.1,x0.1,x1.1,x4.1,x5.1,x.2.2.2.1,())) fun x4=>
 A.l1 .i (A.arith .sub .i64 x4.q.1 (A.lit 1)) fun x5=>
 A.iter [.i,.i,.i,.i,.i,.i,.i,.i,.l .mono] (fun x6=>
 A.cond (A.cmp .lss x6.q.2.1 x6.q.2.2.1) (A.chk (A.cmp .leq (A.lit 0) (A.lit 1))<|
 A.l1 .i (A.conv .i64 (A.arith .shr .u64 (A.conv .u64 (A.arith .add .i64 x6.q.2.1 x6.q.2.2.1)) (A.lit 1))) fun x7=>
 A.bd .mono x6.o.1 (A.arith .sub .i64 x6.q.2.2.2.1 x7.1)<|
 A.bd .mono x6.o.1 (A.arith .sub .i64 x6.q.2.2.2.1 x7.1)<|
 A.bd .mono x6.o.1 x7.1<|
 A.bd .mono x6.o.1 x7.1<|
 A.cl Nv Nw (A.get .mono x6.o.1 (A.arith .sub .i64 x6.q.2.2.2.1 x7.1),A.get .mono x6.o.1 x7.1,()) fun x8=>
 A.bind [.i,.i,.i,.i,.i,.i,.i,.i,.l .mono] (A.cond (A.aA (A.cmp .lss x8.1 (A.lit 0))) (A.l1 .i (A.arith .add .i64 x7.1 (A.lit 1)) fun x9=>
 A.ret _ (x6.1,x6.2.1,x6.2.2.1,x6.2.2.2.1,x6.q.1,x9.1,x6.q.2.2.1,x6.q.2.2.2.1,x6.o.1,()))<|
 A.l1 .i x7.1 fun x9=>
 A.ret _ (x6.1,x6.2.1,x6.2.2.1,x6.2.2.2.1,x6.q.1,x6.q.2.1,x9.1,x6.q.2.2.2.1,x6.o.1,())) fun x9=>
 A.inl _ (x9.1,x9.2.1,x9.2.2.1,x9.2.2.2.1,x9.q.1,x9.q.2.1,x9.q.2.2.1,x9.q.2.2.2.1,x9.o.1,()))<|
 A.inr _<|A.l1 .i (A.arith .sub .i64 x6.q.1 x6.q.2.1) fun x7=>
 A.bind [.i,.i,.i,.i,.i,.l .mono] (A.cond (A.ak (A.cmp .lss x6.q.2.1 x6.2.1) (A.cmp .lss x6.2.1 x7.1) (A.bl false)) (A.cl afG afH (x6.q.2.1,x6.2.1,x7.1,x6.o.1,()) fun x8=>
 A.ret _ (x6.1,x6.2.2.1,x6.2.2.2.1,x6.q.2.1,x7.1,x8.1,()))<|
 A.ret _ (x6.1,x6.2.2.1,x6.2.2.2.1,x6.q.2.1,x7.1,x6.o.1,())) fun x8=>
 A.bind [.i,.i,.i,.l .mono] (A.cond (A.ak (A.cmp .lss x8.1 x8.2.2.2.1) (A.cmp .lss x8.2.2.2.1 x8.2.2.1) (A.bl false)) (A.cl FW FX (x8.1,x8.2.2.2.1,x8.2.2.1,x8.q.2.1,()) fun x9=>
 A.ret _ (x8.2.1,x8.2.2.1,x8.q.1,x9.1,()))<|
 A.ret _ (x8.2.1,x8.2.2.1,x8.q.1,x8.q.2.1,())) fun x9=>
 A.bind [.l .mono] (A.cond (A.ak (A.cmp .lss x9.2.1 x9.2.2.1) (A.cmp .lss x9.2.2.1 x9.1) (A.bl false)) (A.cl FW FX (x9.2.1,x9.2.2.1,x9.1,x9.2.2.2.1,()) fun x10=>
 A.ret _ (x10.1,()))<|
 A.ret _ (x9.2.2.2.1,())) fun x10=>
 A.ret _ (x10.1,())) (x4.1,x4.2.1,x4.2.2.1,x4.2.2.2.1,x4.q.1,x4.q.2.1,x4.q.2.2.1,x5.1,x4.q.2.2.2.1,())
def Rw (A:Alg) (YS:Pt A EW) (YT:Ft A EW) (FW:Pt A nu) (FX:Ft A nu) (x:Tup A.ah [.i,.l .mono]):Ot A EZ:=
 A.l1 .i (A.lit 20) fun x0=>
 A.l1 .i (A.lit 0) fun x1=>
 A.l1 .i x0.1 fun x2=>
 A.iter [.i,.i,.i,.i,.l .mono] (fun x3=>
 A.cond (A.cmp .leq x3.2.2.2.1 x3.1) (A.cl YS YT (x3.2.2.1,x3.2.2.2.1,x3.q.1,()) fun x4=>
 A.l1 .i x3.2.2.2.1 fun x5=>
 A.l1 .i (A.arith .add .i64 x3.2.2.2.1 x3.2.1) fun x6=>
 A.inl _ (x3.1,x3.2.1,x5.1,x6.1,x4.1,()))<|
 A.inr _<|A.cl YS YT (x3.2.2.1,x3.1,x3.q.1,()) fun x4=>
 A.iter [.i,.i,.l .mono] (fun x5=>
 A.cond (A.cmp .lss x5.2.1 x5.1) (A.l1 .i (A.lit 0) fun x6=>
 A.l1 .i (A.arith .mul .i64 (A.lit 2) x5.2.1) fun x7=>
 A.iter [.i,.i,.i,.i,.l .mono] (fun x8=>
 A.cond (A.cmp .leq x8.2.2.2.1 x8.1) (A.cl FW FX (x8.2.2.1,A.arith .add .i64 x8.2.2.1 x8.2.1,x8.2.2.2.1,x8.q.1,()) fun x9=>
 A.l1 .i x8.2.2.2.1 fun x10=>
 A.l1 .i (A.arith .add .i64 x8.2.2.2.1 (A.arith .mul .i64 (A.lit 2) x8.2.1)) fun x11=>
 A.inl _ (x8.1,x8.2.1,x10.1,x11.1,x9.1,()))<|
 A.inr _<|A.l1 .i (A.arith .add .i64 x8.2.2.1 x8.2.1) fun x9=>
 A.bind [.i,.i,.l .mono] (A.cond (A.cmp .lss x9.1 x8.1) (A.cl FW FX (x8.2.2.1,x9.1,x8.1,x8.q.1,()) fun x10=>
 A.ret _ (x8.1,x8.2.1,x10.1,()))<|
 A.ret _ (x8.1,x8.2.1,x8.q.1,())) fun x10=>
 A.l1 .i (A.arith .mul .i64 x10.2.1 (A.lit 2)) fun x11=>
 A.inl _ (x10.1,x11.1,x10.2.2.1,())) (x5.1,x5.2.1,x6.1,x7.1,x5.2.2.1,()))<|
 A.inr _<|A.ret _ (x5.2.2.1,())) (x3.1,x3.2.1,x4.1,())) (x.1,x0.1,x1.1,x2.1,x.2.1,())
def Rx (A:Alg) (afI:Pt A EZ) (afJ:Ft A EZ) (x:Tup A.ah [.l .mono]):Ot A E5:=
 A.cl afI afJ (A.len .mono x.1,x.1,()) fun x0=>
 A.ret _ (x0.1,())
def YU (A:Alg) (FQ:Pt A oD) (FR:Ft A oD) (kS:Pt A iG) (kU:Ft A iG) (FT:Pt A uK) (FU:Ft A uK) (YC:Pt A BG) (YD:Ft A BG) (afK:Pt A E5) (afL:Ft A E5) (x:Tup A.ah [.l .mono]):Ot A BL:=
 A.l1 .b (A.bl false) fun x0=>
 A.cl afK afL (x.1,()) fun x1=>
 A.l1 .i (A.lit 0) fun x2=>
 A.iter [.i,.l .mono,.l .mono] (fun x3=>
 A.cond (A.cmp .lss x3.1 (A.len .mono x3.2.1)) (A.bd .mono x3.2.1 x3.1<|
 A.bd .mono x3.2.1 x3.1<|
 A.l1 .i (A.lit 0) fun x4=>
 A.l1 (.x .mono) (A.get .mono x3.2.1 x3.1) fun x5=>
 A.iter [.i,.i,.l .mono,.x .mono,.l .mono] (fun x6=>
 A.chk (A.orB (A.aA (A.cmp .lss x6.1 (A.len .mono x6.2.2.1))) (A.cmp .leq (A.lit 0) x6.1))<|
 A.chk (A.orB (A.aA (A.cmp .lss x6.1 (A.len .mono x6.2.2.1))) (A.cmp .lss x6.1 (A.len .mono x6.2.2.1)))<|
 A.chk (A.orB (A.aA (A.cmp .lss x6.1 (A.len .mono x6.2.2.1))) (A.cmp .leq (A.lit 0) x6.1))<|
 A.chk (A.orB (A.aA (A.cmp .lss x6.1 (A.len .mono x6.2.2.1))) (A.cmp .lss x6.1 (A.len .mono x6.2.2.1)))<|
 A.cg (A.cmp .lss x6.1 (A.len .mono x6.2.2.1)) FQ FR (A.fL .mono 1 .i64 x6.2.2.2.1,A.fL .mono 1 .i64 (A.get .mono x6.2.2.1 x6.1),()) fun x7=>
 A.cond (A.ak (A.cmp .lss x6.1 (A.len .mono x6.2.2.1)) (A.cmp .eql x7.1 (A.lit 0)) (A.bl false)) (A.bd .mono x6.2.2.1 x6.1<|
 A.bd .mono x6.2.2.1 x6.1<|
 A.cl FT FU (A.arith .add .i64 x6.2.1 (A.fI .mono 0 (A.get .mono x6.2.2.1 x6.1)),()) fun x8=>
 A.l1 .i x8.1 fun x9=>
 A.l1 .i (A.arith .add .i64 x6.1 (A.lit 1)) fun x10=>
 A.inl _ (x10.1,x9.1,x6.2.2.1,x6.2.2.2.1,x6.q.1,()))<|
 A.inr _<|A.bind [.i,.l .mono,.l .mono] (A.cond (A.cmp .gtr x6.2.1 (A.lit 0)) (A.cl YC YD (A.fL .mono 1 .i64 x6.2.2.2.1,()) fun x8=>
 A.l1 (.l .mono) (A.lst .mono [A.mkX .mono (x6.2.1,x8.1,())]) fun x9=>
 A.chk (A.cmp .leq (A.addN (A.len .mono x6.q.1) (A.len .mono x9.1)) (A.lit 1073741824))<|
 A.l1 (.l .mono) (A.app .mono x6.q.1 x9.1) fun x10=>
 A.ret _ (x6.1,x6.2.2.1,x10.1,()))<|
 A.ret _ (x6.1,x6.2.2.1,x6.q.1,())) fun x8=>
 A.inl _ (x8.1,x8.2.1,x8.2.2.1,())) (x3.1,x4.1,x3.2.1,x5.1,x3.2.2.1,()))<|
 A.inr _<|A.cl kS kU (A.mkX .poly (x3.2.2.1,()),()) fun x4=>
 A.cond (A.aA x4.1) (A.l1 .b (A.bl false) fun x5=>
 A.ret _ (x5.1,x3.2.1,A.bP .mono,()))<|
 A.l1 .b (A.bl true) fun x5=>
 A.ret _ (x5.1,x3.2.1,x3.2.2.1,())) (x2.1,x1.1,A.bP .mono,())
def Ry (A:Alg) (x:Tup A.ah [.i]):Ot A E8:=
 A.cond (A.cmp .lss x.1 (A.lit 0)) (A.fail)<|
 A.l1 .i (A.arith .sub .i64 x.1 (A.arith .sub .i64 (A.lit 0) (A.lit 0))) fun x0=>
 A.bind [.l .mono] (A.cond (A.cmp .gtr x0.1 (A.lit 0)) (A.chk (A.cmp .eql (A.lit 0) (A.lit 0))<|
 A.chk (A.cmp .eql (A.lit 0) (A.lit 0))<|
 A.chk (A.cmp .leq (A.lit 0) x0.1)<|
 A.chk (A.cmp .leq x0.1 (A.lit 1073741824))<|
 A.chk (A.cmp .leq (A.len .mono (A.rep .mono x0.1 (A.mkX .mono (A.lit 0,A.bP .i64,())))) (A.lit 1073741824))<|
 A.l1 (.l .mono) (A.rep .mono x0.1 (A.mkX .mono (A.lit 0,A.bP .i64,()))) fun x1=>
 A.chk (A.cmp .leq (A.lit 0) (A.lit 0))<|
 A.chk (A.cmp .leq (A.lit 0) (A.lit 0))<|
 A.chk (A.cmp .leq (A.lit 0) (A.len .mono x1.1))<|
 A.chk (A.cmp .eql (A.lit 0) (A.lit 0))<|
 A.chk (A.cmp .leq (A.lit 0) (A.Ch (A.lit 0) (A.lit 0)))<|
 A.chk (A.cmp .leq (A.Ch (A.lit 0) (A.lit 0)) (A.len .mono x1.1))<|
 A.ret _ (A.sub .mono x1.1 (A.lit 0) (A.Ch (A.lit 0) (A.lit 0)),()))<|
 A.ret _ (A.bP .mono,())) fun x1=>
 A.ret _ (x1.1,())
def YV (A:Alg) (afM:Pt A E8) (afN:Ft A E8) (x:Tup A.ah [.l .poly]):Ot A M5:=
 A.l1 .i (A.lit 0) fun x0=>
 A.iter [.l .poly,.i,.l .poly,.i,.i] (fun x1=>
 A.cond (A.cmp .lss x1.q.1 x1.2.2.2.1) (A.bd .poly x1.2.2.1 x1.q.1<|
 A.l1 (.l .mono) (A.fL .poly 0 .mono (A.get .poly x1.2.2.1 x1.q.1)) fun x2=>
 A.l1 .i (A.arith .add .i64 x1.2.1 (A.len .mono x2.1)) fun x3=>
 A.cond (A.cmp .lss x3.1 (A.lit 0)) (A.fail)<|
 A.inl _ (x1.1,x3.1,x1.2.2.1,x1.2.2.2.1,A.arith .add .i64 x1.q.1 (A.lit 1),()))<|
 A.inr _<|A.cl afM afN (x1.2.1,()) fun x2=>
 A.iter [.l .poly,.i,.i,.l .mono] (fun x3=>
 A.cond (A.cmp .lss x3.2.2.1 x3.2.1) (A.bd .poly x3.1 x3.2.2.1<|
 A.l1 (.l .mono) (A.fL .poly 0 .mono (A.get .poly x3.1 x3.2.2.1)) fun x4=>
 A.chk (A.cmp .leq (A.addN (A.len .mono x3.2.2.2.1) (A.len .mono x4.1)) (A.lit 1073741824))<|
 A.l1 (.l .mono) (A.app .mono x3.2.2.2.1 x4.1) fun x5=>
 A.inl _ (x3.1,x3.2.1,A.arith .add .i64 x3.2.2.1 (A.lit 1),x5.1,()))<|
 A.inr _<|A.ret _ (x3.2.2.2.1,())) (x1.1,A.len .poly x1.1,A.lit 0,x2.1,())) (x.1,x0.1,x.1,A.len .poly x.1,A.lit 0,())
def YW (A:Alg) (kS:Pt A iG) (kU:Ft A iG) (YX:Pt A BL) (YZ:Ft A BL) (alr:Pt A M5) (als:Ft A M5) (x:Tup A.ah [.x .poly,.x .poly]):Ot A M6:=
 A.l1 .b (A.bl false) fun x0=>
 A.cl kS kU (x.1,()) fun x1=>
 A.cg (A.aA (A.aA x1.1)) kS kU (x.2.1,()) fun x2=>
 A.cond (A.ak (A.aA x1.1) (A.bl true) (A.aA x2.1)) (A.l1 .b (A.bl false) fun x3=>
 A.ret _ (x3.1,A.bP .mono,()))<|
 A.l1 (.l .poly) (A.lst .poly [A.mkX .poly (A.fL .poly 0 .mono x.1,()),A.mkX .poly (A.fL .poly 0 .mono x.2.1,())]) fun x3=>
 A.cl alr als (x3.1,()) fun x4=>
 A.cl YX YZ (x4.1,()) fun x5=>
 A.l1 .b x5.1 fun x6=>
 A.ret _ (x6.1,x5.2.2.1,())
def Rz (A:Alg) (x:Tup A.ah [.i]):Ot A E9:=
 A.cond (A.cmp .lss x.1 (A.lit 0)) (A.fail)<|
 A.l1 .i (A.arith .sub .i64 x.1 (A.arith .sub .i64 (A.lit 0) (A.lit 0))) fun x0=>
 A.bind [.l .i64] (A.cond (A.cmp .gtr x0.1 (A.lit 0)) (A.chk (A.cmp .eql (A.lit 0) (A.lit 0))<|
 A.chk (A.cmp .eql (A.lit 0) (A.lit 0))<|
 A.chk (A.cmp .leq (A.lit 0) x0.1)<|
 A.chk (A.cmp .leq x0.1 (A.lit 1073741824))<|
 A.chk (A.cmp .leq (A.len .i64 (A.rep .i64 x0.1 (A.mkX .i64 (A.lit 0,())))) (A.lit 1073741824))<|
 A.l1 (.l .i64) (A.rep .i64 x0.1 (A.mkX .i64 (A.lit 0,()))) fun x1=>
 A.chk (A.cmp .leq (A.lit 0) (A.lit 0))<|
 A.chk (A.cmp .leq (A.lit 0) (A.lit 0))<|
 A.chk (A.cmp .leq (A.lit 0) (A.len .i64 x1.1))<|
 A.chk (A.cmp .eql (A.lit 0) (A.lit 0))<|
 A.chk (A.cmp .leq (A.lit 0) (A.Ch (A.lit 0) (A.lit 0)))<|
 A.chk (A.cmp .leq (A.Ch (A.lit 0) (A.lit 0)) (A.len .i64 x1.1))<|
 A.ret _ (A.sub .i64 x1.1 (A.lit 0) (A.Ch (A.lit 0) (A.lit 0)),()))<|
 A.ret _ (A.bP .i64,())) fun x1=>
 A.ret _ (x1.1,())
def RA (A:Alg) (afO:Pt A E9) (afP:Ft A E9) (x:Tup A.ah [.l .ints]):Ot A Fa:=
 A.l1 .i (A.lit 0) fun x0=>
 A.iter [.l .ints,.i,.l .ints,.i,.i] (fun x1=>
 A.cond (A.cmp .lss x1.q.1 x1.2.2.2.1) (A.bd .ints x1.2.2.1 x1.q.1<|
 A.l1 (.l .i64) (A.fL .ints 0 .i64 (A.get .ints x1.2.2.1 x1.q.1)) fun x2=>
 A.l1 .i (A.arith .add .i64 x1.2.1 (A.len .i64 x2.1)) fun x3=>
 A.cond (A.cmp .lss x3.1 (A.lit 0)) (A.fail)<|
 A.inl _ (x1.1,x3.1,x1.2.2.1,x1.2.2.2.1,A.arith .add .i64 x1.q.1 (A.lit 1),()))<|
 A.inr _<|A.cl afO afP (x1.2.1,()) fun x2=>
 A.iter [.l .ints,.i,.i,.l .i64] (fun x3=>
 A.cond (A.cmp .lss x3.2.2.1 x3.2.1) (A.bd .ints x3.1 x3.2.2.1<|
 A.l1 (.l .i64) (A.fL .ints 0 .i64 (A.get .ints x3.1 x3.2.2.1)) fun x4=>
 A.chk (A.cmp .leq (A.addN (A.len .i64 x3.2.2.2.1) (A.len .i64 x4.1)) (A.lit 1073741824))<|
 A.l1 (.l .i64) (A.app .i64 x3.2.2.2.1 x4.1) fun x5=>
 A.inl _ (x3.1,x3.2.1,A.arith .add .i64 x3.2.2.1 (A.lit 1),x5.1,()))<|
 A.inr _<|A.ret _ (x3.2.2.2.1,())) (x1.1,A.len .ints x1.1,A.lit 0,x2.1,())) (x.1,x0.1,x.1,A.len .ints x.1,A.lit 0,())
def RD (A:Alg) (Yc:Pt A EO) (Yd:Ft A EO) (x:Tup A.ah [.i,.i,.l .i64]):Ot A Fb:=
 A.l1 .i (A.arith .add .i64 x.1 (A.lit 1)) fun x0=>
 A.iter [.i,.i,.i,.l .i64] (fun x1=>
 A.cond (A.cmp .lss x1.2.2.1 x1.2.1) (A.l1 .i x1.2.2.1 fun x2=>
 A.iter [.i,.i,.i,.i,.l .i64] (fun x3=>
 A.chk (A.orB (A.aA (A.cmp .gtr x3.2.2.2.1 x3.1)) (A.cmp .leq (A.lit 0) x3.2.2.2.1))<|
 A.chk (A.orB (A.aA (A.cmp .gtr x3.2.2.2.1 x3.1)) (A.cmp .lss x3.2.2.2.1 (A.len .i64 x3.q.1)))<|
 A.chk (A.orB (A.aA (A.cmp .gtr x3.2.2.2.1 x3.1)) (A.cmp .leq (A.lit 0) x3.2.2.2.1))<|
 A.chk (A.orB (A.aA (A.cmp .gtr x3.2.2.2.1 x3.1)) (A.cmp .lss x3.2.2.2.1 (A.len .i64 x3.q.1)))<|
 A.chk (A.orB (A.aA (A.cmp .gtr x3.2.2.2.1 x3.1)) (A.cmp .leq (A.lit 0) (A.arith .sub .i64 x3.2.2.2.1 (A.lit 1))))<|
 A.chk (A.orB (A.aA (A.cmp .gtr x3.2.2.2.1 x3.1)) (A.cmp .lss (A.arith .sub .i64 x3.2.2.2.1 (A.lit 1)) (A.len .i64 x3.q.1)))<|
 A.chk (A.orB (A.aA (A.cmp .gtr x3.2.2.2.1 x3.1)) (A.cmp .leq (A.lit 0) (A.arith .sub .i64 x3.2.2.2.1 (A.lit 1))))<|
 A.chk (A.orB (A.aA (A.cmp .gtr x3.2.2.2.1 x3.1)) (A.cmp .lss (A.arith .sub .i64 x3.2.2.2.1 (A.lit 1)) (A.len .i64 x3.q.1)))<|
 A.cg (A.cmp .gtr x3.2.2.2.1 x3.1) Yc Yd (A.fI .i64 0 (A.get .i64 x3.q.1 x3.2.2.2.1),A.fI .i64 0 (A.get .i64 x3.q.1 (A.arith .sub .i64 x3.2.2.2.1 (A.lit 1))),()) fun x4=>
 A.cond (A.ak (A.cmp .gtr x3.2.2.2.1 x3.1) x4.1 (A.bl false)) (A.bd .i64 x3.q.1 (A.arith .sub .i64 x3.2.2.2.1 (A.lit 1))<|
 A.bd .i64 x3.q.1 (A.arith .sub .i64 x3.2.2.2.1 (A.lit 1))<|
 A.bd .i64 x3.q.1 x3.2.2.2.1<|
 A.bd .i64 x3.q.1 x3.2.2.2.1<|
 A.bd .i64 x3.q.1 x3.2.2.2.1<|
 A.bd .i64 x3.q.1 x3.2.2.2.1<|
 A.l1 .i (A.fI .i64 0 (A.get .i64 x3.q.1 (A.arith .sub .i64 x3.2.2.2.1 (A.lit 1)))) fun x5=>
 A.bd .i64 (A.set .i64 x3.q.1 x3.2.2.2.1 (A.mkX .i64 (x5.1,()))) (A.arith .sub .i64 x3.2.2.2.1 (A.lit 1))<|
 A.bd .i64 (A.set .i64 x3.q.1 x3.2.2.2.1 (A.mkX .i64 (x5.1,()))) (A.arith .sub .i64 x3.2.2.2.1 (A.lit 1))<|
 A.l1 .i (A.fI .i64 0 (A.get .i64 x3.q.1 x3.2.2.2.1)) fun x6=>
 A.l1 .i (A.arith .sub .i64 x3.2.2.2.1 (A.lit 1)) fun x7=>
 A.inl _ (x3.1,x3.2.1,x3.2.2.1,x7.1,A.set .i64 (A.set .i64 x3.q.1 x3.2.2.2.1 (A.mkX .i64 (x5.1,()))) (A.arith .sub .i64 x3.2.2.2.1 (A.lit 1)) (A.mkX .i64 (x6.1,())),()))<|
 A.inr _<|A.l1 .i (A.arith .add .i64 x3.2.2.1 (A.lit 1)) fun x5=>
 A.inl _ (x3.1,x3.2.1,x5.1,x3.q.1,())) (x1.1,x1.2.1,x1.2.2.1,x2.1,x1.2.2.2.1,()))<|
 A.inr _<|A.ret _ (x1.2.2.2.1,())) (x.1,x.2.1,x0.1,x.2.2.1,())
def RF (A:Alg) (Yc:Pt A EO) (Yd:Ft A EO) (afQ:Pt A Fb) (afR:Ft A Fb) (afS:Pt A Fe) (afT:Ft A Fe) (afU:Pt A Fg) (afV:Ft A Fg) (afW:Pt A Fh) (afX:Ft A Fh) (afY:Pt A Fj) (afZ:Ft A Fj) (af0:Pt A Fp) (af2:Ft A Fp) (af3:Pt A Fq) (af4:Ft A Fq) (af5:Pt A Fu) (af6:Ft A Fu) (Kt:Pt A o7) (Ku:Ft A o7) (x:Tup A.ah [.i,.i,.i,.l .i64]):Ot A o7:=
 A.l1 .b (A.bl true) fun x0=>
 A.l1 .b (A.bl true) fun x1=>
 A.iter [.i,.i,.i,.b,.b,.l .i64] (fun x2=>
 A.jS [.i,.i,.i,.b,.b,.l .i64] (A.l1 .i (A.arith .sub .i64 x2.2.1 x2.1) fun x3=>
 A.cond (A.cmp .leq x3.1 (A.lit 12)) (A.cl afQ afR (x2.1,x2.2.1,x2.q.2.1,()) fun x4=>
 A.inr _<|A.inr _<|A.ret _ (x4.1,()))<|
 A.cond (A.cmp .eql x2.2.2.1 (A.lit 0)) (A.cl afS afT (x2.1,x2.2.1,x2.q.2.1,()) fun x4=>
 A.inr _<|A.inr _<|A.ret _ (x4.1,()))<|
 A.bind [.i,.i,.i,.b,.b,.i,.l .i64] (A.cond (A.aA x2.2.2.2.1) (A.cl afU afV (x2.1,x2.2.1,x2.q.2.1,()) fun x4=>
 A.l1 .i (A.arith .sub .i64 x2.2.2.1 (A.lit 1)) fun x5=>
 A.ret _ (x2.1,x2.2.1,x5.1,x2.2.2.2.1,x2.q.1,x3.1,x4.1,()))<|
 A.ret _ (x2.1,x2.2.1,x2.2.2.1,x2.2.2.2.1,x2.q.1,x3.1,x2.q.2.1,())) fun x4=>
 A.cl afW afX (x4.1,x4.2.1,x4.q.2.2.1,()) fun x5=>
 A.l1 .i x5.1 fun x6=>
 A.l1 .i x5.2.1 fun x7=>
 A.bind [.i,.i,.i,.b,.b,.i,.i,.i,.l .i64] (A.cond (A.cmp .eql x7.1 (A.lit 2)) (A.cl afY afZ (x4.1,x4.2.1,x5.2.2.1,()) fun x8=>
 A.l1 .i (A.arith .sub .i64 (A.arith .sub .i64 x4.2.1 (A.lit 1)) (A.arith .sub .i64 x6.1 x4.1)) fun x9=>
 A.l1 .i (A.lit 1) fun x10=>
 A.ret _ (x4.1,x4.2.1,x4.2.2.1,x4.2.2.2.1,x4.q.1,x4.q.2.1,x9.1,x10.1,x8.1,()))<|
 A.ret _ (x4.1,x4.2.1,x4.2.2.1,x4.2.2.2.1,x4.q.1,x4.q.2.1,x6.1,x7.1,x5.2.2.1,())) fun x8=>
 A.jS [.i,.i,.i,.b,.b,.i,.i,.l .i64] (A.cond (A.ak (A.ak x8.2.2.2.1 x8.q.1 (A.bl false)) (A.cmp .eql x8.q.2.2.2.1 (A.lit 1)) (A.bl false)) (A.cl af0 af2 (x8.1,x8.2.1,x8.o.1,()) fun x9=>
 A.cond x9.1 (A.inr _<|A.inr _<|A.inr _<|A.ret _ (x9.2.1,()))<|
 A.inl _ (x8.1,x8.2.1,x8.2.2.1,x8.2.2.2.1,x8.q.1,x8.q.2.1,x8.q.2.2.1,x9.2.1,()))<|
 A.inl _ (x8.1,x8.2.1,x8.2.2.1,x8.2.2.2.1,x8.q.1,x8.q.2.1,x8.q.2.2.1,x8.o.1,())) fun x9=>
 A.chk (A.orB (A.aA (A.cmp .gtr x9.1 (A.lit 0))) (A.cmp .leq (A.lit 0) (A.arith .sub .i64 x9.1 (A.lit 1))))<|
 A.chk (A.orB (A.aA (A.cmp .gtr x9.1 (A.lit 0))) (A.cmp .lss (A.arith .sub .i64 x9.1 (A.lit 1)) (A.len .i64 x9.q.2.2.2.1)))<|
 A.chk (A.orB (A.aA (A.cmp .gtr x9.1 (A.lit 0))) (A.cmp .leq (A.lit 0) (A.arith .sub .i64 x9.1 (A.lit 1))))<|
 A.chk (A.orB (A.aA (A.cmp .gtr x9.1 (A.lit 0))) (A.cmp .lss (A.arith .sub .i64 x9.1 (A.lit 1)) (A.len .i64 x9.q.2.2.2.1)))<|
 A.chk (A.orB (A.aA (A.cmp .gtr x9.1 (A.lit 0))) (A.cmp .leq (A.lit 0) x9.q.2.2.1))<|
 A.chk (A.orB (A.aA (A.cmp .gtr x9.1 (A.lit 0))) (A.cmp .lss x9.q.2.2.1 (A.len .i64 x9.q.2.2.2.1)))<|
 A.chk (A.orB (A.aA (A.cmp .gtr x9.1 (A.lit 0))) (A.cmp .leq (A.lit 0) x9.q.2.2.1))<|
 A.chk (A.orB (A.aA (A.cmp .gtr x9.1 (A.lit 0))) (A.cmp .lss x9.q.2.2.1 (A.len .i64 x9.q.2.2.2.1)))<|
 A.cg (A.cmp .gtr x9.1 (A.lit 0)) Yc Yd (A.fI .i64 0 (A.get .i64 x9.q.2.2.2.1 (A.arith .sub .i64 x9.1 (A.lit 1))),A.fI .i64 0 (A.get .i64 x9.q.2.2.2.1 x9.q.2.2.1),()) fun x10=>
 A.cond (A.ak (A.cmp .gtr x9.1 (A.lit 0)) (A.aA x10.1) (A.bl false)) (A.cl af3 af4 (x9.1,x9.2.1,x9.q.2.2.1,x9.q.2.2.2.1,()) fun x11=>
 A.l1 .i x11.1 fun x12=>
 A.l1 .i x12.1 fun x13=>
 A.inl _ (x13.1,x9.2.1,x9.2.2.1,x9.2.2.2.1,x9.q.1,x11.2.1,()))<|
 A.cl af5 af6 (x9.1,x9.2.1,x9.q.2.2.1,x9.q.2.2.2.1,()) fun x11=>
 A.l1 .i x11.1 fun x12=>
 A.l1 .b x11.2.1 fun x13=>
 A.l1 .b x13.1 fun x14=>
 A.l1 .i (A.arith .sub .i64 x12.1 x9.1) fun x15=>
 A.l1 .i (A.arith .sub .i64 x9.2.1 x12.1) fun x16=>
 A.chk (A.cmp .neq (A.lit 8) (A.lit 0))<|
 A.l1 .i (A.arith .quo .i64 x9.q.2.1 (A.lit 8)) fun x17=>
 A.bind [.i,.i,.i,.b,.b,.l .i64] (A.cond (A.cmp .lss x15.1 x16.1) (A.l1 .b (A.cmp .geq x15.1 x17.1) fun x18=>
 A.cl Kt Ku (x9.1,x12.1,x9.2.2.1,x11.2.2.1,()) fun x19=>
 A.l1 .i (A.arith .add .i64 x12.1 (A.lit 1)) fun x20=>
 A.ret _ (x20.1,x9.2.1,x9.2.2.1,x18.1,x14.1,x19.1,()))<|
 A.l1 .b (A.cmp .geq x16.1 x17.1) fun x18=>
 A.cl Kt Ku (A.arith .add .i64 x12.1 (A.lit 1),x9.2.1,x9.2.2.1,x11.2.2.1,()) fun x19=>
 A.l1 .i x12.1 fun x20=>
 A.ret _ (x9.1,x20.1,x9.2.2.1,x18.1,x14.1,x19.1,())) fun x18=>
 A.inl _ (x18.1,x18.2.1,x18.2.2.1,x18.2.2.2.1,x18.q.1,x18.q.2.1,())) fun x3=>
 A.inl _ (x3.1,x3.2.1,x3.2.2.1,x3.2.2.2.1,x3.q.1,x3.q.2.1,())) (x.1,x.2.1,x.2.2.1,x0.1,x1.1,x.2.2.2.1,())
def RG (A:Alg) (Kt:Pt A o7) (Ku:Ft A o7) (alu:Pt A Us) (alv:Ft A Us) (x:Tup A.ah [.l .i64]):Ot A Fv:=
 A.l1 .i (A.len .i64 x.1) fun x0=>
 A.cl alu alv (A.conv .u64 x0.1,()) fun x1=>
 A.cl Kt Ku (A.lit 0,x0.1,x1.1,x.1,()) fun x2=>
 A.ret _ (x2.1,())
def Y0 (A:Alg) (kS:Pt A iG) (kU:Ft A iG) (FT:Pt A uK) (FU:Ft A uK) (YX:Pt A BL) (YZ:Ft A BL) (af7:Pt A Fa) (af8:Ft A Fa) (af9:Pt A Fv) (aga:Ft A Fv) (x:Tup A.ah [.x .poly,.x .poly]):Ot A BM:=
 A.l1 .b (A.bl false) fun x0=>
 A.cl kS kU (x.1,()) fun x1=>
 A.cg (A.aA (A.aA x1.1)) kS kU (x.2.1,()) fun x2=>
 A.cond (A.ak (A.aA x1.1) (A.bl true) (A.aA x2.1)) (A.l1 .b (A.bl false) fun x3=>
 A.ret _ (x3.1,A.bP .mono,()))<|
 A.iter [.l .mono,.i,.i,.x .poly,.l .mono] (fun x3=>
 A.cond (A.cmp .lss x3.2.2.1 x3.2.1) (A.bd .mono x3.1 x3.2.2.1<|
 A.l1 (.x .mono) (A.get .mono x3.1 x3.2.2.1) fun x4=>
 A.iter [.l .mono,.i,.i,.l .mono,.i,.i,.x .poly,.l .mono,.x .mono] (fun x5=>
 A.cond (A.cmp .lss x5.q.2.1 x5.q.1) (A.bd .mono x5.2.2.2.1 x5.q.2.1<|
 A.l1 (.x .mono) (A.get .mono x5.2.2.2.1 x5.q.2.1) fun x6=>
 A.l1 (.l .ints) (A.lst .ints [A.mkX .ints (A.fL .mono 1 .i64 x5.o.1,()),A.mkX .ints (A.fL .mono 1 .i64 x6.1,())]) fun x7=>
 A.cl af7 af8 (x7.1,()) fun x8=>
 A.cl af9 aga (x8.1,()) fun x9=>
 A.cl FT FU (A.arith .mul .i64 (A.fI .mono 0 x5.o.1) (A.fI .mono 0 x6.1),()) fun x10=>
 A.l1 (.l .mono) (A.lst .mono [A.mkX .mono (x10.1,x9.1,())]) fun x11=>
 A.chk (A.cmp .leq (A.addN (A.len .mono x5.q.2.2.2.1) (A.len .mono x11.1)) (A.lit 1073741824))<|
 A.l1 (.l .mono) (A.app .mono x5.q.2.2.2.1 x11.1) fun x12=>
 A.inl _ (x5.1,x5.2.1,x5.2.2.1,x5.2.2.2.1,x5.q.1,A.arith .add .i64 x5.q.2.1 (A.lit 1),x5.q.2.2.1,x12.1,x5.o.1,()))<|
 A.inr _<|A.inl _ (x5.1,x5.2.1,A.arith .add .i64 x5.2.2.1 (A.lit 1),x5.q.2.2.1,x5.q.2.2.2.1,())) (x3.1,x3.2.1,x3.2.2.1,A.fL .poly 0 .mono x3.2.2.2.1,A.len .mono (A.fL .poly 0 .mono x3.2.2.2.1),A.lit 0,x3.2.2.2.1,x3.q.1,x4.1,()))<|
 A.inr _<|A.cl YX YZ (x3.q.1,()) fun x4=>
 A.l1 .b x4.1 fun x5=>
 A.ret _ (x5.1,x4.2.2.1,())) (A.fL .poly 0 .mono x.1,A.len .mono (A.fL .poly 0 .mono x.1),A.lit 0,x.2.1,A.bP .mono,())
def Y1 (A:Alg) (kS:Pt A iG) (kU:Ft A iG) (Ny:Pt A uJ) (Nz:Ft A uJ) (qC:Pt A jq) (qD:Ft A jq) (Y2:Pt A BM) (Y3:Ft A BM) (x:Tup A.ah [.x .poly,.i]):Ot A M7:=
 A.cl kS kU (x.1,()) fun x0=>
 A.cg (A.aA (A.aA x0.1)) qC qD (x.2.1,()) fun x1=>
 A.cond (A.ak (A.aA x0.1) (A.bl true) (A.aA x1.1)) (A.ret _ (A.bP .mono,()))<|
 A.cl Ny Nz (x.2.1,()) fun x2=>
 A.cl Y2 Y3 (x.1,A.mkX .poly (x2.1,()),()) fun x3=>
 A.l1 .b x3.1 fun x4=>
 A.ret _ (x3.2.1,())
def Y4 (A:Alg) (lM:Pt A jv) (lN:Ft A jv) (Ny:Pt A uJ) (Nz:Ft A uJ) (Y5:Pt A BI) (Y6:Ft A BI) (acP:Pt A M6) (acQ:Ft A M6) (Y2:Pt A BM) (Y3:Ft A BM) (alx:Pt A M7) (aly:Ft A M7) (NA:Pt A BJ) (NC:Ft A BJ) (x:Tup A.ah [.i,.x .poly,.x .poly]):Ot A M8:=
 A.l1 .b (A.bl false) fun x0=>
 A.l1 .b (A.cmp .eql x.1 (A.lit 1)) fun x1=>
 A.cond x1.1 (A.cl acP acQ (x.2.1,x.2.2.1,()) fun x2=>
 A.l1 .b x2.1 fun x3=>
 A.ret _ (A.mkX .poly (x2.2.1,()),x3.1,()))<|
 A.l1 .b (A.cmp .eql x.1 (A.lit 2)) fun x2=>
 A.cond x2.1 (A.cl alx aly (x.2.2.1,A.lit 65535,()) fun x3=>
 A.cl acP acQ (x.2.1,A.mkX .poly (x3.1,()),()) fun x4=>
 A.l1 .b x4.1 fun x5=>
 A.ret _ (A.mkX .poly (x4.2.1,()),x5.1,()))<|
 A.l1 .b (A.cmp .eql x.1 (A.lit 3)) fun x3=>
 A.cond x3.1 (A.cl Y2 Y3 (x.2.1,x.2.2.1,()) fun x4=>
 A.l1 .b x4.1 fun x5=>
 A.ret _ (A.mkX .poly (x4.2.1,()),x5.1,()))<|
 A.cl NA NC (x.2.1,()) fun x4=>
 A.l1 .i x4.1 fun x5=>
 A.l1 .b x4.2.1 fun x6=>
 A.cl NA NC (x.2.2.1,()) fun x7=>
 A.l1 .i x7.1 fun x8=>
 A.l1 .b x7.2.1 fun x9=>
 A.l1 .b (A.ak x6.1 x9.1 (A.bl false)) fun x10=>
 A.cond x10.1 (A.cl Y5 Y6 (x.1,x5.1,x8.1,()) fun x11=>
 A.cl Ny Nz (x11.1,()) fun x12=>
 A.l1 .b (A.bl true) fun x13=>
 A.ret _ (A.mkX .poly (x12.1,()),x13.1,()))<|
 A.cl lM lN (x.2.1,x.2.2.1,()) fun x11=>
 A.l1 .b (A.ak x11.1 (A.cmp .eql x.1 (A.lit 4)) (A.bl false)) fun x12=>
 A.cond x12.1 (A.l1 (.x .poly) x.2.1 fun x13=>
 A.l1 .b (A.bl true) fun x14=>
 A.ret _ (x13.1,x14.1,()))<|
 A.cl lM lN (x.2.1,x.2.2.1,()) fun x13=>
 A.l1 .b x13.1 fun x14=>
 A.cond x14.1 (A.l1 .b (A.bl true) fun x15=>
 A.ret _ (A.mkX .poly (A.bP .mono,()),x15.1,()))<|
 A.bind [.i,.i,.b,.x .poly] (A.cond x6.1 (A.l1 (.x .poly) x.2.2.1 fun x15=>
 A.l1 .i x5.1 fun x16=>
 A.l1 .b (A.bl true) fun x17=>
 A.ret _ (x.1,x16.1,x17.1,x15.1,()))<|
 A.ret _ (x.1,x8.1,x9.1,x.2.1,())) fun x15=>
 A.l1 .b (A.ak (A.ak x15.2.2.1 (A.cmp .eql x15.1 (A.lit 4)) (A.bl false)) (A.cmp .eql x15.2.1 (A.lit 0)) (A.bl false)) fun x16=>
 A.cond x16.1 (A.l1 .b (A.bl true) fun x17=>
 A.ret _ (A.mkX .poly (A.bP .mono,()),x17.1,()))<|
 A.l1 .b (A.ak x15.2.2.1 (A.ak (A.ak (A.cmp .eql x15.1 (A.lit 4)) (A.cmp .eql x15.2.1 (A.lit 65535)) (A.bl false)) (A.bl true) (A.ak (A.cmp .eql x15.1 (A.lit 5)) (A.cmp .eql x15.2.1 (A.lit 0)) (A.bl false))) (A.bl false)) fun x17=>
 A.cond x17.1 (A.l1 (.x .poly) x15.2.2.2.1 fun x18=>
 A.l1 .b (A.bl true) fun x19=>
 A.ret _ (x18.1,x19.1,()))<|
 A.l1 .b (A.bl false) fun x18=>
 A.ret _ (A.mkX .poly (A.bP .mono,()),x18.1,())
def Y7 (A:Alg) (Nt:Pt A uH) (Nu:Ft A uH) (alz:Pt A M8) (alA:Ft A M8) (Yx:Pt A Bz) (Yy:Ft A Bz) (Yv:Pt A BA) (Yw:Ft A BA) (x:Tup A.ah [.x .tab,.i,.x .poly,.x .poly]):Ot A M9:=
 A.l1 .b (A.bl false) fun x0=>
 A.cl alz alA (x.2.1,x.2.2.1,x.2.2.2.1,()) fun x1=>
 A.l1 (.x .poly) x1.1 fun x2=>
 A.l1 .b x1.2.1 fun x3=>
 A.cond x3.1 (A.l1 (.x .tab) x.1 fun x4=>
 A.l1 (.x .poly) x2.1 fun x5=>
 A.l1 .b (A.bl true) fun x6=>
 A.ret _ (x4.1,x5.1,x6.1,()))<|
 A.cg (A.cmp .neq x.2.1 (A.lit 2)) Nt Nu (x.2.2.1,x.2.2.2.1,()) fun x4=>
 A.bind [.i,.x .tab,.x .poly,.x .poly] (A.cond (A.ak (A.cmp .neq x.2.1 (A.lit 2)) (A.cmp .gtr x4.1 (A.lit 0)) (A.bl false)) (A.l1 (.x .poly) x.2.2.2.1 fun x5=>
 A.l1 (.x .poly) x.2.2.1 fun x6=>
 A.ret _ (x.2.1,x.1,x5.1,x6.1,()))<|
 A.ret _ (x.2.1,x.1,x.2.2.1,x.2.2.2.1,())) fun x5=>
 A.cl Yx Yy (x5.2.1,A.mkX .atom (A.lit 4,x5.1,A.fL .poly 0 .mono x5.2.2.1,A.fL .poly 0 .mono x5.2.2.2.1,()),()) fun x6=>
 A.l1 (.x .tab) x6.1 fun x7=>
 A.l1 .i x6.2.1 fun x8=>
 A.cond (A.cmp .lss x8.1 (A.lit 0)) (A.l1 .b (A.bl false) fun x9=>
 A.ret _ (A.mkX .tab (A.bP .atom,()),A.mkX .poly (A.bP .mono,()),x9.1,()))<|
 A.cl Yv Yw (x8.1,()) fun x9=>
 A.l1 (.x .tab) x7.1 fun x10=>
 A.l1 .b (A.bl true) fun x11=>
 A.ret _ (x10.1,A.mkX .poly (x9.1,()),x11.1,())
def Y8 (A:Alg) (qC:Pt A jq) (qD:Ft A jq) (x:Tup A.ah [.i,.i,.i]):Ot A BN:=
 A.l1 .b (A.bl false) fun x0=>
 A.cl qC qD (x.2.1,()) fun x1=>
 A.cg x1.1 qC qD (x.2.2.1,()) fun x2=>
 A.rb (A.ak (A.ak x1.1 x2.1 (A.bl false)) (A.ak (A.ak (A.cmp .eql x.1 (A.lit 1)) (A.cmp .eql x.2.1 x.2.2.1) (A.bl false)) (A.bl true) (A.ak (A.cmp .eql x.1 (A.lit 2)) (A.cmp .lss x.2.1 x.2.2.1) (A.bl false))) (A.bl false))
def Y9 (A:Alg) (zy:Pt A uI) (zB:Ft A uI) (x:Tup A.ah [.l .poly]):Ot A Na:=
 A.iter [.l .poly,.i,.i,.l .poly] (fun x0=>
 A.cond (A.cmp .lss x0.2.2.1 x0.2.1) (A.bd .poly x0.1 x0.2.2.1<|
 A.l1 (.x .poly) (A.get .poly x0.1 x0.2.2.1) fun x1=>
 A.cl zy zB (x1.1,()) fun x2=>
 A.l1 (.l .poly) (A.lst .poly [A.mkX .poly (x2.1,())]) fun x3=>
 A.chk (A.cmp .leq (A.addN (A.len .poly x0.2.2.2.1) (A.len .poly x3.1)) (A.lit 1073741824))<|
 A.l1 (.l .poly) (A.app .poly x0.2.2.2.1 x3.1) fun x4=>
 A.inl _ (x0.1,x0.2.1,A.arith .add .i64 x0.2.2.1 (A.lit 1),x4.1,()))<|
 A.inr _<|A.ret _ (x0.2.2.2.1,())) (x.1,A.len .poly x.1,A.lit 0,A.bP .poly,())
def Za (A:Alg) (zy:Pt A uI) (zB:Ft A uI) (acR:Pt A Na) (acS:Ft A Na) (x:Tup A.ah [.x .sym]):Ot A Nb:=
 A.cl acR acS (A.fL .sym 1 .poly x.1,()) fun x0=>
 A.cl zy zB (A.mkX .poly (A.fL .sym 3 .mono x.1,()),()) fun x1=>
 A.cl zy zB (A.mkX .poly (A.fL .sym 4 .mono x.1,()),()) fun x2=>
 A.iter [.l .ev,.i,.i,.i,.i,.i,.i,.l .ev,.l .poly,.l .mono,.l .mono] (fun x3=>
 A.cond (A.cmp .lss x3.2.2.1 x3.2.1) (A.bd .ev x3.1 x3.2.2.1<|
 A.l1 (.x .ev) (A.get .ev x3.1 x3.2.2.1) fun x4=>
 A.cl zy zB (A.mkX .poly (A.fL .ev 2 .mono x4.1,()),()) fun x5=>
 A.cl zy zB (A.mkX .poly (A.fL .ev 3 .mono x4.1,()),()) fun x6=>
 A.cl acR acS (A.fL .ev 4 .poly x4.1,()) fun x7=>
 A.l1 (.l .ev) (A.lst .ev [A.mkX .ev (A.fI .ev 0 x4.1,A.fI .ev 1 x4.1,x5.1,x6.1,x7.1,())]) fun x8=>
 A.chk (A.cmp .leq (A.addN (A.len .ev x3.q.2.2.2.1) (A.len .ev x8.1)) (A.lit 1073741824))<|
 A.l1 (.l .ev) (A.app .ev x3.q.2.2.2.1 x8.1) fun x9=>
 A.inl _ (x3.1,x3.2.1,A.arith .add .i64 x3.2.2.1 (A.lit 1),x3.2.2.2.1,x3.q.1,x3.q.2.1,x3.q.2.2.1,x9.1,x3.o.1,x3.o.2.1,x3.o.2.2.1,()))<|
 A.inr _<|A.ret _ (x3.q.2.1,x3.q.2.2.1,x3.q.2.2.2.1,x3.o.1,x3.o.2.1,x3.o.2.2.1,())) (A.fL .sym 0 .ev x.1,A.len .ev (A.fL .sym 0 .ev x.1),A.lit 0,A.lit 0,A.lit 0,A.fI .sym 2 x.1,A.fI .sym 5 x.1,A.bP .ev,x0.1,x1.1,x2.1,())
def Zb (A:Alg) (NA:Pt A BJ) (NC:Ft A BJ) (kS:Pt A iG) (kU:Ft A iG) (Nt:Pt A uH) (Nu:Ft A uH) (alB:Pt A Nb) (alC:Ft A Nb) (lM:Pt A jv) (lN:Ft A jv) (Zc:Pt A BN) (Zd:Ft A BN) (x:Tup A.ah [.x .sym,.i]):Ot A Nc:=
 A.cl kS kU (A.mkX .poly (A.fL .sym 3 .mono x.1,()),()) fun x0=>
 A.cg (A.aA (A.aA x0.1)) kS kU (A.mkX .poly (A.fL .sym 4 .mono x.1,()),()) fun x1=>
 A.cond (A.ak (A.aA x0.1) (A.bl true) (A.aA x1.1)) (A.ret _ (A.mkX .sym (A.bP .ev,A.bP .poly,A.lit 0,A.bP .mono,A.bP .mono,A.lit 0,()),()))<|
 A.cl alB alC (x.1,()) fun x2=>
 A.cl NA NC (A.mkX .poly (A.fL .sym 3 .mono x.1,()),()) fun x3=>
 A.l1 .i x3.1 fun x4=>
 A.l1 .b x3.2.1 fun x5=>
 A.cl NA NC (A.mkX .poly (A.fL .sym 4 .mono x.1,()),()) fun x6=>
 A.l1 .i x6.1 fun x7=>
 A.l1 .b x6.2.1 fun x8=>
 A.l1 .i (A.arith .add .i64 (A.arith .sub .i64 (A.fI .sym 2 x.1) (A.lit 3)) (A.lit 1)) fun x9=>
 A.l1 .b (A.ak (A.cmp .eql (A.fI .sym 2 x.1) (A.lit 2)) x5.1 (A.bl false)) fun x10=>
 A.bind [.i,.i,.i,.i,.l .ev,.l .poly,.l .mono,.l .mono] (A.cond x10.1 (A.l1 .i (A.lit 1) fun x11=>
 A.l1 .i x4.1 fun x12=>
 A.ret _ (A.lit 0,A.lit 0,x11.1,x12.1,x2.2.2.1,x2.2.2.2.1,A.bP .mono,A.bP .mono,()))<|
 A.l1 .b (A.ak (A.cmp .neq (A.fI .sym 2 x.1) (A.lit 3)) (A.cmp .neq (A.fI .sym 2 x.1) (A.lit 4)) (A.bl false)) fun x11=>
 A.bind [.i,.i,.i,.i,.l .ev,.l .poly,.l .mono,.l .mono] (A.cond x11.1 (A.ret _ (A.lit 0,A.lit 0,x2.1,x2.2.1,x2.2.2.1,x2.2.2.2.1,x2.q.1,x2.q.2.1,()))<|
 A.cl lM lN (A.mkX .poly (A.fL .sym 3 .mono x.1,()),A.mkX .poly (A.fL .sym 4 .mono x.1,()),()) fun x12=>
 A.l1 .b (A.ak x12.1 (A.bl true) (A.ak x5.1 x8.1 (A.bl false))) fun x13=>
 A.bind [.i,.i,.i,.i,.l .ev,.l .poly,.l .mono,.l .mono] (A.cond x13.1 (A.cl lM lN (A.mkX .poly (A.fL .sym 3 .mono x.1,()),A.mkX .poly (A.fL .sym 4 .mono x.1,()),()) fun x14=>
 A.cg (A.mQ (A.aA (A.ak x14.1 (A.cmp .eql (A.fI .sym 2 x.1) (A.lit 3)) (A.bl false))) (A.ak x5.1 x8.1 (A.bl false))) Zc Zd (x9.1,x4.1,x7.1,()) fun x15=>
 A.l1 .b (A.ak (A.ak x14.1 (A.cmp .eql (A.fI .sym 2 x.1) (A.lit 3)) (A.bl false)) (A.bl true) (A.ak (A.ak x5.1 x8.1 (A.bl false)) x15.1 (A.bl false))) fun x16=>
 A.l1 .i (A.lit 1) fun x17=>
 A.bind [.i,.i,.i,.i,.l .ev,.l .poly] (A.cond (A.aA x16.1) (A.l1 .i x.2.1 fun x18=>
 A.ret _ (A.lit 0,A.lit 0,x17.1,x18.1,x2.2.2.1,x2.2.2.2.1,()))<|
 A.ret _ (A.lit 0,A.lit 0,x17.1,x2.2.1,x2.2.2.1,x2.2.2.2.1,())) fun x18=>
 A.ret _ (x18.1,x18.2.1,x18.2.2.1,x18.2.2.2.1,x18.q.1,x18.q.2.1,A.bP .mono,A.bP .mono,()))<|
 A.cg (A.cmp .eql (A.fI .sym 2 x.1) (A.lit 3)) Nt Nu (A.mkX .poly (A.fL .sym 3 .mono x.1,()),A.mkX .poly (A.fL .sym 4 .mono x.1,()),()) fun x14=>
 A.l1 .b (A.ak (A.cmp .eql (A.fI .sym 2 x.1) (A.lit 3)) (A.cmp .gtr x14.1 (A.lit 0)) (A.bl false)) fun x15=>
 A.bind [.i,.i,.i,.i,.l .ev,.l .poly,.l .mono,.l .mono] (A.cond x15.1 (A.ret _ (A.lit 0,A.lit 0,x2.1,x2.2.1,x2.2.2.1,x2.2.2.2.1,x2.q.2.1,x2.q.1,()))<|
 A.ret _ (A.lit 0,A.lit 0,x2.1,x2.2.1,x2.2.2.1,x2.2.2.2.1,x2.q.1,x2.q.2.1,())) fun x16=>
 A.ret _ (x16.1,x16.2.1,x16.2.2.1,x16.2.2.2.1,x16.q.1,x16.q.2.1,x16.q.2.2.1,x16.q.2.2.2.1,())) fun x14=>
 A.ret _ (x14.1,x14.2.1,x14.2.2.1,x14.2.2.2.1,x14.q.1,x14.q.2.1,x14.q.2.2.1,x14.q.2.2.2.1,())) fun x12=>
 A.ret _ (x12.1,x12.2.1,x12.2.2.1,x12.2.2.2.1,x12.q.1,x12.q.2.1,x12.q.2.2.1,x12.q.2.2.2.1,())) fun x11=>
 A.ret _ (A.mkX .sym (x11.q.1,x11.q.2.1,x11.2.2.1,x11.q.2.2.1,x11.q.2.2.2.1,x11.2.2.2.1,()),())
def Ze (A:Alg) (FN:Pt A oC) (FP:Ft A oC) (rW:Pt A jr) (rX:Ft A jr) (alD:Pt A MZ) (alE:Ft A MZ) (FK:Pt A ow) (FL:Ft A ow) (Ny:Pt A uJ) (Nz:Ft A uJ) (alF:Pt A Nc) (alG:Ft A Nc) (alH:Pt A M0) (alI:Ft A M0) (YG:Pt A BH) (YH:Ft A BH) (alJ:Pt A M9) (alK:Ft A M9) (Ux:Pt A BD) (Uy:Ft A BD) (YI:Pt A BF) (YJ:Ft A BF) (alL:Pt A M4) (alM:Ft A M4) (x:Tup A.ah [.x .tab,.x .blk]):Ot A Ng:=
 A.cl alH alI (x.1,()) fun x0=>
 A.cg (A.aA (A.ak (A.aA x0.1) (A.bl true) (A.cmp .gtr (A.len .atom (A.fL .tab 0 .atom x.1)) (A.lit 100)))) rW rX (x.2.1,()) fun x1=>
 A.cond (A.ak (A.ak (A.aA x0.1) (A.bl true) (A.cmp .gtr (A.len .atom (A.fL .tab 0 .atom x.1)) (A.lit 100))) (A.bl true) (A.aA x1.1)) (A.ret _ (A.mkX .tab (A.bP .atom,()),A.mkX .sym (A.bP .ev,A.bP .poly,A.lit 0,A.bP .mono,A.bP .mono,A.lit 0,()),()))<|
 A.cl YI YJ (A.fL .tab 0 .atom x.1,A.bl false,()) fun x2=>
 A.chk (A.cmp .eql (A.len .iop (A.fL .blk 2 .iop x.2.1)) (A.len .iop (A.fL .blk 2 .iop x.2.1)))<|
 A.chk (A.cmp .leq (A.lit 0) (A.len .iop (A.fL .blk 2 .iop x.2.1)))<|
 A.chk (A.cmp .leq (A.len .iop (A.fL .blk 2 .iop x.2.1)) (A.lit 1073741824))<|
 A.l1 (.l .poly) (A.rep .poly (A.len .iop (A.fL .blk 2 .iop x.2.1)) (A.mkX .poly (A.bP .mono,()))) fun x3=>
 A.l1 .i (A.lit 0) fun x4=>
 A.l1 .i (A.lit 0) fun x5=>
 A.iter [.i,.i,.l .iop,.i,.i,.x .blk,.i,.i,.l .atom,.b,.i,.i,.l .poly,.l .ev,.l .poly] (fun x6=>
 A.cond (A.cmp .lss x6.q.1 x6.2.2.2.1) (A.bd .iop x6.2.2.1 x6.q.1<|
 A.l1 .i x6.q.1 fun x7=>
 A.l1 (.x .iop) (A.get .iop x6.2.2.1 x6.q.1) fun x8=>
 A.cl FK FL (x8.1,()) fun x9=>
 A.l1 .b x9.1 fun x10=>
 A.l1 .b x9.2.1 fun x11=>
 A.l1 .b x9.2.2.1 fun x12=>
 A.l1 .b x9.2.2.2.1 fun x13=>
 A.bind [.i,.i,.i,.b,.l .iop,.i,.i,.x .blk,.i,.i,.l .atom,.b,.i,.i,.l .poly,.x .iop,.x .poly,.l .ev,.l .poly] (A.cond x10.1 (A.bd .poly x6.o.q.1 (A.fI .iop 1 x8.1)<|
 A.bd .poly x6.o.q.1 (A.fI .iop 1 x8.1)<|
 A.l1 (.x .poly) (A.get .poly x6.o.q.1 (A.fI .iop 1 x8.1)) fun x14=>
 A.ret _ (x6.1,x6.2.1,x7.1,x11.1,x6.2.2.1,x6.2.2.2.1,x6.q.1,x6.q.2.1,x6.q.2.2.1,x6.q.2.2.2.1,x6.o.1,x6.o.2.1,x6.o.2.2.1,x6.o.2.2.2.1,x6.o.q.1,x8.1,x14.1,x6.o.q.2.1,x6.o.q.2.2.1,()))<|
 A.ret _ (x6.1,x6.2.1,x7.1,x11.1,x6.2.2.1,x6.2.2.2.1,x6.q.1,x6.q.2.1,x6.q.2.2.1,x6.q.2.2.2.1,x6.o.1,x6.o.2.1,x6.o.2.2.1,x6.o.2.2.2.1,x6.o.q.1,x8.1,A.mkX .poly (A.bP .mono,()),x6.o.q.2.1,x6.o.q.2.2.1,())) fun x14=>
 A.bind [.i,.i,.i,.l .iop,.i,.i,.x .blk,.i,.i,.l .atom,.b,.i,.i,.l .poly,.x .iop,.x .poly,.x .poly,.l .ev,.l .poly] (A.cond x14.2.2.2.1 (A.bd .poly x14.o.q.2.2.1 (A.fI .iop 2 x14.o.q.2.2.2.1)<|
 A.bd .poly x14.o.q.2.2.1 (A.fI .iop 2 x14.o.q.2.2.2.1)<|
 A.l1 (.x .poly) (A.get .poly x14.o.q.2.2.1 (A.fI .iop 2 x14.o.q.2.2.2.1)) fun x15=>
 A.ret _ (x14.1,x14.2.1,x14.2.2.1,x14.q.1,x14.q.2.1,x14.q.2.2.1,x14.q.2.2.2.1,x14.o.1,x14.o.2.1,x14.o.2.2.1,x14.o.2.2.2.1,x14.o.q.1,x14.o.q.2.1,x14.o.q.2.2.1,x14.o.q.2.2.2.1,x14.o.o.1,x15.1,x14.o.o.2.1,x14.o.o.2.2.1,()))<|
 A.ret _ (x14.1,x14.2.1,x14.2.2.1,x14.q.1,x14.q.2.1,x14.q.2.2.1,x14.q.2.2.2.1,x14.o.1,x14.o.2.1,x14.o.2.2.1,x14.o.2.2.2.1,x14.o.q.1,x14.o.q.2.1,x14.o.q.2.2.1,x14.o.q.2.2.2.1,x14.o.o.1,A.mkX .poly (A.bP .mono,()),x14.o.o.2.1,x14.o.o.2.2.1,())) fun x15=>
 A.cl alD alE (x15.o.q.2.2.1,()) fun x16=>
 A.bind [.i,.i,.i,.l .iop,.i,.i,.x .blk,.i,.i,.l .atom,.b,.i,.i,.l .poly,.x .iop,.x .poly,.x .poly,.l .ev,.l .poly] (A.cond x16.1 (A.bind [.i,.i,.i,.l .iop,.i,.i,.x .blk,.i,.i,.l .atom,.b,.i,.i,.l .poly,.x .iop,.x .poly,.x .poly,.i,.i,.l .mono,.l .mono,.l .ev,.l .poly,.l .poly] (A.cond (A.ak (A.cmp .eql (A.fI .iop 0 x15.o.q.2.2.1) (A.lit 4)) (A.bl true) (A.cmp .eql (A.fI .iop 0 x15.o.q.2.2.1) (A.lit 5))) (A.cl alL alM (x15.o.o.2.2.1,()) fun x17=>
 A.ret _ (x15.1,x15.2.1,x15.2.2.1,x15.2.2.2.1,x15.q.1,x15.q.2.1,x15.q.2.2.1,x15.q.2.2.2.1,x15.o.1,x15.o.2.1,x15.o.2.2.1,x15.o.2.2.2.1,x15.o.q.1,x15.o.q.2.1,x15.o.q.2.2.1,x15.o.q.2.2.2.1,x15.o.o.1,A.fI .iop 0 x15.o.q.2.2.1,A.fI .iop 4 x15.o.q.2.2.1,A.fL .poly 0 .mono x15.o.q.2.2.2.1,A.fL .poly 0 .mono x15.o.o.1,x15.o.o.2.1,x17.1,x17.2.1,()))<|
 A.ret _ (x15.1,x15.2.1,x15.2.2.1,x15.2.2.2.1,x15.q.1,x15.q.2.1,x15.q.2.2.1,x15.q.2.2.2.1,x15.o.1,x15.o.2.1,x15.o.2.2.1,x15.o.2.2.2.1,x15.o.q.1,x15.o.q.2.1,x15.o.q.2.2.1,x15.o.q.2.2.2.1,x15.o.o.1,A.fI .iop 0 x15.o.q.2.2.1,A.fI .iop 4 x15.o.q.2.2.1,A.fL .poly 0 .mono x15.o.q.2.2.2.1,A.fL .poly 0 .mono x15.o.o.1,x15.o.o.2.1,x15.o.o.2.2.1,A.bP .poly,())) fun x17=>
 A.l1 (.l .ev) (A.lst .ev [A.mkX .ev (x17.o.o.2.1,x17.o.o.2.2.1,x17.o.o.2.2.2.1,x17.o.o.q.1,x17.o.o.q.2.2.2.1,())]) fun x18=>
 A.chk (A.cmp .leq (A.addN (A.len .ev x17.o.o.q.2.1) (A.len .ev x18.1)) (A.lit 1073741824))<|
 A.l1 (.l .ev) (A.app .ev x17.o.o.q.2.1 x18.1) fun x19=>
 A.ret _ (x17.1,x17.2.1,x17.2.2.1,x17.2.2.2.1,x17.q.1,x17.q.2.1,x17.q.2.2.1,x17.q.2.2.2.1,x17.o.1,x17.o.2.1,x17.o.2.2.1,x17.o.2.2.2.1,x17.o.q.1,x17.o.q.2.1,x17.o.q.2.2.1,x17.o.q.2.2.2.1,x17.o.o.1,x19.1,x17.o.o.q.2.2.1,()))<|
 A.ret _ (x15.1,x15.2.1,x15.2.2.1,x15.2.2.2.1,x15.q.1,x15.q.2.1,x15.q.2.2.1,x15.q.2.2.2.1,x15.o.1,x15.o.2.1,x15.o.2.2.1,x15.o.2.2.2.1,x15.o.q.1,x15.o.q.2.1,x15.o.q.2.2.1,x15.o.q.2.2.2.1,x15.o.o.1,x15.o.o.2.1,x15.o.o.2.2.1,())) fun x17=>
 A.l1 .b (A.cmp .eql (A.fI .iop 0 x17.o.q.2.2.1) (A.lit 1)) fun x18=>
 A.jS [.i,.i,.l .iop,.i,.i,.x .blk,.i,.i,.l .atom,.b,.i,.i,.l .poly,.l .ev,.l .poly] (A.cond x18.1 (A.cl Ny Nz (A.fI .iop 3 x17.o.q.2.2.1,()) fun x19=>
 A.bd .poly x17.o.q.2.1 x17.2.2.1<|
 A.bd .poly x17.o.q.2.1 x17.2.2.1<|
 A.inl _ (x17.1,x17.2.1,x17.2.2.2.1,x17.q.1,x17.q.2.1,x17.q.2.2.1,x17.q.2.2.2.1,x17.o.1,x17.o.2.1,x17.o.2.2.1,x17.o.2.2.2.1,x17.o.q.1,A.set .poly x17.o.q.2.1 x17.2.2.1 (A.mkX .poly (x19.1,())),x17.o.o.2.1,x17.o.o.2.2.1,()))<|
 A.l1 .b (A.cmp .eql (A.fI .iop 0 x17.o.q.2.2.1) (A.lit 2)) fun x19=>
 A.jS [.i,.i,.l .iop,.i,.i,.x .blk,.i,.i,.l .atom,.b,.i,.i,.l .poly,.l .ev,.l .poly] (A.cond x19.1 (A.bd .poly x17.o.o.2.2.1 (A.fI .iop 3 x17.o.q.2.2.1)<|
 A.bd .poly x17.o.o.2.2.1 (A.fI .iop 3 x17.o.q.2.2.1)<|
 A.bd .poly x17.o.q.2.1 x17.2.2.1<|
 A.bd .poly x17.o.q.2.1 x17.2.2.1<|
 A.l1 (.x .poly) (A.get .poly x17.o.o.2.2.1 (A.fI .iop 3 x17.o.q.2.2.1)) fun x20=>
 A.inl _ (x17.1,x17.2.1,x17.2.2.2.1,x17.q.1,x17.q.2.1,x17.q.2.2.1,x17.q.2.2.2.1,x17.o.1,x17.o.2.1,x17.o.2.2.1,x17.o.2.2.2.1,x17.o.q.1,A.set .poly x17.o.q.2.1 x17.2.2.1 x20.1,x17.o.o.2.1,x17.o.o.2.2.1,()))<|
 A.l1 .b (A.cmp .eql (A.fI .iop 0 x17.o.q.2.2.1) (A.lit 3)) fun x20=>
 A.jS [.i,.i,.l .iop,.i,.i,.x .blk,.i,.i,.l .atom,.b,.i,.i,.l .poly,.l .ev,.l .poly] (A.cond x20.1 (A.cl alJ alK (A.mkX .tab (x17.o.2.1,()),A.fI .iop 3 x17.o.q.2.2.1,x17.o.q.2.2.2.1,x17.o.o.1,()) fun x21=>
 A.l1 (.x .tab) x21.1 fun x22=>
 A.l1 (.x .poly) x21.2.1 fun x23=>
 A.l1 .b x21.2.2.1 fun x24=>
 A.cond (A.aA x24.1) (A.inr _<|A.inr _<|A.inr _<|A.inr _<|A.ret _ (A.mkX .tab (A.bP .atom,()),A.mkX .sym (A.bP .ev,A.bP .poly,A.lit 0,A.bP .mono,A.bP .mono,A.lit 0,()),()))<|
 A.l1 (.x .tab) x22.1 fun x25=>
 A.bd .poly x17.o.q.2.1 x17.2.2.1<|
 A.bd .poly x17.o.q.2.1 x17.2.2.1<|
 A.l1 (.x .poly) x23.1 fun x26=>
 A.inl _ (x17.1,x17.2.1,x17.2.2.2.1,x17.q.1,x17.q.2.1,x17.q.2.2.1,x17.q.2.2.2.1,x17.o.1,A.fL .tab 0 .atom x25.1,x17.o.2.2.1,x17.o.2.2.2.1,x17.o.q.1,A.set .poly x17.o.q.2.1 x17.2.2.1 x26.1,x17.o.o.2.1,x17.o.o.2.2.1,()))<|
 A.l1 .b (A.cmp .eql (A.fI .iop 0 x17.o.q.2.2.1) (A.lit 4)) fun x21=>
 A.bind [.i,.i,.l .iop,.i,.i,.x .blk,.i,.i,.l .atom,.b,.i,.i,.l .poly,.l .ev,.l .poly] (A.cond x21.1 (A.cl Ux Uy (A.lit 2,x17.1,x17.o.2.1,x17.o.2.2.1,()) fun x22=>
 A.bd .poly x17.o.q.2.1 x17.2.2.1<|
 A.bd .poly x17.o.q.2.1 x17.2.2.1<|
 A.l1 (.x .poly) x22.1 fun x23=>
 A.l1 .i (A.arith .add .i64 x17.1 (A.lit 1)) fun x24=>
 A.ret _ (x24.1,x17.2.1,x17.2.2.2.1,x17.q.1,x17.q.2.1,x17.q.2.2.1,x17.q.2.2.2.1,x17.o.1,x22.2.1,x22.2.2.1,x17.o.2.2.2.1,x17.o.q.1,A.set .poly x17.o.q.2.1 x17.2.2.1 x23.1,x17.o.o.2.1,x17.o.o.2.2.1,()))<|
 A.l1 .b (A.cmp .eql (A.fI .iop 0 x17.o.q.2.2.1) (A.lit 6)) fun x22=>
 A.bind [.i,.i,.l .iop,.i,.i,.x .blk,.i,.i,.l .atom,.b,.i,.i,.l .poly,.l .ev,.l .poly] (A.cond x22.1 (A.cl Ux Uy (A.lit 3,x17.2.1,x17.o.2.1,x17.o.2.2.1,()) fun x23=>
 A.bd .poly x17.o.q.2.1 x17.2.2.1<|
 A.bd .poly x17.o.q.2.1 x17.2.2.1<|
 A.l1 (.x .poly) x23.1 fun x24=>
 A.l1 .i (A.arith .add .i64 x17.2.1 (A.lit 1)) fun x25=>
 A.ret _ (x17.1,x25.1,x17.2.2.2.1,x17.q.1,x17.q.2.1,x17.q.2.2.1,x17.q.2.2.2.1,x17.o.1,x23.2.1,x23.2.2.1,x17.o.2.2.2.1,x17.o.q.1,A.set .poly x17.o.q.2.1 x17.2.2.1 x24.1,x17.o.o.2.1,x17.o.o.2.2.1,()))<|
 A.l1 .b (A.cmp .eql (A.fI .iop 0 x17.o.q.2.2.1) (A.lit 8)) fun x23=>
 A.bind [.i,.i,.l .iop,.i,.i,.x .blk,.i,.i,.l .atom,.b,.i,.i,.l .poly,.l .ev,.l .poly] (A.cond x23.1 (A.bd .poly x17.o.o.2.2.1 (A.fI .iop 3 x17.o.q.2.2.1)<|
 A.bd .poly x17.o.o.2.2.1 (A.fI .iop 3 x17.o.q.2.2.1)<|
 A.l1 (.x .poly) x17.o.q.2.2.2.1 fun x24=>
 A.ret _ (x17.1,x17.2.1,x17.2.2.2.1,x17.q.1,x17.q.2.1,x17.q.2.2.1,x17.q.2.2.2.1,x17.o.1,x17.o.2.1,x17.o.2.2.1,x17.o.2.2.2.1,x17.o.q.1,x17.o.q.2.1,x17.o.o.2.1,A.set .poly x17.o.o.2.2.1 (A.fI .iop 3 x17.o.q.2.2.1) x24.1,()))<|
 A.ret _ (x17.1,x17.2.1,x17.2.2.2.1,x17.q.1,x17.q.2.1,x17.q.2.2.1,x17.q.2.2.2.1,x17.o.1,x17.o.2.1,x17.o.2.2.1,x17.o.2.2.2.1,x17.o.q.1,x17.o.q.2.1,x17.o.o.2.1,x17.o.o.2.2.1,())) fun x24=>
 A.ret _ (x24.1,x24.2.1,x24.2.2.1,x24.2.2.2.1,x24.q.1,x24.q.2.1,x24.q.2.2.1,x24.q.2.2.2.1,x24.o.1,x24.o.2.1,x24.o.2.2.1,x24.o.2.2.2.1,x24.o.q.1,x24.o.q.2.1,x24.o.q.2.2.1,())) fun x23=>
 A.ret _ (x23.1,x23.2.1,x23.2.2.1,x23.2.2.2.1,x23.q.1,x23.q.2.1,x23.q.2.2.1,x23.q.2.2.2.1,x23.o.1,x23.o.2.1,x23.o.2.2.1,x23.o.2.2.2.1,x23.o.q.1,x23.o.q.2.1,x23.o.q.2.2.1,())) fun x22=>
 A.inl _ (x22.1,x22.2.1,x22.2.2.1,x22.2.2.2.1,x22.q.1,x22.q.2.1,x22.q.2.2.1,x22.q.2.2.2.1,x22.o.1,x22.o.2.1,x22.o.2.2.1,x22.o.2.2.2.1,x22.o.q.1,x22.o.q.2.1,x22.o.q.2.2.1,())) fun x21=>
 A.inl _ (x21.1,x21.2.1,x21.2.2.1,x21.2.2.2.1,x21.q.1,x21.q.2.1,x21.q.2.2.1,x21.q.2.2.2.1,x21.o.1,x21.o.2.1,x21.o.2.2.1,x21.o.2.2.2.1,x21.o.q.1,x21.o.q.2.1,x21.o.q.2.2.1,())) fun x20=>
 A.inl _ (x20.1,x20.2.1,x20.2.2.1,x20.2.2.2.1,x20.q.1,x20.q.2.1,x20.q.2.2.1,x20.q.2.2.2.1,x20.o.1,x20.o.2.1,x20.o.2.2.1,x20.o.2.2.2.1,x20.o.q.1,x20.o.q.2.1,x20.o.q.2.2.1,())) fun x19=>
 A.inl _ (x19.1,x19.2.1,x19.2.2.1,x19.2.2.2.1,A.arith .add .i64 x19.q.1 (A.lit 1),x19.q.2.1,x19.q.2.2.1,x19.q.2.2.2.1,x19.o.1,x19.o.2.1,x19.o.2.2.1,x19.o.2.2.2.1,x19.o.q.1,x19.o.q.2.1,x19.o.q.2.2.1,()))<|
 A.inr _<|A.cl FN FP (x6.q.2.1,()) fun x7=>
 A.l1 .b x7.1 fun x8=>
 A.l1 .b x7.2.1 fun x9=>
 A.l1 .b x7.2.2.1 fun x10=>
 A.bind [.b,.x .blk,.i,.i,.l .atom,.b,.i,.l .mono,.i,.l .poly,.l .ev,.l .poly] (A.cond x8.1 (A.bd .poly x6.o.q.1 (A.fI .blk 4 x6.q.2.1)<|
 A.bd .poly x6.o.q.1 (A.fI .blk 4 x6.q.2.1)<|
 A.l1 (.x .poly) (A.get .poly x6.o.q.1 (A.fI .blk 4 x6.q.2.1)) fun x11=>
 A.ret _ (x9.1,x6.q.2.1,x6.q.2.2.1,x6.q.2.2.2.1,x6.o.1,x6.o.2.1,x6.o.2.2.1,A.fL .poly 0 .mono x11.1,x6.o.2.2.2.1,x6.o.q.1,x6.o.q.2.1,x6.o.q.2.2.1,()))<|
 A.ret _ (x9.1,x6.q.2.1,x6.q.2.2.1,x6.q.2.2.2.1,x6.o.1,x6.o.2.1,x6.o.2.2.1,A.bP .mono,x6.o.2.2.2.1,x6.o.q.1,x6.o.q.2.1,x6.o.q.2.2.1,())) fun x11=>
 A.bind [.x .blk,.i,.i,.l .atom,.b,.i,.l .mono,.l .mono,.i,.l .ev,.l .poly] (A.cond x11.1 (A.bd .poly x11.o.2.1 (A.fI .blk 5 x11.2.1)<|
 A.bd .poly x11.o.2.1 (A.fI .blk 5 x11.2.1)<|
 A.l1 (.x .poly) (A.get .poly x11.o.2.1 (A.fI .blk 5 x11.2.1)) fun x12=>
 A.ret _ (x11.2.1,x11.2.2.1,x11.2.2.2.1,x11.q.1,x11.q.2.1,x11.q.2.2.1,x11.q.2.2.2.1,A.fL .poly 0 .mono x12.1,x11.o.1,x11.o.2.2.1,x11.o.2.2.2.1,()))<|
 A.ret _ (x11.2.1,x11.2.2.1,x11.2.2.2.1,x11.q.1,x11.q.2.1,x11.q.2.2.1,x11.q.2.2.2.1,A.bP .mono,x11.o.1,x11.o.2.2.1,x11.o.2.2.2.1,())) fun x12=>
 A.cond x12.q.1 (A.ret _ (A.mkX .tab (A.bP .atom,()),A.mkX .sym (A.bP .ev,A.bP .poly,A.lit 0,A.bP .mono,A.bP .mono,A.lit 0,()),()))<|
 A.cl YG YH (A.mkX .tab (x12.2.2.2.1,()),()) fun x13=>
 A.cl alF alG (A.mkX .sym (x12.o.2.1,x12.o.2.2.1,x12.q.2.1,x12.q.2.2.1,x12.q.2.2.2.1,x12.o.1,()),A.arith .add .i64 (A.fI .blk 0 x12.1) (A.fI .blk 1 x12.1),()) fun x14=>
 A.l1 (.x .sym) x14.1 fun x15=>
 A.ret _ (A.mkX .tab (x13.1,()),x15.1,())) (x4.1,x5.1,A.fL .blk 2 .iop x.2.1,A.len .iop (A.fL .blk 2 .iop x.2.1),A.lit 0,x.2.1,A.lit 0,A.lit 0,x2.1,x2.2.1,A.fI .blk 3 x.2.1,A.fI .blk 6 x.2.1,x3.1,A.bP .ev,x2.2.2.1,())
def Zf (A:Alg) (lM:Pt A jv) (lN:Ft A jv) (x:Tup A.ah [.x .poly,.x .poly]):Ot A Nh:=
 A.l1 .b (A.bl false) fun x0=>
 A.cl lM lN (x.1,x.2.1,()) fun x1=>
 A.rb x1.1
def RH (A:Alg) (alN:Pt A Nh) (alO:Ft A Nh) (x:Tup A.ah [.l .poly,.l .poly]):Ot A Fw:=
 A.l1 .b (A.bl false) fun x0=>
 A.cond (A.cmp .neq (A.len .poly x.1) (A.len .poly x.2.1)) (A.rb (A.bl false))<|
 A.iter [.l .poly,.l .poly,.i,.i] (fun x1=>
 A.cond (A.cmp .lss x1.2.2.2.1 x1.2.2.1) (A.bd .poly x1.2.1 x1.2.2.2.1<|
 A.l1 .i x1.2.2.2.1 fun x2=>
 A.l1 (.x .poly) (A.get .poly x1.2.1 x1.2.2.2.1) fun x3=>
 A.bd .poly x1.1 x2.1<|
 A.l1 (.x .poly) (A.get .poly x1.1 x2.1) fun x4=>
 A.cl alN alO (x3.1,x4.1,()) fun x5=>
 A.cond (A.aA x5.1) (A.l1 .b (A.bl false) fun x6=>
 A.inr _<|A.ret _ (x6.1,()))<|
 A.inl _ (x1.1,x1.2.1,x1.2.2.1,A.arith .add .i64 x1.2.2.2.1 (A.lit 1),()))<|
 A.inr _<|A.rb (A.bl true)) (x.2.1,x.1,A.len .poly x.1,A.lit 0,())
def Zg (A:Alg) (agb:Pt A Fw) (agc:Ft A Fw) (x:Tup A.ah [.l .poly,.l .poly]):Ot A BO:=
 A.l1 .b (A.bl false) fun x0=>
 A.cl agb agc (x.1,x.2.1,()) fun x1=>
 A.rb x1.1
def Zh (A:Alg) (lM:Pt A jv) (lN:Ft A jv) (Zi:Pt A BO) (Zj:Ft A BO) (x:Tup A.ah [.x .ev,.x .ev]):Ot A Ni:=
 A.l1 .b (A.bl false) fun x0=>
 A.cg (A.ak (A.cmp .eql (A.fI .ev 0 x.1) (A.fI .ev 0 x.2.1)) (A.cmp .eql (A.fI .ev 1 x.1) (A.fI .ev 1 x.2.1)) (A.bl false)) lM lN (A.mkX .poly (A.fL .ev 2 .mono x.1,()),A.mkX .poly (A.fL .ev 2 .mono x.2.1,()),()) fun x1=>
 A.cg (A.ak (A.ak (A.cmp .eql (A.fI .ev 0 x.1) (A.fI .ev 0 x.2.1)) (A.cmp .eql (A.fI .ev 1 x.1) (A.fI .ev 1 x.2.1)) (A.bl false)) x1.1 (A.bl false)) lM lN (A.mkX .poly (A.fL .ev 3 .mono x.1,()),A.mkX .poly (A.fL .ev 3 .mono x.2.1,()),()) fun x2=>
 A.cg (A.ak (A.ak (A.ak (A.cmp .eql (A.fI .ev 0 x.1) (A.fI .ev 0 x.2.1)) (A.cmp .eql (A.fI .ev 1 x.1) (A.fI .ev 1 x.2.1)) (A.bl false)) x1.1 (A.bl false)) x2.1 (A.bl false)) Zi Zj (A.fL .ev 4 .poly x.1,A.fL .ev 4 .poly x.2.1,()) fun x3=>
 A.rb (A.ak (A.ak (A.ak (A.ak (A.cmp .eql (A.fI .ev 0 x.1) (A.fI .ev 0 x.2.1)) (A.cmp .eql (A.fI .ev 1 x.1) (A.fI .ev 1 x.2.1)) (A.bl false)) x1.1 (A.bl false)) x2.1 (A.bl false)) x3.1 (A.bl false))
def RJ (A:Alg) (alP:Pt A Ni) (alQ:Ft A Ni) (x:Tup A.ah [.l .ev,.l .ev]):Ot A Fx:=
 A.l1 .b (A.bl false) fun x0=>
 A.cond (A.cmp .neq (A.len .ev x.1) (A.len .ev x.2.1)) (A.rb (A.bl false))<|
 A.iter [.l .ev,.l .ev,.i,.i] (fun x1=>
 A.cond (A.cmp .lss x1.2.2.2.1 x1.2.2.1) (A.bd .ev x1.2.1 x1.2.2.2.1<|
 A.l1 .i x1.2.2.2.1 fun x2=>
 A.l1 (.x .ev) (A.get .ev x1.2.1 x1.2.2.2.1) fun x3=>
 A.bd .ev x1.1 x2.1<|
 A.l1 (.x .ev) (A.get .ev x1.1 x2.1) fun x4=>
 A.cl alP alQ (x3.1,x4.1,()) fun x5=>
 A.cond (A.aA x5.1) (A.l1 .b (A.bl false) fun x6=>
 A.inr _<|A.ret _ (x6.1,()))<|
 A.inl _ (x1.1,x1.2.1,x1.2.2.1,A.arith .add .i64 x1.2.2.2.1 (A.lit 1),()))<|
 A.inr _<|A.rb (A.bl true)) (x.2.1,x.1,A.len .ev x.1,A.lit 0,())
def Zk (A:Alg) (lM:Pt A jv) (lN:Ft A jv) (Zi:Pt A BO) (Zj:Ft A BO) (agd:Pt A Fx) (agf:Ft A Fx) (x:Tup A.ah [.x .sym,.x .sym]):Ot A Nj:=
 A.l1 .b (A.bl false) fun x0=>
 A.cl agd agf (A.fL .sym 0 .ev x.1,A.fL .sym 0 .ev x.2.1,()) fun x1=>
 A.l1 .b x1.1 fun x2=>
 A.cg x2.1 Zi Zj (A.fL .sym 1 .poly x.1,A.fL .sym 1 .poly x.2.1,()) fun x3=>
 A.cg (A.ak (A.ak x2.1 x3.1 (A.bl false)) (A.cmp .eql (A.fI .sym 2 x.1) (A.fI .sym 2 x.2.1)) (A.bl false)) lM lN (A.mkX .poly (A.fL .sym 3 .mono x.1,()),A.mkX .poly (A.fL .sym 3 .mono x.2.1,()),()) fun x4=>
 A.cg (A.ak (A.ak (A.ak x2.1 x3.1 (A.bl false)) (A.cmp .eql (A.fI .sym 2 x.1) (A.fI .sym 2 x.2.1)) (A.bl false)) x4.1 (A.bl false)) lM lN (A.mkX .poly (A.fL .sym 4 .mono x.1,()),A.mkX .poly (A.fL .sym 4 .mono x.2.1,()),()) fun x5=>
 A.rb (A.ak (A.ak (A.ak (A.ak (A.ak x2.1 x3.1 (A.bl false)) (A.cmp .eql (A.fI .sym 2 x.1) (A.fI .sym 2 x.2.1)) (A.bl false)) x4.1 (A.bl false)) x5.1 (A.bl false)) (A.cmp .eql (A.fI .sym 5 x.1) (A.fI .sym 5 x.2.1)) (A.bl false))
def Zl (A:Alg) (rW:Pt A jr) (rX:Ft A jr) (alR:Pt A ML) (alS:Ft A ML) (alT:Pt A MX) (alU:Ft A MX) (acT:Pt A Ng) (acU:Ft A Ng) (alV:Pt A Nj) (alW:Ft A Nj) (x:Tup A.ah [.x .blk,.x .blk]):Ot A Nk:=
 A.l1 .b (A.bl false) fun x0=>
 A.cl rW rX (x.1,()) fun x1=>
 A.cg (A.aA (A.aA x1.1)) rW rX (x.2.1,()) fun x2=>
 A.cond (A.ak (A.ak (A.ak (A.aA x1.1) (A.bl true) (A.aA x2.1)) (A.bl true) (A.cmp .neq (A.fI .blk 0 x.1) (A.fI .blk 0 x.2.1))) (A.bl true) (A.cmp .neq (A.fI .blk 1 x.1) (A.fI .blk 1 x.2.1))) (A.rb (A.bl false))<|
 A.cl alR alS (x.1,x.2.1,()) fun x3=>
 A.cond x3.1 (A.rb (A.bl true))<|
 A.cl alT alU () fun x4=>
 A.l1 (.x .tab) x4.1 fun x5=>
 A.l1 (.l .poly) x4.2.1 fun x6=>
 A.cl acT acU (x5.1,x.1,()) fun x7=>
 A.l1 (.x .tab) x7.1 fun x8=>
 A.l1 (.x .sym) x7.2.1 fun x9=>
 A.cl acT acU (x8.1,x.2.1,()) fun x10=>
 A.l1 (.x .tab) x10.1 fun x11=>
 A.l1 (.x .sym) x10.2.1 fun x12=>
 A.cl alV alW (x9.1,x12.1,()) fun x13=>
 A.rb x13.1
def Zm (A:Alg) (XZ:Pt A Br) (X0:Ft A Br) (x:Tup A.ah [.x .blk,.l .bool]):Ot A BP:=
 A.chk (A.cmp .eql (A.len .iop (A.fL .blk 2 .iop x.1)) (A.len .iop (A.fL .blk 2 .iop x.1)))<|
 A.chk (A.cmp .leq (A.lit 0) (A.len .iop (A.fL .blk 2 .iop x.1)))<|
 A.chk (A.cmp .leq (A.len .iop (A.fL .blk 2 .iop x.1)) (A.lit 1073741824))<|
 A.l1 (.l .i64) (A.rep .i64 (A.len .iop (A.fL .blk 2 .iop x.1)) (A.mkX .i64 (A.lit 0,()))) fun x0=>
 A.l1 (.x .blk) x.1 fun x1=>
 A.iter [.l .bool,.l .iop,.i,.i,.i,.i,.i,.i,.i,.i,.l .i64,.i,.i,.i,.i,.i,.i,.l .iop] (fun x2=>
 A.cond (A.cmp .lss x2.2.2.2.1 x2.2.2.1) (A.bd .iop x2.2.1 x2.2.2.2.1<|
 A.l1 .i x2.2.2.2.1 fun x3=>
 A.l1 (.x .iop) (A.get .iop x2.2.1 x2.2.2.2.1) fun x4=>
 A.bd .i64 x2.o.2.2.1 x3.1<|
 A.bd .i64 x2.o.2.2.1 x3.1<|
 A.l1 .i (A.len .iop x2.o.o.2.1) fun x5=>
 A.bd .bool x2.1 x3.1<|
 A.bind [.l .bool,.l .iop,.i,.i,.i,.i,.i,.i,.i,.i,.l .i64,.i,.i,.i,.i,.i,.i,.l .iop] (A.cond (A.fB .bool 0 (A.get .bool x2.1 x3.1)) (A.l1 (.l .iop) (A.lst .iop [x4.1]) fun x6=>
 A.chk (A.cmp .leq (A.addN (A.len .iop x2.o.o.2.1) (A.len .iop x6.1)) (A.lit 1073741824))<|
 A.l1 (.l .iop) (A.app .iop x2.o.o.2.1 x6.1) fun x7=>
 A.ret _ (x2.1,x2.2.1,x2.2.2.1,x2.2.2.2.1,x2.q.1,x2.q.2.1,x2.q.2.2.1,x2.q.2.2.2.1,x2.o.1,x2.o.2.1,A.set .i64 x2.o.2.2.1 x3.1 (A.mkX .i64 (x5.1,())),x2.o.2.2.2.1,x2.o.q.1,x2.o.q.2.1,x2.o.q.2.2.1,x2.o.q.2.2.2.1,x2.o.o.1,x7.1,()))<|
 A.ret _ (x2.1,x2.2.1,x2.2.2.1,x2.2.2.2.1,x2.q.1,x2.q.2.1,x2.q.2.2.1,x2.q.2.2.2.1,x2.o.1,x2.o.2.1,A.set .i64 x2.o.2.2.1 x3.1 (A.mkX .i64 (x5.1,())),x2.o.2.2.2.1,x2.o.q.1,x2.o.q.2.1,x2.o.q.2.2.1,x2.o.q.2.2.2.1,x2.o.o.1,x2.o.o.2.1,())) fun x6=>
 A.inl _ (x6.1,x6.2.1,x6.2.2.1,A.arith .add .i64 x6.2.2.2.1 (A.lit 1),x6.q.1,x6.q.2.1,x6.q.2.2.1,x6.q.2.2.2.1,x6.o.1,x6.o.2.1,x6.o.2.2.1,x6.o.2.2.2.1,x6.o.q.1,x6.o.q.2.1,x6.o.q.2.2.1,x6.o.q.2.2.2.1,x6.o.o.1,x6.o.o.2.1,()))<|
 A.inr _<|A.cl XZ X0 (x2.o.2.2.1,x2.o.2.2.2.1,x2.o.q.1,x2.o.q.2.1,x2.o.q.2.2.1,x2.o.q.2.2.2.1,x2.o.o.1,x2.o.o.2.1,()) fun x3=>
 A.ret _ (x3.1,x3.2.1,x3.2.2.1,x3.2.2.2.1,x3.q.1,x3.q.2.1,x3.q.2.2.1,())) (x.2.1,A.fL .blk 2 .iop x.1,A.len .iop (A.fL .blk 2 .iop x.1),A.lit 0,A.lit 0,A.lit 0,A.lit 0,A.lit 0,A.lit 0,A.lit 0,x0.1,A.fI .blk 0 x1.1,A.fI .blk 1 x1.1,A.fI .blk 3 x1.1,A.fI .blk 4 x1.1,A.fI .blk 5 x1.1,A.fI .blk 6 x1.1,A.bP .iop,())
def Zn (A:Alg) (Zo:Pt A BP) (Zp:Ft A BP) (alX:Pt A MK) (alY:Ft A MK) (rW:Pt A jr) (rX:Ft A jr) (x:Tup A.ah [.x .blk]):Ot A Nl:=
 A.cl rW rX (x.1,()) fun x0=>
 A.cond (A.aA x0.1) (A.ret _ (A.mkX .blk (A.lit 0,A.lit 0,A.bP .iop,A.lit 0,A.lit 0,A.lit 0,A.lit 0,()),()))<|
 A.cl alX alY (x.1,()) fun x1=>
 A.cl Zo Zp (x.1,x1.1,()) fun x2=>
 A.ret _ (A.mkX .blk (x2.1,x2.2.1,x2.q.2.2.1,x2.2.2.1,x2.2.2.2.1,x2.q.1,x2.q.2.1,()),())
def Zq (A:Alg) (Zo:Pt A BP) (Zp:Ft A BP) (rW:Pt A jr) (rX:Ft A jr) (x:Tup A.ah [.x .blk]):Ot A Nn:=
 A.cl rW rX (x.1,()) fun x0=>
 A.cond (A.aA x0.1) (A.ret _ (A.mkX .blk (A.lit 0,A.lit 0,A.bP .iop,A.lit 0,A.lit 0,A.lit 0,A.lit 0,()),()))<|
 A.chk (A.cmp .eql (A.len .iop (A.fL .blk 2 .iop x.1)) (A.len .iop (A.fL .blk 2 .iop x.1)))<|
 A.chk (A.cmp .leq (A.lit 0) (A.len .iop (A.fL .blk 2 .iop x.1)))<|
 A.chk (A.cmp .leq (A.len .iop (A.fL .blk 2 .iop x.1)) (A.lit 1073741824))<|
 A.l1 (.l .bool) (A.rep .bool (A.len .iop (A.fL .blk 2 .iop x.1)) (A.mkX .bool (A.bl false,()))) fun x1=>
 A.chk (A.cmp .eql (A.lit 4) (A.lit 4))<|
 A.chk (A.cmp .leq (A.lit 0) (A.lit 4))<|
 A.chk (A.cmp .leq (A.lit 4) (A.lit 1073741824))<|
 A.l1 (.l .bool) (A.rep .bool (A.lit 4) (A.mkX .bool (A.bl false,()))) fun x2=>
 A.l1 .i (A.arith .sub .i64 (A.len .iop (A.fL .blk 2 .iop x.1)) (A.lit 1)) fun x3=>
 A.iter [.i,.x .blk,.i,.i,.i,.i,.i,.i,.l .bool,.l .bool] (fun x4=>
 A.cond (A.cmp .geq x4.1 (A.lit 0)) (A.bd .bool x4.o.1 x4.1<|
 A.bd .bool x4.o.1 x4.1<|
 A.l1 .b (A.bl true) fun x5=>
 A.bd .iop (A.fL .blk 2 .iop x4.2.1) x4.1<|
 A.l1 (.x .iop) (A.get .iop (A.fL .blk 2 .iop x4.2.1) x4.1) fun x6=>
 A.l1 .b (A.cmp .eql (A.fI .iop 0 x6.1) (A.lit 8)) fun x7=>
 A.bind [.i,.x .blk,.i,.i,.i,.i,.i,.i,.l .bool,.l .bool] (A.cond x7.1 (A.bd .bool x4.o.2.1 (A.fI .iop 3 x6.1)<|
 A.bd .bool x4.o.2.1 (A.fI .iop 3 x6.1)<|
 A.bd .bool (A.set .bool x4.o.1 x4.1 (A.mkX .bool (x5.1,()))) x4.1<|
 A.bd .bool (A.set .bool x4.o.1 x4.1 (A.mkX .bool (x5.1,()))) x4.1<|
 A.l1 .b (A.aA (A.fB .bool 0 (A.get .bool x4.o.2.1 (A.fI .iop 3 x6.1)))) fun x8=>
 A.bd .bool x4.o.2.1 (A.fI .iop 3 x6.1)<|
 A.bd .bool x4.o.2.1 (A.fI .iop 3 x6.1)<|
 A.l1 .b (A.bl true) fun x9=>
 A.ret _ (x4.1,x4.2.1,x4.2.2.1,x4.2.2.2.1,x4.q.1,x4.q.2.1,x4.q.2.2.1,x4.q.2.2.2.1,A.set .bool (A.set .bool x4.o.1 x4.1 (A.mkX .bool (x5.1,()))) x4.1 (A.mkX .bool (x8.1,())),A.set .bool x4.o.2.1 (A.fI .iop 3 x6.1) (A.mkX .bool (x9.1,())),()))<|
 A.l1 .b (A.cmp .eql (A.fI .iop 0 x6.1) (A.lit 2)) fun x8=>
 A.bind [.i,.x .blk,.i,.i,.i,.i,.i,.i,.l .bool,.l .bool] (A.cond x8.1 (A.bd .bool x4.o.2.1 (A.fI .iop 3 x6.1)<|
 A.bd .bool x4.o.2.1 (A.fI .iop 3 x6.1)<|
 A.l1 .b (A.bl false) fun x9=>
 A.ret _ (x4.1,x4.2.1,x4.2.2.1,x4.2.2.2.1,x4.q.1,x4.q.2.1,x4.q.2.2.1,x4.q.2.2.2.1,A.set .bool x4.o.1 x4.1 (A.mkX .bool (x5.1,())),A.set .bool x4.o.2.1 (A.fI .iop 3 x6.1) (A.mkX .bool (x9.1,())),()))<|
 A.l1 .b (A.cmp .eql (A.fI .iop 0 x6.1) (A.lit 4)) fun x9=>
 A.bind [.i,.b,.x .blk,.i,.i,.i,.i,.i,.i,.l .bool,.l .bool] (A.cond x9.1 (A.ret _ (x4.1,x9.1,x4.2.1,x4.2.2.1,x4.2.2.2.1,x4.q.1,x4.q.2.1,x4.q.2.2.1,x4.q.2.2.2.1,A.set .bool x4.o.1 x4.1 (A.mkX .bool (x5.1,())),x4.o.2.1,()))<|
 A.l1 .b (A.cmp .eql (A.fI .iop 0 x6.1) (A.lit 5)) fun x10=>
 A.ret _ (x4.1,x10.1,x4.2.1,x4.2.2.1,x4.2.2.2.1,x4.q.1,x4.q.2.1,x4.q.2.2.1,x4.q.2.2.2.1,A.set .bool x4.o.1 x4.1 (A.mkX .bool (x5.1,())),x4.o.2.1,())) fun x10=>
 A.bind [.i,.x .blk,.i,.i,.i,.i,.i,.i,.l .bool,.l .bool] (A.cond x10.2.1 (A.ret _ (x10.1,x10.2.2.1,x10.2.2.2.1,x10.q.1,x10.q.2.1,x10.q.2.2.1,x10.q.2.2.2.1,x10.o.1,x10.o.2.1,A.rep .bool (A.len .bool x10.o.2.2.1) (A.mkX .bool (A.bl false,())),()))<|
 A.ret _ (x10.1,x10.2.2.1,x10.2.2.2.1,x10.q.1,x10.q.2.1,x10.q.2.2.1,x10.q.2.2.2.1,x10.o.1,x10.o.2.1,x10.o.2.2.1,())) fun x11=>
 A.ret _ (x11.1,x11.2.1,x11.2.2.1,x11.2.2.2.1,x11.q.1,x11.q.2.1,x11.q.2.2.1,x11.q.2.2.2.1,x11.o.1,x11.o.2.1,())) fun x9=>
 A.ret _ (x9.1,x9.2.1,x9.2.2.1,x9.2.2.2.1,x9.q.1,x9.q.2.1,x9.q.2.2.1,x9.q.2.2.2.1,x9.o.1,x9.o.2.1,())) fun x8=>
 A.l1 .i (A.arith .sub .i64 x8.1 (A.lit 1)) fun x9=>
 A.inl _ (x9.1,x8.2.1,x8.2.2.1,x8.2.2.2.1,x8.q.1,x8.q.2.1,x8.q.2.2.1,x8.q.2.2.2.1,x8.o.1,x8.o.2.1,()))<|
 A.inr _<|A.cl Zo Zp (x4.2.1,x4.o.1,()) fun x5=>
 A.ret _ (A.mkX .blk (x5.1,x5.2.1,x5.q.2.2.1,x5.2.2.1,x5.2.2.2.1,x5.q.1,x5.q.2.1,()),())) (x3.1,x.1,A.lit 0,A.lit 0,A.lit 0,A.lit 0,A.lit 0,A.lit 0,x1.1,x2.1,())
def Zr (A:Alg) (x:Tup A.ah [.i,.i,.i,.i,.i,.i,.i,.l .iop]):Ot A Np:=
 A.l1 .b (A.bl false) fun x0=>
 A.bd .iop x.q.2.2.2.1 x.1<|
 A.bd .iop x.q.2.2.2.1 x.1<|
 A.l1 .b (A.cmp .eql (A.fI .iop 0 (A.get .iop x.q.2.2.2.1 x.1)) (A.lit 1)) fun x1=>
 A.ret _ (x1.1,x.2.1,x.2.2.1,x.2.2.2.1,x.q.1,x.q.2.1,x.q.2.2.1,x.q.2.2.2.1,())
def Zt (A:Alg) (XW:Pt A Bq) (XY:Ft A Bq) (rW:Pt A jr) (rX:Ft A jr) (FY:Pt A Np) (FZ:Ft A Np) (Y5:Pt A BI) (Y6:Ft A BI) (Zc:Pt A BN) (Zd:Ft A BN) (x:Tup A.ah [.x .blk]):Ot A Nq:=
 A.cl rW rX (x.1,()) fun x0=>
 A.cond (A.aA x0.1) (A.ret _ (A.mkX .blk (A.lit 0,A.lit 0,A.bP .iop,A.lit 0,A.lit 0,A.lit 0,A.lit 0,()),()))<|
 A.cl XW XY (x.1,()) fun x1=>
 A.iter [.i,.i,.x .blk,.i,.i,.i,.i,.i,.i,.i,.i,.i,.i,.i,.i,.l .iop] (fun x2=>
 A.cond (A.cmp .lss x2.2.1 x2.1) (A.bd .iop x2.o.q.2.2.2.1 x2.2.1<|
 A.bd .iop x2.o.q.2.2.2.1 x2.2.1<|
 A.l1 .i x2.2.1 fun x3=>
 A.l1 (.x .iop) (A.get .iop x2.o.q.2.2.2.1 x2.2.1) fun x4=>
 A.bind [.i,.i,.i,.b,.x .blk,.i,.i,.i,.i,.i,.i,.i,.i,.i,.i,.i,.i,.x .iop,.l .iop] (A.cond (A.cmp .eql (A.fI .iop 0 x4.1) (A.lit 3)) (A.cl FY FZ (A.fI .iop 1 x4.1,x2.o.2.1,x2.o.2.2.1,x2.o.2.2.2.1,x2.o.q.1,x2.o.q.2.1,x2.o.q.2.2.1,x2.o.q.2.2.2.1,()) fun x5=>
 A.cond (A.ak (A.cmp .eql (A.fI .iop 0 x4.1) (A.lit 3)) x5.1 (A.bl false)) (A.cl FY FZ (A.fI .iop 2 x4.1,x5.2.1,x5.2.2.1,x5.2.2.2.1,x5.q.1,x5.q.2.1,x5.q.2.2.1,x5.q.2.2.2.1,()) fun x6=>
 A.ret _ (x3.1,x2.1,x2.2.1,A.ak (A.ak (A.cmp .eql (A.fI .iop 0 x4.1) (A.lit 3)) x5.1 (A.bl false)) x6.1 (A.bl false),x2.2.2.1,x2.2.2.2.1,x2.q.1,x2.q.2.1,x2.q.2.2.1,x2.q.2.2.2.1,x2.o.1,x6.2.1,x6.2.2.1,x6.2.2.2.1,x6.q.1,x6.q.2.1,x6.q.2.2.1,x4.1,x6.q.2.2.2.1,()))<|
 A.chk (A.aA (A.ak (A.cmp .eql (A.fI .iop 0 x4.1) (A.lit 3)) x5.1 (A.bl false)))<|
 A.ret _ (x3.1,x2.1,x2.2.1,A.bl false,x2.2.2.1,x2.2.2.2.1,x2.q.1,x2.q.2.1,x2.q.2.2.1,x2.q.2.2.2.1,x2.o.1,x5.2.1,x5.2.2.1,x5.2.2.2.1,x5.q.1,x5.q.2.1,x5.q.2.2.1,x4.1,x5.q.2.2.2.1,()))<|
 A.chk (A.aA (A.cmp .eql (A.fI .iop 0 x4.1) (A.lit 3)))<|
 A.cond (A.bl false) (A.cl FY FZ (A.fI .iop 2 x4.1,x2.o.2.1,x2.o.2.2.1,x2.o.2.2.2.1,x2.o.q.1,x2.o.q.2.1,x2.o.q.2.2.1,x2.o.q.2.2.2.1,()) fun x5=>
 A.ret _ (x3.1,x2.1,x2.2.1,A.ak (A.bl false) x5.1 (A.bl false),x2.2.2.1,x2.2.2.2.1,x2.q.1,x2.q.2.1,x2.q.2.2.1,x2.q.2.2.2.1,x2.o.1,x5.2.1,x5.2.2.1,x5.2.2.2.1,x5.q.1,x5.q.2.1,x5.q.2.2.1,x4.1,x5.q.2.2.2.1,()))<|
 A.chk (A.aA (A.bl false))<|
 A.ret _ (x3.1,x2.1,x2.2.1,A.bl false,x2.2.2.1,x2.2.2.2.1,x2.q.1,x2.q.2.1,x2.q.2.2.1,x2.q.2.2.2.1,x2.o.1,x2.o.2.1,x2.o.2.2.1,x2.o.2.2.2.1,x2.o.q.1,x2.o.q.2.1,x2.o.q.2.2.1,x4.1,x2.o.q.2.2.2.1,())) fun x5=>
 A.bind [.i,.i,.x .blk,.i,.i,.i,.i,.i,.i,.i,.i,.i,.i,.i,.i,.l .iop] (A.cond x5.2.2.2.1 (A.bd .iop x5.o.o.2.2.1 (A.fI .iop 1 x5.o.o.2.1)<|
 A.bd .iop x5.o.o.2.2.1 (A.fI .iop 1 x5.o.o.2.1)<|
 A.bd .iop x5.o.o.2.2.1 (A.fI .iop 2 x5.o.o.2.1)<|
 A.bd .iop x5.o.o.2.2.1 (A.fI .iop 2 x5.o.o.2.1)<|
 A.cl Y5 Y6 (A.fI .iop 3 x5.o.o.2.1,A.fI .iop 3 (A.get .iop x5.o.o.2.2.1 (A.fI .iop 1 x5.o.o.2.1)),A.fI .iop 3 (A.get .iop x5.o.o.2.2.1 (A.fI .iop 2 x5.o.o.2.1)),()) fun x6=>
 A.bd .iop x5.o.o.2.2.1 x5.1<|
 A.bd .iop x5.o.o.2.2.1 x5.1<|
 A.ret _ (x5.2.1,x5.2.2.1,x5.q.1,x5.q.2.1,x5.q.2.2.1,x5.q.2.2.2.1,x5.o.1,x5.o.2.1,x5.o.2.2.1,x5.o.2.2.2.1,x5.o.q.1,x5.o.q.2.1,x5.o.q.2.2.1,x5.o.q.2.2.2.1,x5.o.o.1,A.set .iop x5.o.o.2.2.1 x5.1 (A.mkX .iop (A.lit 1,A.lit 0,A.lit 0,x6.1,A.lit 0,())),()))<|
 A.ret _ (x5.2.1,x5.2.2.1,x5.q.1,x5.q.2.1,x5.q.2.2.1,x5.q.2.2.2.1,x5.o.1,x5.o.2.1,x5.o.2.2.1,x5.o.2.2.2.1,x5.o.q.1,x5.o.q.2.1,x5.o.q.2.2.1,x5.o.q.2.2.2.1,x5.o.o.1,x5.o.o.2.2.1,())) fun x6=>
 A.inl _ (x6.1,A.arith .add .i64 x6.2.1 (A.lit 1),x6.2.2.1,x6.2.2.2.1,x6.q.1,x6.q.2.1,x6.q.2.2.1,x6.q.2.2.2.1,x6.o.1,x6.o.2.1,x6.o.2.2.1,x6.o.2.2.2.1,x6.o.q.1,x6.o.q.2.1,x6.o.q.2.2.1,x6.o.q.2.2.2.1,()))<|
 A.inr _<|A.bind [.b,.x .blk,.i,.i,.i,.i,.i,.i,.i,.i,.i,.i,.i,.i,.l .iop] (A.cond (A.cmp .eql (A.fI .blk 3 x2.2.2.1) (A.lit 2)) (A.cl FY FZ (A.fI .blk 4 x2.2.2.1,x2.o.2.1,x2.o.2.2.1,x2.o.2.2.2.1,x2.o.q.1,x2.o.q.2.1,x2.o.q.2.2.1,x2.o.q.2.2.2.1,()) fun x3=>
 A.l1 .b (A.ak (A.cmp .eql (A.fI .blk 3 x2.2.2.1) (A.lit 2)) x3.1 (A.bl false)) fun x4=>
 A.ret _ (x4.1,x2.2.2.1,x2.2.2.2.1,x2.q.1,x2.q.2.1,x2.q.2.2.1,x2.q.2.2.2.1,x2.o.1,x3.2.1,x3.2.2.1,x3.2.2.2.1,x3.q.1,x3.q.2.1,x3.q.2.2.1,x3.q.2.2.2.1,()))<|
 A.chk (A.aA (A.cmp .eql (A.fI .blk 3 x2.2.2.1) (A.lit 2)))<|
 A.l1 .b (A.bl false) fun x3=>
 A.ret _ (x3.1,x2.2.2.1,x2.2.2.2.1,x2.q.1,x2.q.2.1,x2.q.2.2.1,x2.q.2.2.2.1,x2.o.1,x2.o.2.1,x2.o.2.2.1,x2.o.2.2.2.1,x2.o.q.1,x2.o.q.2.1,x2.o.q.2.2.1,x2.o.q.2.2.2.1,())) fun x3=>
 A.bind [.i,.i,.i,.i,.i,.i,.i,.i,.i,.i,.i,.i,.l .iop] (A.cond x3.1 (A.bd .iop x3.o.q.2.2.1 (A.fI .blk 4 x3.2.1)<|
 A.bd .iop x3.o.q.2.2.1 (A.fI .blk 4 x3.2.1)<|
 A.l1 .i (A.lit 1) fun x4=>
 A.l1 .i (A.lit 0) fun x5=>
 A.l1 .i (A.fI .iop 3 (A.get .iop x3.o.q.2.2.1 (A.fI .blk 4 x3.2.1))) fun x6=>
 A.ret _ (x3.2.2.1,x3.2.2.2.1,x3.q.1,x3.q.2.1,x3.q.2.2.1,x3.q.2.2.2.1,x3.o.1,x3.o.2.1,x4.1,x5.1,x3.o.q.1,x6.1,x3.o.q.2.2.1,()))<|
 A.bind [.b,.x .blk,.i,.i,.i,.i,.i,.i,.i,.i,.i,.i,.i,.i,.l .iop] (A.cond (A.cmp .geq (A.fI .blk 3 x3.2.1) (A.lit 3)) (A.cl FY FZ (A.fI .blk 4 x3.2.1,x3.o.1,x3.o.2.1,x3.o.2.2.1,x3.o.2.2.2.1,x3.o.q.1,x3.o.q.2.1,x3.o.q.2.2.1,()) fun x4=>
 A.cond (A.ak (A.cmp .geq (A.fI .blk 3 x3.2.1) (A.lit 3)) x4.1 (A.bl false)) (A.cl FY FZ (A.fI .blk 5 x3.2.1,x4.2.1,x4.2.2.1,x4.2.2.2.1,x4.q.1,x4.q.2.1,x4.q.2.2.1,x4.q.2.2.2.1,()) fun x5=>
 A.l1 .b (A.ak (A.ak (A.cmp .geq (A.fI .blk 3 x3.2.1) (A.lit 3)) x4.1 (A.bl false)) x5.1 (A.bl false)) fun x6=>
 A.ret _ (x6.1,x3.2.1,x3.2.2.1,x3.2.2.2.1,x3.q.1,x3.q.2.1,x3.q.2.2.1,x3.q.2.2.2.1,x5.2.1,x5.2.2.1,x5.2.2.2.1,x5.q.1,x5.q.2.1,x5.q.2.2.1,x5.q.2.2.2.1,()))<|
 A.chk (A.aA (A.ak (A.cmp .geq (A.fI .blk 3 x3.2.1) (A.lit 3)) x4.1 (A.bl false)))<|
 A.l1 .b (A.bl false) fun x5=>
 A.ret _ (x5.1,x3.2.1,x3.2.2.1,x3.2.2.2.1,x3.q.1,x3.q.2.1,x3.q.2.2.1,x3.q.2.2.2.1,x4.2.1,x4.2.2.1,x4.2.2.2.1,x4.q.1,x4.q.2.1,x4.q.2.2.1,x4.q.2.2.2.1,()))<|
 A.chk (A.aA (A.cmp .geq (A.fI .blk 3 x3.2.1) (A.lit 3)))<|
 A.cond (A.bl false) (A.cl FY FZ (A.fI .blk 5 x3.2.1,x3.o.1,x3.o.2.1,x3.o.2.2.1,x3.o.2.2.2.1,x3.o.q.1,x3.o.q.2.1,x3.o.q.2.2.1,()) fun x4=>
 A.l1 .b (A.ak (A.bl false) x4.1 (A.bl false)) fun x5=>
 A.ret _ (x5.1,x3.2.1,x3.2.2.1,x3.2.2.2.1,x3.q.1,x3.q.2.1,x3.q.2.2.1,x3.q.2.2.2.1,x4.2.1,x4.2.2.1,x4.2.2.2.1,x4.q.1,x4.q.2.1,x4.q.2.2.1,x4.q.2.2.2.1,()))<|
 A.chk (A.aA (A.bl false))<|
 A.l1 .b (A.bl false) fun x4=>
 A.ret _ (x4.1,x3.2.1,x3.2.2.1,x3.2.2.2.1,x3.q.1,x3.q.2.1,x3.q.2.2.1,x3.q.2.2.2.1,x3.o.1,x3.o.2.1,x3.o.2.2.1,x3.o.2.2.2.1,x3.o.q.1,x3.o.q.2.1,x3.o.q.2.2.1,())) fun x4=>
 A.bind [.i,.i,.i,.i,.i,.i,.i,.i,.i,.i,.i,.i,.l .iop] (A.cond x4.1 (A.l1 .i (A.lit 1) fun x5=>
 A.l1 .i (A.lit 0) fun x6=>
 A.l1 .i (A.lit 0) fun x7=>
 A.bd .iop x4.o.q.2.2.1 (A.fI .blk 4 x4.2.1)<|
 A.bd .iop x4.o.q.2.2.1 (A.fI .blk 4 x4.2.1)<|
 A.bd .iop x4.o.q.2.2.1 (A.fI .blk 5 x4.2.1)<|
 A.bd .iop x4.o.q.2.2.1 (A.fI .blk 5 x4.2.1)<|
 A.cl Zc Zd (A.arith .add .i64 (A.arith .sub .i64 (A.fI .blk 3 x4.2.1) (A.lit 3)) (A.lit 1),A.fI .iop 3 (A.get .iop x4.o.q.2.2.1 (A.fI .blk 4 x4.2.1)),A.fI .iop 3 (A.get .iop x4.o.q.2.2.1 (A.fI .blk 5 x4.2.1)),()) fun x8=>
 A.bind [.i,.i,.i,.i,.i,.i,.i,.i,.i,.i,.i,.i,.l .iop] (A.cond (A.aA x8.1) (A.l1 .i (A.arith .add .i64 (A.fI .blk 0 x4.2.1) (A.fI .blk 1 x4.2.1)) fun x9=>
 A.ret _ (x4.2.2.1,x4.2.2.2.1,x4.q.1,x4.q.2.1,x4.q.2.2.1,x4.q.2.2.2.1,x4.o.1,x4.o.2.1,x5.1,x6.1,x7.1,x9.1,x4.o.q.2.2.1,()))<|
 A.ret _ (x4.2.2.1,x4.2.2.2.1,x4.q.1,x4.q.2.1,x4.q.2.2.1,x4.q.2.2.2.1,x4.o.1,x4.o.2.1,x5.1,x6.1,x7.1,x4.o.q.2.1,x4.o.q.2.2.1,())) fun x9=>
 A.ret _ (x9.1,x9.2.1,x9.2.2.1,x9.2.2.2.1,x9.q.1,x9.q.2.1,x9.q.2.2.1,x9.q.2.2.2.1,x9.o.1,x9.o.2.1,x9.o.2.2.1,x9.o.2.2.2.1,x9.o.q.1,()))<|
 A.ret _ (x4.2.2.1,x4.2.2.2.1,x4.q.1,x4.q.2.1,x4.q.2.2.1,x4.q.2.2.2.1,x4.o.1,x4.o.2.1,x4.o.2.2.1,x4.o.2.2.2.1,x4.o.q.1,x4.o.q.2.1,x4.o.q.2.2.1,())) fun x5=>
 A.ret _ (x5.1,x5.2.1,x5.2.2.1,x5.2.2.2.1,x5.q.1,x5.q.2.1,x5.q.2.2.1,x5.q.2.2.2.1,x5.o.1,x5.o.2.1,x5.o.2.2.1,x5.o.2.2.2.1,x5.o.q.1,())) fun x4=>
 A.ret _ (A.mkX .blk (x4.q.2.2.1,x4.q.2.2.2.1,x4.o.q.1,x4.o.1,x4.o.2.1,x4.o.2.2.1,x4.o.2.2.2.1,()),())) (A.len .iop x1.q.2.2.1,A.lit 0,x.1,A.lit 0,A.lit 0,A.lit 0,A.lit 0,A.lit 0,A.lit 0,x1.1,x1.2.1,x1.2.2.1,x1.2.2.2.1,x1.q.1,x1.q.2.1,x1.q.2.2.1,())
def RL (A:Alg) (FH:Pt A mZ) (FJ:Ft A mZ) (agh:Pt A EJ) (agi:Ft A EJ) (aV:Pt A dZ) (aW:Ft A dZ) (Zu:Pt A EI) (Zv:Ft A EI) (x:Tup A.ah [.l .u8]):Ot A Fy:=
 A.cl agh agi (x.1,()) fun x0=>
 A.cl aV aW (A.lit 2,x0.1,x0.2.1,()) fun x1=>
 A.cond (A.cmp .eql x1.1 (A.lit 0)) (A.cl Zu Zv (A.lit 14,x1.2.1,x1.2.2.1,()) fun x2=>
 A.cl FH FJ (x2.1,()) fun x3=>
 A.ret _ (A.mkX .blk (x3.1,x3.2.1,x3.q.2.2.1,x3.2.2.1,x3.2.2.2.1,x3.q.1,x3.q.2.1,()),()))<|
 A.cl Zu Zv (A.lit 14,x1.2.1,x1.2.2.1,()) fun x2=>
 A.l1 (.x .blk) x2.1 fun x3=>
 A.ret _ (x3.1,())
def Zw (A:Alg) (Uz:Pt A Nk) (UA:Ft A Nk) (acV:Pt A Nq) (acW:Ft A Nq) (Zx:Pt A MI) (Zy:Ft A MI) (Zz:Pt A Nl) (ZA:Ft A Nl) (acX:Pt A Nn) (acY:Ft A Nn) (alZ:Pt A MJ) (al0:Ft A MJ) (agj:Pt A Fy) (agk:Ft A Fy) (nA:Pt A gJ) (nC:Ft A gJ) (x:Tup A.ah [.l .u8]):Ot A acO:=
 A.l1 .b (A.bl false) fun x0=>
 A.cond (A.cmp .gtr (A.len .u8 x.1) (A.lit 1048576)) (A.rb (A.bl true))<|
 A.cl agj agk (x.1,()) fun x1=>
 A.l1 (.x .blk) x1.1 fun x2=>
 A.cl nA nC (x2.1,()) fun x3=>
 A.cond (A.aA x3.1) (A.cl Zx Zy (x2.1,()) fun x4=>
 A.cl Zz ZA (x4.1,()) fun x5=>
 A.cg (A.cmp .eql (A.fI .blk 1 x5.1) (A.lit 0)) alZ al0 () fun x6=>
 A.rb (A.ak (A.cmp .eql (A.fI .blk 1 x5.1) (A.lit 0)) x6.1 (A.bl false)))<|
 A.cl acV acW (x2.1,()) fun x4=>
 A.cl acX acY (x4.1,()) fun x5=>
 A.cl Uz UA (x2.1,x5.1,()) fun x6=>
 A.cg x6.1 Zz ZA (x2.1,()) fun x7=>
 A.cg x6.1 acV acW (x7.1,()) fun x8=>
 A.cg x6.1 Uz UA (x2.1,x8.1,()) fun x9=>
 A.cg (A.ak x6.1 x9.1 (A.bl false)) Zx Zy (x2.1,()) fun x10=>
 A.cg (A.ak x6.1 x9.1 (A.bl false)) Zz ZA (x10.1,()) fun x11=>
 A.cg (A.ak x6.1 x9.1 (A.bl false)) Uz UA (x2.1,x11.1,()) fun x12=>
 A.cg (A.ak (A.ak x6.1 x9.1 (A.bl false)) x12.1 (A.bl false)) acX acY (x2.1,()) fun x13=>
 A.cg (A.ak (A.ak x6.1 x9.1 (A.bl false)) x12.1 (A.bl false)) Zx Zy (x13.1,()) fun x14=>
 A.cg (A.ak (A.ak x6.1 x9.1 (A.bl false)) x12.1 (A.bl false)) Uz UA (x2.1,x14.1,()) fun x15=>
 A.rb (A.ak (A.ak (A.ak x6.1 x9.1 (A.bl false)) x12.1 (A.bl false)) x15.1 (A.bl false))
end Go.TX.F
namespace Go.TX.Seat
open Go Go.AE Go.TX Go.Proofs
set_option maxRecDepth 100000
def ty:TypeId→Option TY
 | 2=>some ⟨(.int .i64),1,8,[.d true (.int .i64 0)]⟩
 | 3=>some ⟨(.int .i64),1,8,[.d true (.int .i64 0)]⟩
 | 4=>some ⟨.bool,1,1,[.d true (.bool false)]⟩
 | 5=>some ⟨(.int .u8),1,1,[.d true (.int .u8 0)]⟩
 | 6=>some ⟨(.int .u8),1,1,[.d true (.int .u8 0)]⟩
 | 7=>some ⟨(.struct [(0,2),(1,3),(2,4),(3,6)]),4,24,[.d true (.int .i64 0),.d true (.int .i64 0),.d true (.bool false),.d true (.int .u8 0)]⟩
 | 8=>some ⟨(.struct [(0,2),(1,3),(2,4),(3,6)]),4,24,[.d true (.int .i64 0),.d true (.int .i64 0),.d true (.bool false),.d true (.int .u8 0)]⟩
 | 9=>some ⟨.scalar,1,16,[.d true (.str ⟨#[]⟩)]⟩
 | 10=>some ⟨.scalar,1,16,[.d true (.str ⟨#[]⟩)]⟩
 | 11=>some ⟨.scalar,1,16,[.d true (.str ⟨#[]⟩)]⟩
 | 12=>some ⟨(.int .u64),1,8,[.d true (.int .u64 0)]⟩
 | 13=>some ⟨(.struct [(0,9),(1,12)]),2,24,[.d true (.str ⟨#[]⟩),.d true (.int .u64 0)]⟩
 | 14=>some ⟨(.struct [(0,9),(1,12)]),2,24,[.d true (.str ⟨#[]⟩),.d true (.int .u64 0)]⟩
 | 15=>some ⟨.scalar,1,8,[.np]⟩
 | 16=>some ⟨.scalar,1,8,[.np]⟩
 | 17=>some ⟨.scalar,1,8,[.np]⟩
 | 18=>some ⟨(.struct [(0,17)]),1,8,[.np]⟩
 | 19=>some ⟨(.struct [(0,17)]),1,8,[.np]⟩
 | 21=>some ⟨(.int .i32),1,4,[.d true (.int .i32 0)]⟩
 | 22=>some ⟨(.slice 5),1,24,[.nil]⟩
 | 23=>some ⟨(.slice 34),1,24,[.nil]⟩
 | 24=>some ⟨(.struct [(0,3),(1,3),(2,23),(3,3),(4,3),(5,3),(6,3)]),7,72,[.d true (.int .i64 0),.d true (.int .i64 0),.nil,.d true (.int .i64 0),.d true (.int .i64 0),.d true (.int .i64 0),.d true (.int .i64 0)]⟩
 | 25=>some ⟨(.struct [(0,3),(1,3),(2,23),(3,3),(4,3),(5,3),(6,3)]),7,72,[.d true (.int .i64 0),.d true (.int .i64 0),.nil,.d true (.int .i64 0),.d true (.int .i64 0),.d true (.int .i64 0),.d true (.int .i64 0)]⟩
 | 31=>some ⟨(.slice 4),1,24,[.nil]⟩
 | 33=>some ⟨(.struct [(0,3),(1,3),(2,3),(3,3),(4,3)]),5,40,[.d true (.int .i64 0),.d true (.int .i64 0),.d true (.int .i64 0),.d true (.int .i64 0),.d true (.int .i64 0)]⟩
 | 34=>some ⟨(.struct [(0,3),(1,3),(2,3),(3,3),(4,3)]),5,40,[.d true (.int .i64 0),.d true (.int .i64 0),.d true (.int .i64 0),.d true (.int .i64 0),.d true (.int .i64 0)]⟩
 | 37=>some ⟨(.slice 42),1,24,[.nil]⟩
 | 41=>some ⟨(.struct [(0,25),(7,25)]),14,144,[.d true (.int .i64 0),.d true (.int .i64 0),.nil,.d true (.int .i64 0),.d true (.int .i64 0),.d true (.int .i64 0),.d true (.int .i64 0),.d true (.int .i64 0),.d true (.int .i64 0),.nil,.d true (.int .i64 0),.d true (.int .i64 0),.d true (.int .i64 0),.d true (.int .i64 0)]⟩
 | 42=>some ⟨(.struct [(0,25),(7,25)]),14,144,[.d true (.int .i64 0),.d true (.int .i64 0),.nil,.d true (.int .i64 0),.d true (.int .i64 0),.d true (.int .i64 0),.d true (.int .i64 0),.d true (.int .i64 0),.d true (.int .i64 0),.nil,.d true (.int .i64 0),.d true (.int .i64 0),.d true (.int .i64 0),.d true (.int .i64 0)]⟩
 | 46=>some ⟨(.slice 52),1,24,[.nil]⟩
 | 50=>some ⟨(.slice 3),1,24,[.nil]⟩
 | 51=>some ⟨(.struct [(0,50),(1,25)]),8,96,[.nil,.d true (.int .i64 0),.d true (.int .i64 0),.nil,.d true (.int .i64 0),.d true (.int .i64 0),.d true (.int .i64 0),.d true (.int .i64 0)]⟩
 | 52=>some ⟨(.struct [(0,50),(1,25)]),8,96,[.nil,.d true (.int .i64 0),.d true (.int .i64 0),.nil,.d true (.int .i64 0),.d true (.int .i64 0),.d true (.int .i64 0),.d true (.int .i64 0)]⟩
 | 61=>some ⟨(.struct [(0,50),(1,3),(2,50),(3,3),(4,4),(5,4),(6,3),(7,50),(8,50),(9,3)]),10,136,[.nil,.d true (.int .i64 0),.nil,.d true (.int .i64 0),.d true (.bool false),.d true (.bool false),.d true (.int .i64 0),.nil,.nil,.d true (.int .i64 0)]⟩
 | 62=>some ⟨(.struct [(0,50),(1,3),(2,50),(3,3),(4,4),(5,4),(6,3),(7,50),(8,50),(9,3)]),10,136,[.nil,.d true (.int .i64 0),.nil,.d true (.int .i64 0),.d true (.bool false),.d true (.bool false),.d true (.int .i64 0),.nil,.nil,.d true (.int .i64 0)]⟩
 | 63=>some ⟨(.struct [(0,62),(10,46),(11,37)]),12,184,[.nil,.d true (.int .i64 0),.nil,.d true (.int .i64 0),.d true (.bool false),.d true (.bool false),.d true (.int .i64 0),.nil,.nil,.d true (.int .i64 0),.nil,.nil]⟩
 | 64=>some ⟨(.struct [(0,62),(10,46),(11,37)]),12,184,[.nil,.d true (.int .i64 0),.nil,.d true (.int .i64 0),.d true (.bool false),.d true (.bool false),.d true (.int .i64 0),.nil,.nil,.d true (.int .i64 0),.nil,.nil]⟩
 | 72=>some ⟨.scalar,1,8,[.np]⟩
 | 81=>some ⟨(.slice 169),1,24,[.nil]⟩
 | 82=>some ⟨(.struct [(0,81)]),1,24,[.nil]⟩
 | 83=>some ⟨(.struct [(0,81)]),1,24,[.nil]⟩
 | 84=>some ⟨(.slice 90),1,24,[.nil]⟩
 | 87=>some ⟨(.slice 140),1,24,[.nil]⟩
 | 88=>some ⟨(.slice 173),1,24,[.nil]⟩
 | 89=>some ⟨(.struct [(0,88)]),1,24,[.nil]⟩
 | 90=>some ⟨(.struct [(0,88)]),1,24,[.nil]⟩
 | 91=>some ⟨(.struct [(0,87),(1,84),(2,3),(3,90),(4,90),(5,3)]),6,112,[.nil,.nil,.d true (.int .i64 0),.nil,.nil,.d true (.int .i64 0)]⟩
 | 92=>some ⟨(.struct [(0,87),(1,84),(2,3),(3,90),(4,90),(5,3)]),6,112,[.nil,.nil,.d true (.int .i64 0),.nil,.nil,.d true (.int .i64 0)]⟩
 | 106=>some ⟨(.slice 160),1,24,[.nil]⟩
 | 125=>some ⟨(.struct [(0,22),(1,3)]),2,32,[.nil,.d true (.int .i64 0)]⟩
 | 126=>some ⟨(.struct [(0,22),(1,3)]),2,32,[.nil,.d true (.int .i64 0)]⟩
 | 127=>some ⟨.scalar,1,8,[.np]⟩
 | 133=>some ⟨.scalar,1,8,[.np]⟩
 | 134=>some ⟨(.struct [(0,83),(1,4)]),2,32,[.nil,.d true (.bool false)]⟩
 | 135=>some ⟨(.struct [(0,83),(1,4)]),2,32,[.nil,.d true (.bool false)]⟩
 | 139=>some ⟨(.struct [(0,3),(1,3),(2,90),(3,90),(4,84)]),5,88,[.d true (.int .i64 0),.d true (.int .i64 0),.nil,.nil,.nil]⟩
 | 140=>some ⟨(.struct [(0,3),(1,3),(2,90),(3,90),(4,84)]),5,88,[.d true (.int .i64 0),.d true (.int .i64 0),.nil,.nil,.nil]⟩
 | 159=>some ⟨(.struct [(0,3),(1,3),(2,3),(3,3)]),4,32,[.d true (.int .i64 0),.d true (.int .i64 0),.d true (.int .i64 0),.d true (.int .i64 0)]⟩
 | 160=>some ⟨(.struct [(0,3),(1,3),(2,3),(3,3)]),4,32,[.d true (.int .i64 0),.d true (.int .i64 0),.d true (.int .i64 0),.d true (.int .i64 0)]⟩
 | 168=>some ⟨(.struct [(0,3),(1,3),(2,90),(3,90)]),4,64,[.d true (.int .i64 0),.d true (.int .i64 0),.nil,.nil]⟩
 | 169=>some ⟨(.struct [(0,3),(1,3),(2,90),(3,90)]),4,64,[.d true (.int .i64 0),.d true (.int .i64 0),.nil,.nil]⟩
 | 172=>some ⟨(.struct [(0,3),(1,50)]),2,32,[.d true (.int .i64 0),.nil]⟩
 | 173=>some ⟨(.struct [(0,3),(1,50)]),2,32,[.d true (.int .i64 0),.nil]⟩
 | 190=>some ⟨(.struct [(0,4),(1,22)]),2,32,[.d true (.bool false),.nil]⟩
 | 191=>some ⟨(.struct [(0,4),(1,22)]),2,32,[.d true (.bool false),.nil]⟩
 | 260=>some ⟨(.slice 88),1,24,[.nil]⟩
 | 262=>some ⟨(.slice 50),1,24,[.nil]⟩
 | 266=>some ⟨(.int .u64),1,8,[.d true (.int .u64 0)]⟩
 | 277=>some ⟨(.int .i64),1,8,[.d true (.int .i64 0)]⟩
 | 284=>some ⟨(.int .u32),1,4,[.d true (.int .u32 0)]⟩
 | 286=>some ⟨(.int .u64),1,8,[.d true (.int .u64 0)]⟩
 | 291=>some ⟨(.int .u64),1,8,[.d true (.int .u64 0)]⟩
 | 295=>some ⟨.scalar,1,8,[.np]⟩
 | 298=>some ⟨.scalar,1,8,[.np]⟩
 | 302=>some ⟨(.struct [(0,17),(1,17),(2,17),(3,9)]),4,40,[.np,.np,.np,.d true (.str ⟨#[]⟩)]⟩
 | 303=>some ⟨(.struct [(0,17),(1,17),(2,17),(3,9)]),4,40,[.np,.np,.np,.d true (.str ⟨#[]⟩)]⟩
 | 308=>some ⟨(.int .u8),1,1,[.d true (.int .u8 0)]⟩
 | 309=>some ⟨(.int .u8),1,1,[.d true (.int .u8 0)]⟩
 | 311=>some ⟨.scalar,1,8,[.np]⟩
 | 312=>some ⟨(.int .i32),1,4,[.d true (.int .i32 0)]⟩
 | 313=>some ⟨(.int .i32),1,4,[.d true (.int .i32 0)]⟩
 | _=>none
theorem ok2:bH Tryz.prog 2 ⟨(.int .i64),1,8,[.d true (.int .i64 0)]⟩:=⟨⟨Tryz.t2,by kernel_rfl,rfl,rfl,_,rfl,fun c w=>aB (by rfl)⟩,Tryz.underlying2,rfl⟩
theorem ok3:bH Tryz.prog 3 ⟨(.int .i64),1,8,[.d true (.int .i64 0)]⟩:=⟨⟨Tryz.t3,by kernel_rfl,rfl,rfl,_,rfl,fun c w=>aB (by rfl)⟩,Tryz.underlying3,rfl⟩
theorem ok4:bH Tryz.prog 4 ⟨.bool,1,1,[.d true (.bool false)]⟩:=⟨⟨Tryz.t4,by kernel_rfl,rfl,rfl,_,rfl,fun c w=>aB (by rfl)⟩,Tryz.underlying4,rfl⟩
theorem ok5:bH Tryz.prog 5 ⟨(.int .u8),1,1,[.d true (.int .u8 0)]⟩:=⟨⟨Tryz.t5,by kernel_rfl,rfl,rfl,_,rfl,fun c w=>aB (by rfl)⟩,Tryz.underlying5,rfl⟩
theorem ok6:bH Tryz.prog 6 ⟨(.int .u8),1,1,[.d true (.int .u8 0)]⟩:=⟨⟨Tryz.t6,by kernel_rfl,rfl,rfl,_,rfl,fun c w=>aB (by rfl)⟩,Tryz.underlying6,rfl⟩
theorem ok7:bH Tryz.prog 7 ⟨(.struct [(0,2),(1,3),(2,4),(3,6)]),4,24,[.d true (.int .i64 0),.d true (.int .i64 0),.d true (.bool false),.d true (.int .u8 0)]⟩:=⟨⟨Tryz.t7,by kernel_rfl,rfl,rfl,_,rfl,fun c w=>aB (by rfl)⟩,⟨_,Tryz.underlying7,by rfl⟩,rfl⟩
theorem ok8:bH Tryz.prog 8 ⟨(.struct [(0,2),(1,3),(2,4),(3,6)]),4,24,[.d true (.int .i64 0),.d true (.int .i64 0),.d true (.bool false),.d true (.int .u8 0)]⟩:=⟨⟨Tryz.t8,by kernel_rfl,rfl,rfl,_,rfl,fun c w=>aB (by rfl)⟩,⟨_,Tryz.underlying8,by rfl⟩,rfl⟩
theorem ok9:bH Tryz.prog 9 ⟨.scalar,1,16,[.d true (.str ⟨#[]⟩)]⟩:=⟨⟨Tryz.t9,by kernel_rfl,rfl,rfl,_,rfl,fun c w=>aB (by rfl)⟩,⟨_,Tryz.underlying9,(fun _ h=>by cases h),(fun _ _ h=>by cases h)⟩,rfl⟩
theorem aqM:bH Tryz.prog 10 ⟨.scalar,1,16,[.d true (.str ⟨#[]⟩)]⟩:=⟨⟨Tryz.t10,by kernel_rfl,rfl,rfl,_,rfl,fun c w=>aB (by rfl)⟩,⟨_,Tryz.underlying10,(fun _ h=>by cases h),(fun _ _ h=>by cases h)⟩,rfl⟩
theorem aqN:bH Tryz.prog 11 ⟨.scalar,1,16,[.d true (.str ⟨#[]⟩)]⟩:=⟨⟨Tryz.t11,by kernel_rfl,rfl,rfl,_,rfl,fun c w=>aB (by rfl)⟩,⟨_,Tryz.underlying11,(fun _ h=>by cases h),(fun _ _ h=>by cases h)⟩,rfl⟩
theorem aqO:bH Tryz.prog 12 ⟨(.int .u64),1,8,[.d true (.int .u64 0)]⟩:=⟨⟨Tryz.t12,by kernel_rfl,rfl,rfl,_,rfl,fun c w=>aB (by rfl)⟩,Tryz.underlying12,rfl⟩
theorem aqP:bH Tryz.prog 13 ⟨(.struct [(0,9),(1,12)]),2,24,[.d true (.str ⟨#[]⟩),.d true (.int .u64 0)]⟩:=⟨⟨Tryz.t13,by kernel_rfl,rfl,rfl,_,rfl,fun c w=>aB (by rfl)⟩,⟨_,Tryz.underlying13,by rfl⟩,rfl⟩
theorem aqQ:bH Tryz.prog 14 ⟨(.struct [(0,9),(1,12)]),2,24,[.d true (.str ⟨#[]⟩),.d true (.int .u64 0)]⟩:=⟨⟨Tryz.t14,by kernel_rfl,rfl,rfl,_,rfl,fun c w=>aB (by rfl)⟩,⟨_,Tryz.underlying14,by rfl⟩,rfl⟩
theorem aqR:bH Tryz.prog 15 ⟨.scalar,1,8,[.np]⟩:=⟨⟨Tryz.t15,by kernel_rfl,rfl,rfl,_,rfl,fun c w=>aB (by rfl)⟩,⟨_,Tryz.underlying15,(fun _ h=>by cases h),(fun _ _ h=>by cases h)⟩,rfl⟩
theorem ok16:bH Tryz.prog 16 ⟨.scalar,1,8,[.np]⟩:=⟨⟨Tryz.t16,by kernel_rfl,rfl,rfl,_,rfl,fun c w=>aB (by rfl)⟩,⟨_,Tryz.underlying16,(fun _ h=>by cases h),(fun _ _ h=>by cases h)⟩,rfl⟩
theorem aqS:bH Tryz.prog 17 ⟨.scalar,1,8,[.np]⟩:=⟨⟨Tryz.t17,by kernel_rfl,rfl,rfl,_,rfl,fun c w=>aB (by rfl)⟩,⟨_,Tryz.underlying17,(fun _ h=>by cases h),(fun _ _ h=>by cases h)⟩,rfl⟩
theorem aqT:bH Tryz.prog 18 ⟨(.struct [(0,17)]),1,8,[.np]⟩:=⟨⟨Tryz.t18,by kernel_rfl,rfl,rfl,_,rfl,fun c w=>aB (by rfl)⟩,⟨_,Tryz.underlying18,by rfl⟩,rfl⟩
theorem aqU:bH Tryz.prog 19 ⟨(.struct [(0,17)]),1,8,[.np]⟩:=⟨⟨Tryz.t19,by kernel_rfl,rfl,rfl,_,rfl,fun c w=>aB (by rfl)⟩,⟨_,Tryz.underlying19,by rfl⟩,rfl⟩
theorem aqV:bH Tryz.prog 21 ⟨(.int .i32),1,4,[.d true (.int .i32 0)]⟩:=⟨⟨Tryz.t21,by kernel_rfl,rfl,rfl,_,rfl,fun c w=>aB (by rfl)⟩,Tryz.underlying21,rfl⟩
theorem aqW:bH Tryz.prog 22 ⟨(.slice 5),1,24,[.nil]⟩:=⟨⟨Tryz.t22,by kernel_rfl,rfl,rfl,_,rfl,fun c w=>aB (by rfl)⟩,Tryz.underlying22,rfl⟩
theorem aqX:bH Tryz.prog 23 ⟨(.slice 34),1,24,[.nil]⟩:=⟨⟨Tryz.t23,by kernel_rfl,rfl,rfl,_,rfl,fun c w=>aB (by rfl)⟩,Tryz.underlying23,rfl⟩
theorem aqY:bH Tryz.prog 24 ⟨(.struct [(0,3),(1,3),(2,23),(3,3),(4,3),(5,3),(6,3)]),7,72,[.d true (.int .i64 0),.d true (.int .i64 0),.nil,.d true (.int .i64 0),.d true (.int .i64 0),.d true (.int .i64 0),.d true (.int .i64 0)]⟩:=⟨⟨Tryz.t24,by kernel_rfl,rfl,rfl,_,rfl,fun c w=>aB (by rfl)⟩,⟨_,Tryz.underlying24,by rfl⟩,rfl⟩
theorem aqZ:bH Tryz.prog 25 ⟨(.struct [(0,3),(1,3),(2,23),(3,3),(4,3),(5,3),(6,3)]),7,72,[.d true (.int .i64 0),.d true (.int .i64 0),.nil,.d true (.int .i64 0),.d true (.int .i64 0),.d true (.int .i64 0),.d true (.int .i64 0)]⟩:=⟨⟨Tryz.t25,by kernel_rfl,rfl,rfl,_,rfl,fun c w=>aB (by rfl)⟩,⟨_,Tryz.underlying25,by rfl⟩,rfl⟩
theorem aq0:bH Tryz.prog 31 ⟨(.slice 4),1,24,[.nil]⟩:=⟨⟨Tryz.t31,by kernel_rfl,rfl,rfl,_,rfl,fun c w=>aB (by rfl)⟩,Tryz.underlying31,rfl⟩
theorem aq1:bH Tryz.prog 33 ⟨(.struct [(0,3),(1,3),(2,3),(3,3),(4,3)]),5,40,[.d true (.int .i64 0),.d true (.int .i64 0),.d true (.int .i64 0),.d true (.int .i64 0),.d true (.int .i64 0)]⟩:=⟨⟨Tryz.t33,by kernel_rfl,rfl,rfl,_,rfl,fun c w=>aB (by rfl)⟩,⟨_,Tryz.underlying33,by rfl⟩,rfl⟩
theorem aq2:bH Tryz.prog 34 ⟨(.struct [(0,3),(1,3),(2,3),(3,3),(4,3)]),5,40,[.d true (.int .i64 0),.d true (.int .i64 0),.d true (.int .i64 0),.d true (.int .i64 0),.d true (.int .i64 0)]⟩:=⟨⟨Tryz.t34,by kernel_rfl,rfl,rfl,_,rfl,fun c w=>aB (by rfl)⟩,⟨_,Tryz.underlying34,by rfl⟩,rfl⟩
theorem aq3:bH Tryz.prog 37 ⟨(.slice 42),1,24,[.nil]⟩:=⟨⟨Tryz.t37,by kernel_rfl,rfl,rfl,_,rfl,fun c w=>aB (by rfl)⟩,Tryz.underlying37,rfl⟩
theorem aq4:bH Tryz.prog 41 ⟨(.struct [(0,25),(7,25)]),14,144,[.d true (.int .i64 0),.d true (.int .i64 0),.nil,.d true (.int .i64 0),.d true (.int .i64 0),.d true (.int .i64 0),.d true (.int .i64 0),.d true (.int .i64 0),.d true (.int .i64 0),.nil,.d true (.int .i64 0),.d true (.int .i64 0),.d true (.int .i64 0),.d true (.int .i64 0)]⟩:=⟨⟨Tryz.t41,by kernel_rfl,rfl,rfl,_,rfl,fun c w=>aB (by rfl)⟩,⟨_,Tryz.underlying41,by rfl⟩,rfl⟩
theorem aq5:bH Tryz.prog 42 ⟨(.struct [(0,25),(7,25)]),14,144,[.d true (.int .i64 0),.d true (.int .i64 0),.nil,.d true (.int .i64 0),.d true (.int .i64 0),.d true (.int .i64 0),.d true (.int .i64 0),.d true (.int .i64 0),.d true (.int .i64 0),.nil,.d true (.int .i64 0),.d true (.int .i64 0),.d true (.int .i64 0),.d true (.int .i64 0)]⟩:=⟨⟨Tryz.t42,by kernel_rfl,rfl,rfl,_,rfl,fun c w=>aB (by rfl)⟩,⟨_,Tryz.underlying42,by rfl⟩,rfl⟩
theorem aq6:bH Tryz.prog 46 ⟨(.slice 52),1,24,[.nil]⟩:=⟨⟨Tryz.t46,by kernel_rfl,rfl,rfl,_,rfl,fun c w=>aB (by rfl)⟩,Tryz.underlying46,rfl⟩
theorem aq7:bH Tryz.prog 50 ⟨(.slice 3),1,24,[.nil]⟩:=⟨⟨Tryz.t50,by kernel_rfl,rfl,rfl,_,rfl,fun c w=>aB (by rfl)⟩,Tryz.underlying50,rfl⟩
theorem aq8:bH Tryz.prog 51 ⟨(.struct [(0,50),(1,25)]),8,96,[.nil,.d true (.int .i64 0),.d true (.int .i64 0),.nil,.d true (.int .i64 0),.d true (.int .i64 0),.d true (.int .i64 0),.d true (.int .i64 0)]⟩:=⟨⟨Tryz.t51,by kernel_rfl,rfl,rfl,_,rfl,fun c w=>aB (by rfl)⟩,⟨_,Tryz.underlying51,by rfl⟩,rfl⟩
theorem aq9:bH Tryz.prog 52 ⟨(.struct [(0,50),(1,25)]),8,96,[.nil,.d true (.int .i64 0),.d true (.int .i64 0),.nil,.d true (.int .i64 0),.d true (.int .i64 0),.d true (.int .i64 0),.d true (.int .i64 0)]⟩:=⟨⟨Tryz.t52,by kernel_rfl,rfl,rfl,_,rfl,fun c w=>aB (by rfl)⟩,⟨_,Tryz.underlying52,by rfl⟩,rfl⟩
theorem ara:bH Tryz.prog 61 ⟨(.struct [(0,50),(1,3),(2,50),(3,3),(4,4),(5,4),(6,3),(7,50),(8,50),(9,3)]),10,136,[.nil,.d true (.int .i64 0),.nil,.d true (.int .i64 0),.d true (.bool false),.d true (.bool false),.d true (.int .i64 0),.nil,.nil,.d true (.int .i64 0)]⟩:=⟨⟨Tryz.t61,by kernel_rfl,rfl,rfl,_,rfl,fun c w=>aB (by rfl)⟩,⟨_,Tryz.underlying61,by rfl⟩,rfl⟩
theorem arb:bH Tryz.prog 62 ⟨(.struct [(0,50),(1,3),(2,50),(3,3),(4,4),(5,4),(6,3),(7,50),(8,50),(9,3)]),10,136,[.nil,.d true (.int .i64 0),.nil,.d true (.int .i64 0),.d true (.bool false),.d true (.bool false),.d true (.int .i64 0),.nil,.nil,.d true (.int .i64 0)]⟩:=⟨⟨Tryz.t62,by kernel_rfl,rfl,rfl,_,rfl,fun c w=>aB (by rfl)⟩,⟨_,Tryz.underlying62,by rfl⟩,rfl⟩
theorem ard:bH Tryz.prog 63 ⟨(.struct [(0,62),(10,46),(11,37)]),12,184,[.nil,.d true (.int .i64 0),.nil,.d true (.int .i64 0),.d true (.bool false),.d true (.bool false),.d true (.int .i64 0),.nil,.nil,.d true (.int .i64 0),.nil,.nil]⟩:=⟨⟨Tryz.t63,by kernel_rfl,rfl,rfl,_,rfl,fun c w=>aB (by rfl)⟩,⟨_,Tryz.underlying63,by rfl⟩,rfl⟩
theorem arf:bH Tryz.prog 64 ⟨(.struct [(0,62),(10,46),(11,37)]),12,184,[.nil,.d true (.int .i64 0),.nil,.d true (.int .i64 0),.d true (.bool false),.d true (.bool false),.d true (.int .i64 0),.nil,.nil,.d true (.int .i64 0),.nil,.nil]⟩:=⟨⟨Tryz.t64,by kernel_rfl,rfl,rfl,_,rfl,fun c w=>aB (by rfl)⟩,⟨_,Tryz.underlying64,by rfl⟩,rfl⟩
theorem arh:bH Tryz.prog 72 ⟨.scalar,1,8,[.np]⟩:=⟨⟨Tryz.t72,by kernel_rfl,rfl,rfl,_,rfl,fun c w=>aB (by rfl)⟩,⟨_,Tryz.underlying72,(fun _ h=>by cases h),(fun _ _ h=>by cases h)⟩,rfl⟩
theorem ari:bH Tryz.prog 81 ⟨(.slice 169),1,24,[.nil]⟩:=⟨⟨Tryz.t81,by kernel_rfl,rfl,rfl,_,rfl,fun c w=>aB (by rfl)⟩,Tryz.underlying81,rfl⟩
theorem arj:bH Tryz.prog 82 ⟨(.struct [(0,81)]),1,24,[.nil]⟩:=⟨⟨Tryz.t82,by kernel_rfl,rfl,rfl,_,rfl,fun c w=>aB (by rfl)⟩,⟨_,Tryz.underlying82,by rfl⟩,rfl⟩
theorem ark:bH Tryz.prog 83 ⟨(.struct [(0,81)]),1,24,[.nil]⟩:=⟨⟨Tryz.t83,by kernel_rfl,rfl,rfl,_,rfl,fun c w=>aB (by rfl)⟩,⟨_,Tryz.underlying83,by rfl⟩,rfl⟩
theorem arl:bH Tryz.prog 84 ⟨(.slice 90),1,24,[.nil]⟩:=⟨⟨Tryz.t84,by kernel_rfl,rfl,rfl,_,rfl,fun c w=>aB (by rfl)⟩,Tryz.underlying84,rfl⟩
theorem arn:bH Tryz.prog 87 ⟨(.slice 140),1,24,[.nil]⟩:=⟨⟨Tryz.t87,by kernel_rfl,rfl,rfl,_,rfl,fun c w=>aB (by rfl)⟩,Tryz.underlying87,rfl⟩
theorem aro:bH Tryz.prog 88 ⟨(.slice 173),1,24,[.nil]⟩:=⟨⟨Tryz.t88,by kernel_rfl,rfl,rfl,_,rfl,fun c w=>aB (by rfl)⟩,Tryz.underlying88,rfl⟩
theorem arp:bH Tryz.prog 89 ⟨(.struct [(0,88)]),1,24,[.nil]⟩:=⟨⟨Tryz.t89,by kernel_rfl,rfl,rfl,_,rfl,fun c w=>aB (by rfl)⟩,⟨_,Tryz.underlying89,by rfl⟩,rfl⟩
theorem arq:bH Tryz.prog 90 ⟨(.struct [(0,88)]),1,24,[.nil]⟩:=⟨⟨Tryz.t90,by kernel_rfl,rfl,rfl,_,rfl,fun c w=>aB (by rfl)⟩,⟨_,Tryz.underlying90,by rfl⟩,rfl⟩
theorem ars:bH Tryz.prog 91 ⟨(.struct [(0,87),(1,84),(2,3),(3,90),(4,90),(5,3)]),6,112,[.nil,.nil,.d true (.int .i64 0),.nil,.nil,.d true (.int .i64 0)]⟩:=⟨⟨Tryz.t91,by kernel_rfl,rfl,rfl,_,rfl,fun c w=>aB (by rfl)⟩,⟨_,Tryz.underlying91,by rfl⟩,rfl⟩
theorem aru:bH Tryz.prog 92 ⟨(.struct [(0,87),(1,84),(2,3),(3,90),(4,90),(5,3)]),6,112,[.nil,.nil,.d true (.int .i64 0),.nil,.nil,.d true (.int .i64 0)]⟩:=⟨⟨Tryz.t92,by kernel_rfl,rfl,rfl,_,rfl,fun c w=>aB (by rfl)⟩,⟨_,Tryz.underlying92,by rfl⟩,rfl⟩
theorem al1:bH Tryz.prog 106 ⟨(.slice 160),1,24,[.nil]⟩:=⟨⟨Tryz.t106,by kernel_rfl,rfl,rfl,_,rfl,fun c w=>aB (by rfl)⟩,Tryz.underlying106,rfl⟩
theorem al2:bH Tryz.prog 125 ⟨(.struct [(0,22),(1,3)]),2,32,[.nil,.d true (.int .i64 0)]⟩:=⟨⟨Tryz.t125,by kernel_rfl,rfl,rfl,_,rfl,fun c w=>aB (by rfl)⟩,⟨_,Tryz.underlying125,by rfl⟩,rfl⟩
theorem al3:bH Tryz.prog 126 ⟨(.struct [(0,22),(1,3)]),2,32,[.nil,.d true (.int .i64 0)]⟩:=⟨⟨Tryz.t126,by kernel_rfl,rfl,rfl,_,rfl,fun c w=>aB (by rfl)⟩,⟨_,Tryz.underlying126,by rfl⟩,rfl⟩
theorem al4:bH Tryz.prog 127 ⟨.scalar,1,8,[.np]⟩:=⟨⟨Tryz.t127,by kernel_rfl,rfl,rfl,_,rfl,fun c w=>aB (by rfl)⟩,⟨_,Tryz.underlying127,(fun _ h=>by cases h),(fun _ _ h=>by cases h)⟩,rfl⟩
theorem al5:bH Tryz.prog 133 ⟨.scalar,1,8,[.np]⟩:=⟨⟨Tryz.t133,by kernel_rfl,rfl,rfl,_,rfl,fun c w=>aB (by rfl)⟩,⟨_,Tryz.underlying133,(fun _ h=>by cases h),(fun _ _ h=>by cases h)⟩,rfl⟩
theorem al6:bH Tryz.prog 134 ⟨(.struct [(0,83),(1,4)]),2,32,[.nil,.d true (.bool false)]⟩:=⟨⟨Tryz.t134,by kernel_rfl,rfl,rfl,_,rfl,fun c w=>aB (by rfl)⟩,⟨_,Tryz.underlying134,by rfl⟩,rfl⟩
theorem al7:bH Tryz.prog 135 ⟨(.struct [(0,83),(1,4)]),2,32,[.nil,.d true (.bool false)]⟩:=⟨⟨Tryz.t135,by kernel_rfl,rfl,rfl,_,rfl,fun c w=>aB (by rfl)⟩,⟨_,Tryz.underlying135,by rfl⟩,rfl⟩
theorem al8:bH Tryz.prog 139 ⟨(.struct [(0,3),(1,3),(2,90),(3,90),(4,84)]),5,88,[.d true (.int .i64 0),.d true (.int .i64 0),.nil,.nil,.nil]⟩:=⟨⟨Tryz.t139,by kernel_rfl,rfl,rfl,_,rfl,fun c w=>aB (by rfl)⟩,⟨_,Tryz.underlying139,by rfl⟩,rfl⟩
theorem al9:bH Tryz.prog 140 ⟨(.struct [(0,3),(1,3),(2,90),(3,90),(4,84)]),5,88,[.d true (.int .i64 0),.d true (.int .i64 0),.nil,.nil,.nil]⟩:=⟨⟨Tryz.t140,by kernel_rfl,rfl,rfl,_,rfl,fun c w=>aB (by rfl)⟩,⟨_,Tryz.underlying140,by rfl⟩,rfl⟩
theorem ama:bH Tryz.prog 159 ⟨(.struct [(0,3),(1,3),(2,3),(3,3)]),4,32,[.d true (.int .i64 0),.d true (.int .i64 0),.d true (.int .i64 0),.d true (.int .i64 0)]⟩:=⟨⟨Tryz.t159,by kernel_rfl,rfl,rfl,_,rfl,fun c w=>aB (by rfl)⟩,⟨_,Tryz.underlying159,by rfl⟩,rfl⟩
theorem amb:bH Tryz.prog 160 ⟨(.struct [(0,3),(1,3),(2,3),(3,3)]),4,32,[.d true (.int .i64 0),.d true (.int .i64 0),.d true (.int .i64 0),.d true (.int .i64 0)]⟩:=⟨⟨Tryz.t160,by kernel_rfl,rfl,rfl,_,rfl,fun c w=>aB (by rfl)⟩,⟨_,Tryz.underlying160,by rfl⟩,rfl⟩
theorem amc:bH Tryz.prog 168 ⟨(.struct [(0,3),(1,3),(2,90),(3,90)]),4,64,[.d true (.int .i64 0),.d true (.int .i64 0),.nil,.nil]⟩:=⟨⟨Tryz.t168,by kernel_rfl,rfl,rfl,_,rfl,fun c w=>aB (by rfl)⟩,⟨_,Tryz.underlying168,by rfl⟩,rfl⟩
theorem amd:bH Tryz.prog 169 ⟨(.struct [(0,3),(1,3),(2,90),(3,90)]),4,64,[.d true (.int .i64 0),.d true (.int .i64 0),.nil,.nil]⟩:=⟨⟨Tryz.t169,by kernel_rfl,rfl,rfl,_,rfl,fun c w=>aB (by rfl)⟩,⟨_,Tryz.underlying169,by rfl⟩,rfl⟩
theorem ame:bH Tryz.prog 172 ⟨(.struct [(0,3),(1,50)]),2,32,[.d true (.int .i64 0),.nil]⟩:=⟨⟨Tryz.t172,by kernel_rfl,rfl,rfl,_,rfl,fun c w=>aB (by rfl)⟩,⟨_,Tryz.underlying172,by rfl⟩,rfl⟩
theorem amf:bH Tryz.prog 173 ⟨(.struct [(0,3),(1,50)]),2,32,[.d true (.int .i64 0),.nil]⟩:=⟨⟨Tryz.t173,by kernel_rfl,rfl,rfl,_,rfl,fun c w=>aB (by rfl)⟩,⟨_,Tryz.underlying173,by rfl⟩,rfl⟩
theorem amg:bH Tryz.prog 190 ⟨(.struct [(0,4),(1,22)]),2,32,[.d true (.bool false),.nil]⟩:=⟨⟨Tryz.t190,by kernel_rfl,rfl,rfl,_,rfl,fun c w=>aB (by rfl)⟩,⟨_,Tryz.underlying190,by rfl⟩,rfl⟩
theorem amh:bH Tryz.prog 191 ⟨(.struct [(0,4),(1,22)]),2,32,[.d true (.bool false),.nil]⟩:=⟨⟨Tryz.t191,by kernel_rfl,rfl,rfl,_,rfl,fun c w=>aB (by rfl)⟩,⟨_,Tryz.underlying191,by rfl⟩,rfl⟩
theorem ami:bH Tryz.prog 260 ⟨(.slice 88),1,24,[.nil]⟩:=⟨⟨Tryz.t260,by kernel_rfl,rfl,rfl,_,rfl,fun c w=>aB (by rfl)⟩,Tryz.underlying260,rfl⟩
theorem amj:bH Tryz.prog 262 ⟨(.slice 50),1,24,[.nil]⟩:=⟨⟨Tryz.t262,by kernel_rfl,rfl,rfl,_,rfl,fun c w=>aB (by rfl)⟩,Tryz.underlying262,rfl⟩
theorem amk:bH Tryz.prog 266 ⟨(.int .u64),1,8,[.d true (.int .u64 0)]⟩:=⟨⟨Tryz.t266,by kernel_rfl,rfl,rfl,_,rfl,fun c w=>aB (by rfl)⟩,Tryz.underlying266,rfl⟩
theorem aml:bH Tryz.prog 277 ⟨(.int .i64),1,8,[.d true (.int .i64 0)]⟩:=⟨⟨Tryz.t277,by kernel_rfl,rfl,rfl,_,rfl,fun c w=>aB (by rfl)⟩,Tryz.underlying277,rfl⟩
theorem amm:bH Tryz.prog 284 ⟨(.int .u32),1,4,[.d true (.int .u32 0)]⟩:=⟨⟨Tryz.t284,by kernel_rfl,rfl,rfl,_,rfl,fun c w=>aB (by rfl)⟩,Tryz.underlying284,rfl⟩
theorem amn:bH Tryz.prog 286 ⟨(.int .u64),1,8,[.d true (.int .u64 0)]⟩:=⟨⟨Tryz.t286,by kernel_rfl,rfl,rfl,_,rfl,fun c w=>aB (by rfl)⟩,Tryz.underlying286,rfl⟩
theorem amo:bH Tryz.prog 291 ⟨(.int .u64),1,8,[.d true (.int .u64 0)]⟩:=⟨⟨Tryz.t291,by kernel_rfl,rfl,rfl,_,rfl,fun c w=>aB (by rfl)⟩,Tryz.underlying291,rfl⟩
theorem amq:bH Tryz.prog 295 ⟨.scalar,1,8,[.np]⟩:=⟨⟨Tryz.t295,by kernel_rfl,rfl,rfl,_,rfl,fun c w=>aB (by rfl)⟩,⟨_,Tryz.underlying295,(fun _ h=>by cases h),(fun _ _ h=>by cases h)⟩,rfl⟩
theorem amr:bH Tryz.prog 298 ⟨.scalar,1,8,[.np]⟩:=⟨⟨Tryz.t298,by kernel_rfl,rfl,rfl,_,rfl,fun c w=>aB (by rfl)⟩,⟨_,Tryz.underlying298,(fun _ h=>by cases h),(fun _ _ h=>by cases h)⟩,rfl⟩
theorem ams:bH Tryz.prog 302 ⟨(.struct [(0,17),(1,17),(2,17),(3,9)]),4,40,[.np,.np,.np,.d true (.str ⟨#[]⟩)]⟩:=⟨⟨Tryz.t302,by kernel_rfl,rfl,rfl,_,rfl,fun c w=>aB (by rfl)⟩,⟨_,Tryz.underlying302,by rfl⟩,rfl⟩
theorem amt:bH Tryz.prog 303 ⟨(.struct [(0,17),(1,17),(2,17),(3,9)]),4,40,[.np,.np,.np,.d true (.str ⟨#[]⟩)]⟩:=⟨⟨Tryz.t303,by kernel_rfl,rfl,rfl,_,rfl,fun c w=>aB (by rfl)⟩,⟨_,Tryz.underlying303,by rfl⟩,rfl⟩
theorem amu:bH Tryz.prog 308 ⟨(.int .u8),1,1,[.d true (.int .u8 0)]⟩:=⟨⟨Tryz.t308,by kernel_rfl,rfl,rfl,_,rfl,fun c w=>aB (by rfl)⟩,Tryz.underlying308,rfl⟩
theorem amv:bH Tryz.prog 309 ⟨(.int .u8),1,1,[.d true (.int .u8 0)]⟩:=⟨⟨Tryz.t309,by kernel_rfl,rfl,rfl,_,rfl,fun c w=>aB (by rfl)⟩,Tryz.underlying309,rfl⟩
theorem amw:bH Tryz.prog 311 ⟨.scalar,1,8,[.np]⟩:=⟨⟨Tryz.t311,by kernel_rfl,rfl,rfl,_,rfl,fun c w=>aB (by rfl)⟩,⟨_,Tryz.underlying311,(fun _ h=>by cases h),(fun _ _ h=>by cases h)⟩,rfl⟩
theorem amx:bH Tryz.prog 312 ⟨(.int .i32),1,4,[.d true (.int .i32 0)]⟩:=⟨⟨Tryz.t312,by kernel_rfl,rfl,rfl,_,rfl,fun c w=>aB (by rfl)⟩,Tryz.underlying312,rfl⟩
theorem amy:bH Tryz.prog 313 ⟨(.int .i32),1,4,[.d true (.int .i32 0)]⟩:=⟨⟨Tryz.t313,by kernel_rfl,rfl,rfl,_,rfl,fun c w=>aB (by rfl)⟩,Tryz.underlying313,rfl⟩
theorem arv:∀t y,ty t=some y→bH Tryz.prog t y:=by
 intro t y h
 unfold ty at h
 split at h<;>first | (cases h;done) | skip
 ·cases h;exact ok2
 ·cases h;exact ok3
 ·cases h;exact ok4
 ·cases h;exact ok5
 ·cases h;exact ok6
 ·cases h;exact ok7
 ·cases h;exact ok8
 ·cases h;exact ok9
 ·cases h;exact aqM
 ·cases h;exact aqN
 ·cases h;exact aqO
 ·cases h;exact aqP
 ·cases h;exact aqQ
 ·cases h;exact aqR
 ·cases h;exact ok16
 ·cases h;exact aqS
 ·cases h;exact aqT
 ·cases h;exact aqU
 ·cases h;exact aqV
 ·cases h;exact aqW
 ·cases h;exact aqX
 ·cases h;exact aqY
 ·cases h;exact aqZ
 ·cases h;exact aq0
 ·cases h;exact aq1
 ·cases h;exact aq2
 ·cases h;exact aq3
 ·cases h;exact aq4
 ·cases h;exact aq5
 ·cases h;exact aq6
 ·cases h;exact aq7
 ·cases h;exact aq8
 ·cases h;exact aq9
 ·cases h;exact ara
 ·cases h;exact arb
 ·cases h;exact ard
 ·cases h;exact arf
 ·cases h;exact arh
 ·cases h;exact ari
 ·cases h;exact arj
 ·cases h;exact ark
 ·cases h;exact arl
 ·cases h;exact arn
 ·cases h;exact aro
 ·cases h;exact arp
 ·cases h;exact arq
 ·cases h;exact ars
 ·cases h;exact aru
 ·cases h;exact al1
 ·cases h;exact al2
 ·cases h;exact al3
 ·cases h;exact al4
 ·cases h;exact al5
 ·cases h;exact al6
 ·cases h;exact al7
 ·cases h;exact al8
 ·cases h;exact al9
 ·cases h;exact ama
 ·cases h;exact amb
 ·cases h;exact amc
 ·cases h;exact amd
 ·cases h;exact ame
 ·cases h;exact amf
 ·cases h;exact amg
 ·cases h;exact amh
 ·cases h;exact ami
 ·cases h;exact amj
 ·cases h;exact amk
 ·cases h;exact aml
 ·cases h;exact amm
 ·cases h;exact amn
 ·cases h;exact amo
 ·cases h;exact amq
 ·cases h;exact amr
 ·cases h;exact ams
 ·cases h;exact amt
 ·cases h;exact amu
 ·cases h;exact amv
 ·cases h;exact amw
 ·cases h;exact amx
 ·cases h;exact amy
def co:TypeId→Option Co
 | 3=>some .i64
 | 4=>some .bool
 | 5=>some .u8
 | 9=>some .str
 | 25=>some .blk
 | 34=>some .iop
 | 42=>some .cer
 | 50=>some .ints
 | 52=>some .cac
 | 62=>some .Ir
 | 64=>some .eng
 | 83=>some .tab
 | 88=>some .poly
 | 90=>some .poly
 | 92=>some .sym
 | 140=>some .ev
 | 160=>some .ins
 | 169=>some .atom
 | 173=>some .mono
 | 191=>some .ask
 | _=>none
def ieq:TypeId→Option Co
 | 34=>some .iop
 | 160=>some .ins
 | _=>none
def X:XT:={ty:=ty,co:=co,glob:=fun g=>none,ieq:=ieq}
noncomputable def E:Tab:={P:=Tryz.prog,ty:=ty,glob:=fun g=>none,ieq:=fun t=>(ieq t).map fun c=>c.size}
end Go.TX.Seat
namespace Go.TX.Seat
open Go Go.AE Go.TX Go.TX.F Go.Proofs
set_option maxRecDepth 100000
theorem agl (A:Alg): @Ru aF.z X E A [(7,[(0,([0],[])),(1,([47],[])),(2,([48],[])),(3,([49],[])),(4,([5],[])),(5,([0],[])),(6,([52],[])),(7,([53],[])),(8,([54],[])),(9,([55],[])),(10,([51,56],[])),(11,([50,57],[])),(12,([58],[])),(13,([59],[])),(14,([60],[])),(15,([0],[])),(16,([62],[])),(17,([63],[])),(18,([64],[])),(19,([5],[])),(20,([66],[])),(21,([67],[])),(22,([0],[])),(23,([69],[])),(24,([70],[])),(25,([71],[])),(26,([72],[])),(27,([68,73],[])),(28,([65,74],[])),(29,([75],[])),(30,([76],[])),(31,([77],[])),(32,([61,78],[])),(33,([5],[])),(34,([80],[])),(35,([79,81],[])),(36,([5],[])),(37,([0],[])),(38,([84],[])),(39,([85],[])),(40,([86],[])),(41,([87],[])),(42,([83,88],[])),(43,([89],[])),(44,([82,90],[])),(45,([91],[]))])] .u dZ Tryz.f78 [] (Qc A):=fun _=>by kernel_rfl
theorem agm (A:Alg) (bK:Ct A.ah dZ): @Ru aF.z X E A [] .u Eb Tryz.f91 [(78,⟨_,bK⟩)] (Qd A bK.pre bK.fn):=fun _=>by kernel_rfl
theorem agn (A:Alg): @Ru aF.z X E A [] .u fH Tryz.f61 [] (Qe A):=fun _=>by kernel_rfl
theorem agp (A:Alg): @Ru aF.z X E A [] .u mX Tryz.f115 [] (Qf A):=fun _=>by kernel_rfl
theorem agq (A:Alg) (bS:Ct A.ah fH): @Ru aF.z X E A [] .u Ec Tryz.f156 [(61,⟨_,bS⟩)] (Qg A bS.pre bS.fn):=fun _=>by kernel_rfl
theorem agr (A:Alg) (F3:Ct A.ah Ec): @Ru aF.z X E A [] .u uj Tryz.f116 [(156,⟨_,F3⟩)] (Qh A F3.pre F3.fn):=fun _=>by kernel_rfl
theorem ags (A:Alg) (je:Ct A.ah mX) (bS:Ct A.ah fH) (pE:Ct A.ah uj): @Ru aF.z X E A [] (.seq .u (.seq .u (.seq (.seq .u (.block (.seq .u (.cond .u (.seq .u (.cond .u (.seq .u (.cond .u (.seq (.seq .u (.cut ⟨[(0,.c (.rows false .iop)),(1,.c (.int .i64)),(2,.c (.int .i64)),(7,.c (.pb 0 5 0)),(13,.c (.int .i64)),(78,.c (.bool))],[.box (.sv false .iop)]⟩ (.cond .u .u))) .u))))))))) .u))) Ed Tryz.f62 [(115,⟨_,je⟩),(61,⟨_,bS⟩),(116,⟨_,pE⟩)] (Qi A je.pre je.fn bS.pre bS.fn pE.pre pE.fn):=fun _=>by kernel_rfl
theorem agt (A:Alg) (je:Ct A.ah mX) (pE:Ct A.ah uj): @Ru aF.z X E A [] (.seq .u (.seq .u (.seq (.seq .u (.block (.seq .u (.cond .u (.seq .u (.cond .u (.seq (.seq .u (.cut ⟨[(1,.c (.pb 0 7 0)),(3,.c (.int .i64)),(42,.c (.bool))],[.box (.sv false .blk)]⟩ (.cond .u .u))) .u))))))) .u))) Ee Tryz.f63 [(115,⟨_,je⟩),(116,⟨_,pE⟩)] (Qj A je.pre je.fn pE.pre pE.fn):=fun _=>by kernel_rfl
theorem agu (A:Alg) (bS:Ct A.ah fH) (F4:Ct A.ah Ee) (F5:Ct A.ah Ed): @Ru aF.z X E A [] (.seq .u (.seq .u (.seq (.seq .u (.block (.loop ⟨[(1,.c (.pb 0 7 0)),(3,.c (.int .i64))],[.box (.sv false .blk)]⟩ .u))) .u))) gJ Tryz.f19 [(61,⟨_,bS⟩),(63,⟨_,F4⟩),(62,⟨_,F5⟩)] (Qk A bS.pre bS.fn F4.pre F4.fn F5.pre F5.fn):=fun _=>by kernel_rfl
theorem agv (A:Alg): @Ru aF.z X E A [] .u mY Tryz.f59 [] (Ql A):=fun _=>by kernel_rfl
theorem agw (A:Alg) (bS:Ct A.ah fH): @Ru aF.z X E A [] (.seq .u (.seq .u (.seq (.seq .u (.cut ⟨[(1,.c (.rows false .i64)),(2,.c (.pb 0 5 0)),(4,.c (.pb 1 5 0)),(5,.c (.pb 2 5 0))],[.box (.sv false .iop),.box (.agg [.int .i64,.int .i64,.int .i64,.int .i64,.int .i64]),.box (.sv true .iop)]⟩ (.cond .u .u))) (.seq (.seq .u (.cut ⟨[(4,.c (.pb 0 5 0)),(5,.c (.pb 1 5 0))],[.box (.agg [.int .i64,.int .i64,.int .i64,.int .i64,.int .i64]),.box (.sv true .iop)]⟩ (.cond .u .u))) .u)))) um Tryz.f60 [(61,⟨_,bS⟩)] (Qm A bS.pre bS.fn):=fun _=>by kernel_rfl
theorem agx (A:Alg) (dz:Ct A.ah gJ) (pF:Ct A.ah um) (jf:Ct A.ah mY): @Ru aF.z X E A [] (.seq .u (.seq .u (.seq .u (.seq .u (.seq .u (.seq (.seq .u (.block (.loop ⟨[(2,.c (.pb 0 7 0)),(3,.c (.pb 1 7 0)),(4,.c (.own 2)),(5,.c (.own 3)),(6,.c (.int .i64))],[.box (.agg [.int .i64,.int .i64,.nil,.int .i64,.int .i64,.int .i64,.int .i64]),.box (.agg [.int .i64,.int .i64,.own 4,.int .i64,.int .i64,.int .i64,.int .i64]),.rows true .i64,.rows true .i64,.rows true .iop]⟩ (.seq .u (.seq (.block (.seq .u (.seq .u (.seq .u (.seq (.seq .u (.cut ⟨[(2,.c (.pb 0 7 0)),(3,.c (.pb 1 7 0)),(4,.c (.own 2)),(5,.c (.own 3)),(6,.c (.int .i64)),(7,.c (.pb 4 5 0)),(8,.c (.int .i64))],[.box (.agg [.int .i64,.int .i64,.nil,.int .i64,.int .i64,.int .i64,.int .i64]),.box (.agg [.int .i64,.int .i64,.own 5,.int .i64,.int .i64,.int .i64,.int .i64]),.rows true .i64,.rows true .i64,.box (.sv true .iop),.rows true .iop]⟩ (.cond .u .u))) (.seq (.seq .u (.cut ⟨[(2,.c (.pb 0 7 0)),(3,.c (.pb 1 7 0)),(4,.c (.own 2)),(5,.c (.own 3)),(6,.c (.int .i64)),(7,.c (.pb 4 5 0)),(8,.c (.int .i64))],[.box (.agg [.int .i64,.int .i64,.nil,.int .i64,.int .i64,.int .i64,.int .i64]),.box (.agg [.int .i64,.int .i64,.own 5,.int .i64,.int .i64,.int .i64,.int .i64]),.rows true .i64,.rows true .i64,.box (.sv true .iop),.rows true .iop]⟩ (.cond .u .u))) (.seq (.seq .u (.cut ⟨[(2,.c (.pb 0 7 0)),(3,.c (.pb 1 7 0)),(4,.c (.own 2)),(5,.c (.own 3)),(6,.c (.int .i64)),(8,.c (.int .i64))],[.box (.agg [.int .i64,.int .i64,.nil,.int .i64,.int .i64,.int .i64,.int .i64]),.box (.agg [.int .i64,.int .i64,.own 4,.int .i64,.int .i64,.int .i64,.int .i64]),.rows true .i64,.rows true .i64,.rows true .iop]⟩ (.cond .u .u))) .u))))))) .u))))) (.seq (.seq .u (.cut ⟨[(2,.c (.pb 0 7 0)),(3,.c (.pb 1 7 0)),(4,.c (.own 2))],[.box (.agg [.int .i64,.int .i64,.nil,.int .i64,.int .i64,.int .i64,.int .i64]),.box (.agg [.int .i64,.int .i64,.own 3,.int .i64,.int .i64,.int .i64,.int .i64]),.rows true .i64,.rows true .iop]⟩ (.cond .u .u))) (.seq (.seq .u (.cut ⟨[(2,.c (.pb 0 7 0)),(3,.c (.pb 1 7 0))],[.box (.agg [.int .i64,.int .i64,.nil,.int .i64,.int .i64,.int .i64,.int .i64]),.box (.agg [.int .i64,.int .i64,.own 2,.int .i64,.int .i64,.int .i64,.int .i64]),.rows true .iop]⟩ (.cond .u .u))) .u)))))))) mZ Tryz.f18 [(19,⟨_,dz⟩),(60,⟨_,pF⟩),(59,⟨_,jf⟩)] (Qn A dz.pre dz.fn pF.pre pF.fn jf.pre jf.fn):=fun _=>by kernel_rfl
theorem agy (A:Alg) (pF:Ct A.ah um): @Ru aF.z X E A [] (.seq .u (.seq .u (.seq .u (.seq (.seq .u (.block (.loop ⟨[(1,.c (.rows false .bool)),(2,.c (.pb 0 7 0)),(4,.c (.pb 1 7 0)),(5,.c (.own 2)),(6,.c (.own 3)),(7,.c (.int .i64))],[.box (.sv false .blk),.box (.agg [.int .i64,.int .i64,.nil,.int .i64,.int .i64,.int .i64,.int .i64]),.rows true .iop,.rows true .i64]⟩ (.seq .u (.seq (.block (.seq .u (.seq .u (.cut ⟨[(1,.c (.rows false .bool)),(2,.c (.pb 0 7 0)),(4,.c (.pb 1 7 0)),(5,.c (.own 2)),(6,.c (.own 3)),(7,.c (.int .i64))],[.box (.sv false .blk),.box (.agg [.int .i64,.int .i64,.nil,.int .i64,.int .i64,.int .i64,.int .i64]),.rows true .iop,.rows true .i64]⟩ (.cond .u .u))))) .u))))) (.seq .u (.seq .u (.seq (.seq .u (.cut ⟨[(2,.c (.pb 0 7 0)),(4,.c (.pb 1 7 0)),(6,.c (.own 2)),(8,.c (.pb 3 7 0))],[.box (.sv false .blk),.box (.agg [.int .i64,.int .i64,.nil,.int .i64,.int .i64,.int .i64,.int .i64]),.rows true .i64,.box (.agg [.int .i64,.int .i64,.own 4,.int .i64,.int .i64,.int .i64,.int .i64]),.rows true .iop]⟩ (.cond .u .u))) (.seq (.seq .u (.cut ⟨[(4,.c (.pb 0 7 0)),(8,.c (.pb 1 7 0))],[.box (.agg [.int .i64,.int .i64,.nil,.int .i64,.int .i64,.int .i64,.int .i64]),.box (.agg [.int .i64,.int .i64,.own 2,.int .i64,.int .i64,.int .i64,.int .i64]),.rows true .iop]⟩ (.cond .u .u))) .u)))))))) uo Tryz.f130 [(60,⟨_,pF⟩)] (Qq A pF.pre pF.fn):=fun _=>by kernel_rfl
theorem agz (A:Alg) (dz:Ct A.ah gJ) (bS:Ct A.ah fH): @Ru aF.z X E A [] (.seq .u (.seq .u (.seq .u (.seq (.seq .u (.block (.loop ⟨[(1,.c (.pb 0 7 0)),(3,.c (.own 1)),(4,.c (.int .i64))],[.box (.sv false .blk),.rows true .bool]⟩ .u))) (.seq (.seq .u (.cut ⟨[(1,.c (.pb 0 7 0)),(3,.c (.own 1))],[.box (.sv false .blk),.rows true .bool]⟩ (.cond .u .u))) (.seq (.seq .u (.cut ⟨[(1,.c (.pb 0 7 0)),(3,.c (.own 1))],[.box (.sv false .blk),.rows true .bool]⟩ (.cond .u .u))) (.seq (.seq .u (.block (.loop ⟨[(1,.c (.pb 0 7 0)),(3,.c (.own 1)),(5,.c (.int .i64))],[.box (.sv false .blk),.rows true .bool]⟩ (.seq .u (.seq (.cut ⟨[(1,.c (.pb 0 7 0)),(3,.c (.own 1)),(5,.c (.int .i64))],[.box (.sv false .blk),.rows true .bool]⟩ (.block (.seq .u (.seq .u (.seq (.seq .u (.cut ⟨[(1,.c (.pb 0 7 0)),(3,.c (.own 1)),(5,.c (.int .i64)),(6,.c (.pb 2 5 0))],[.box (.sv false .blk),.rows true .bool,.box (.sv false .iop)]⟩ (.cond .u .u))) (.seq .u (.cut ⟨[(1,.c (.pb 0 7 0)),(3,.c (.own 1)),(5,.c (.int .i64))],[.box (.sv false .blk),.rows true .bool]⟩ (.cond .u .u)))))))) .u))))) .u))))))) Ef Tryz.f131 [(19,⟨_,dz⟩),(61,⟨_,bS⟩)] (Qr A dz.pre dz.fn bS.pre bS.fn):=fun _=>by kernel_rfl
theorem agA (A:Alg) (dz:Ct A.ah gJ) (F6:Ct A.ah Ef) (pG:Ct A.ah uo): @Ru aF.z X E A [(3,[(0,([1],[])),(1,([1],[])),(2,([8],[0])),(3,([7,9],[])),(4,([2,10],[]))])] .u Eh Tryz.f70 [(19,⟨_,dz⟩),(131,⟨_,F6⟩),(130,⟨_,pG⟩)] (Qs A dz.pre dz.fn F6.pre F6.fn pG.pre pG.fn):=fun _=>by kernel_rfl
theorem agB (A:Alg): @Ru aF.z X E A [(4,[(0,([0],[])),(1,([5],[])),(2,([14,15],[])),(3,([16],[])),(4,([17],[])),(5,([18],[])),(6,([19],[])),(7,([0,20],[])),(8,([5,20],[])),(9,([20,21,22],[])),(10,([20,23],[])),(11,([20,24],[])),(12,([20,25],[])),(13,([20,26],[])),(14,([27],[])),(15,([0,28],[])),(16,([5,28],[])),(17,([28,29,30],[])),(18,([28,31],[])),(19,([28,32],[])),(20,([28,33],[])),(21,([28,34],[])),(22,([0,35],[])),(23,([5,35],[])),(24,([35,36,37],[])),(25,([35,38],[])),(26,([35,39],[])),(27,([0,35],[])),(28,([1,35],[])),(29,([35,41,42],[])),(30,([35,43],[])),(31,([35,44],[])),(32,([35,40,45],[])),(33,([28,35,46],[])),(34,([28,47],[]))]),(6,[(0,([0],[])),(1,([5],[])),(2,([49,50],[])),(3,([51],[])),(4,([52],[])),(5,([53],[])),(6,([54],[])),(7,([0,55],[])),(8,([5,55],[])),(9,([55,56,57],[])),(10,([55,58],[])),(11,([55,59],[])),(12,([0,55],[])),(13,([1,55],[])),(14,([55,61,62],[])),(15,([55,63],[])),(16,([55,64],[])),(17,([55,60,65],[])),(18,([55,66],[]))])] (.seq .u (.seq (.seq .u (.block (.loop ⟨[(0,.c (.rows false .iop)),(1,.c (.int .i64)),(5,.c (.int .i64))],[]⟩ .u))) .u)) Ei Tryz.f132 [] (Qv A):=fun _=>by kernel_rfl
theorem agC (A:Alg) (dz:Ct A.ah gJ) (pG:Ct A.ah uo) (F7:Ct A.ah Ei): @Ru aF.z X E A [] (.seq .u (.seq .u (.seq .u (.seq (.seq .u (.block (.loop ⟨[(1,.c (.pb 0 7 0)),(2,.c (.pb 1 7 0)),(3,.c (.own 2)),(4,.c (.int .i64))],[.box (.sv false .blk),.box (.agg [.int .i64,.int .i64,.nil,.int .i64,.int .i64,.int .i64,.int .i64]),.rows true .bool]⟩ .u))) .u)))) Ej Tryz.f71 [(19,⟨_,dz⟩),(130,⟨_,pG⟩),(132,⟨_,F7⟩)] (Qw A dz.pre dz.fn pG.pre pG.fn F7.pre F7.fn):=fun _=>by kernel_rfl
theorem agD (A:Alg): @Ru aF.z X E A [] .u uw Tryz.f133 [] (Qx A):=fun _=>by kernel_rfl
theorem agE (A:Alg): @Ru aF.z X E A [] (.seq .u (.seq .u (.seq (.seq .u (.cut ⟨[(3,.c (.int .i64))],[]⟩ (.cond .u .u))) .u))) El Tryz.f169 [] (Qy A):=fun _=>by kernel_rfl
theorem agF (A:Alg) (F8:Ct A.ah El) (je:Ct A.ah mX): @Ru aF.z X E A [] .u Em Tryz.f134 [(169,⟨_,F8⟩),(115,⟨_,je⟩)] (Qz A F8.pre F8.fn je.pre je.fn):=fun _=>by kernel_rfl
theorem agG (A:Alg): @Ru aF.z X E A [] .u En Tryz.f170 [] (QC A):=fun _=>by kernel_rfl
theorem agH (A:Alg) (F9:Ct A.ah En) (pI:Ct A.ah uw): @Ru aF.z X E A [] (.seq .u (.seq .u (.seq .u (.seq (.block (.seq .u (.cond .u (.seq (.seq .u (.cut ⟨[(1,.c (.pb 0 7 0)),(2,.c (.pb 1 7 0)),(4,.c (.bool)),(6,.c (.bool)),(33,.c (.bool))],[.box (.sv false .blk),.box (.agg [.int .i64,.int .i64,.nil,.int .i64,.int .i64,.int .i64,.int .i64])]⟩ (.cond .u .u))) .u)))) .u)))) Eo Tryz.f135 [(170,⟨_,F9⟩),(133,⟨_,pI⟩)] (QD A F9.pre F9.fn pI.pre pI.fn):=fun _=>by kernel_rfl
theorem agI (A:Alg) (dz:Ct A.ah gJ) (Ga:Ct A.ah Em) (Gb:Ct A.ah Eo) (pI:Ct A.ah uw) (jf:Ct A.ah mY): @Ru aF.z X E A [(11,[(0,([3],[])),(1,([53],[])),(2,([4],[])),(3,([5],[])),(4,([56],[])),(5,([6],[])),(6,([8],[])),(7,([57,58,59],[1])),(8,([60],[])),(9,([54,55],[])),(10,([61,62],[]))])] (.seq .u (.seq .u (.seq .u (.seq (.seq .u (.block (.loop ⟨[(2,.c (.pb 0 7 0)),(3,.c (.pb 1 7 0)),(4,.c (.int .i64))],[.box (.agg [.int .i64,.int .i64,.nil,.int .i64,.int .i64,.int .i64,.int .i64]),.box (.agg [.int .i64,.int .i64,.own 2,.int .i64,.int .i64,.int .i64,.int .i64]),.rows true .iop]⟩ (.seq .u (.seq (.block (.seq .u (.seq .u (.seq .u (.seq .u (.cut ⟨[(2,.c (.pb 0 7 0)),(3,.c (.pb 1 7 0)),(4,.c (.int .i64))],[.box (.agg [.int .i64,.int .i64,.nil,.int .i64,.int .i64,.int .i64,.int .i64]),.box (.agg [.int .i64,.int .i64,.own 2,.int .i64,.int .i64,.int .i64,.int .i64]),.rows true .iop]⟩ (.cond .u .u))))))) .u))))) .u)))) Ep Tryz.f72 [(19,⟨_,dz⟩),(134,⟨_,Ga⟩),(135,⟨_,Gb⟩),(133,⟨_,pI⟩),(59,⟨_,jf⟩)] (QG A dz.pre dz.fn Ga.pre Ga.fn Gb.pre Gb.fn pI.pre pI.fn jf.pre jf.fn):=fun _=>by kernel_rfl
theorem agJ (A:Alg) (Gc:Ct A.ah Ep) (jg:Ct A.ah mZ) (Gd:Ct A.ah Eh) (Gf:Ct A.ah Ej): @Ru aF.z X E A [] .u Er Tryz.f25 [(72,⟨_,Gc⟩),(18,⟨_,jg⟩),(70,⟨_,Gd⟩),(71,⟨_,Gf⟩)] (QH A Gc.pre Gc.fn jg.pre jg.fn Gd.pre Gd.fn Gf.pre Gf.fn):=fun _=>by kernel_rfl
theorem agK (A:Alg) (bK:Ct A.ah dZ): @Ru aF.z X E A [] (.seq .u (.seq .u (.seq .u (.seq (.seq .u (.block (.seq (.seq .u (.cut ⟨[(0,.c (.pb 0 2 0)),(2,.c (.pb 1 4 0)),(3,.c (.int .i64)),(4,.c (.int .i64)),(10,.c (.int .i64)),(11,.c (.bool))],[.box (.agg [.rows true .u8,.int .i64]),.box (.agg [.int .i64,.int .i64,.int .i64,.int .i64])]⟩ (.cond .u .u))) (.cond .u (.seq .u (.cond .u (.seq (.seq .u (.cut ⟨[(0,.c (.pb 0 2 0)),(2,.c (.pb 1 4 0)),(3,.c (.int .i64)),(4,.c (.int .i64)),(10,.c (.int .i64)),(30,.c (.bool))],[.box (.agg [.rows true .u8,.int .i64]),.box (.agg [.int .i64,.int .i64,.int .i64,.int .i64])]⟩ (.cond .u (.seq .u (.cut ⟨[(0,.c (.pb 0 2 0)),(2,.c (.pb 1 4 0)),(3,.c (.int .i64)),(4,.c (.int .i64)),(10,.c (.int .i64)),(30,.c (.bool))],[.box (.agg [.rows true .u8,.int .i64]),.box (.agg [.int .i64,.int .i64,.int .i64,.int .i64])]⟩ (.cond .u .u)))))) (.cond .u (.seq .u (.cond .u (.seq (.seq .u (.cut ⟨[(0,.c (.pb 0 2 0)),(2,.c (.pb 1 4 0)),(3,.c (.int .i64)),(4,.c (.int .i64)),(10,.c (.int .i64)),(54,.c (.bool))],[.box (.agg [.rows true .u8,.int .i64]),.box (.agg [.int .i64,.int .i64,.int .i64,.int .i64])]⟩ (.cond .u .u))) .u))))))))))) .u)))) Es Tryz.f179 [(78,⟨_,bK⟩)] (QI A bK.pre bK.fn):=fun _=>by kernel_rfl
theorem agL (A:Alg): @Ru aF.z X E A [] (.seq .u (.seq (.seq .u (.block (.seq .u (.cond .u (.seq .u (.cond .u (.seq .u (.cond .u (.seq (.seq .u (.cut ⟨[(1,.c (.pb 0 4 0)),(4,.c (.int .i64)),(30,.c (.bool))],[.box (.sv false .ins)]⟩ (.cond .u (.seq .u (.cut ⟨[(1,.c (.pb 0 4 0)),(4,.c (.int .i64)),(30,.c (.bool))],[.box (.sv false .ins)]⟩ (.cond .u (.seq .u (.cut ⟨[(1,.c (.pb 0 4 0)),(4,.c (.int .i64)),(30,.c (.bool))],[.box (.sv false .ins)]⟩ (.cond .u (.seq .u (.cut ⟨[(1,.c (.pb 0 4 0)),(4,.c (.int .i64)),(30,.c (.bool))],[.box (.sv false .ins)]⟩ (.cond .u .u)))))))))))) (.cond .u (.seq .u (.cond .u (.seq .u (.cond .u (.seq (.seq .u (.cut ⟨[(1,.c (.pb 0 4 0)),(54,.c (.bool))],[.box (.sv false .ins)]⟩ (.cond .u .u))) .u))))))))))))))) .u)) Eu Tryz.f237 [] (QJ A):=fun _=>by kernel_rfl
theorem agM (A:Alg) (bS:Ct A.ah fH) (Gg:Ct A.ah Eu): @Ru aF.z X E A [] .u uz Tryz.f181 [(61,⟨_,bS⟩),(237,⟨_,Gg⟩)] (QK A bS.pre bS.fn Gg.pre Gg.fn):=fun _=>by kernel_rfl
theorem agN (A:Alg): @Ru aF.z X E A [] .u uD Tryz.f182 [] (QL A):=fun _=>by kernel_rfl
theorem agO (A:Alg) (pJ:Ct A.ah uD) (pK:Ct A.ah uz): @Ru aF.z X E A [] .u uE Tryz.f180 [(182,⟨_,pJ⟩),(181,⟨_,pK⟩)] (QM A pJ.pre pJ.fn pK.pre pK.fn):=fun _=>by kernel_rfl
theorem agP (A:Alg) (Gh:Ct A.ah Es) (bK:Ct A.ah dZ) (pO:Ct A.ah uE): @Ru aF.z X E A [(3,[(0,([3],[])),(1,([9],[])),(2,([3],[])),(3,([11],[])),(4,([0],[])),(5,([13],[1,3])),(6,([10,12,14],[])),(7,([2,15],[]))])] .u Ew Tryz.f143 [(179,⟨_,Gh⟩),(78,⟨_,bK⟩),(180,⟨_,pO⟩)] (QU A Gh.pre Gh.fn bK.pre bK.fn pO.pre pO.fn):=fun _=>by kernel_rfl
theorem agQ (A:Alg) (Gi:Ct A.ah Ew) (bK:Ct A.ah dZ): @Ru aF.z X E A [] (.seq .u (.seq .u (.seq (.seq .u (.block (.loop ⟨[(0,.c (.pb 0 2 0)),(3,.c (.own 1)),(4,.c (.int .i64))],[.box (.agg [.rows true .u8,.int .i64]),.rows true .ins]⟩ .u))) .u))) Ey Tryz.f92 [(143,⟨_,Gi⟩),(78,⟨_,bK⟩)] (QX A Gi.pre Gi.fn bK.pre bK.fn):=fun _=>by kernel_rfl
theorem agR (A:Alg) (pJ:Ct A.ah uD) (pK:Ct A.ah uz) (bS:Ct A.ah fH) (pO:Ct A.ah uE): @Ru aF.z X E A [] (.seq .u (.seq .u (.seq (.seq .u (.block (.loop ⟨[(1,.c (.rows false .ins)),(5,.c (.int .i64))],[]⟩ .u))) .u))) Ez Tryz.f145 [(182,⟨_,pJ⟩),(181,⟨_,pK⟩),(61,⟨_,bS⟩),(180,⟨_,pO⟩)] (QY A pJ.pre pJ.fn pK.pre pK.fn bS.pre bS.fn pO.pre pO.fn):=fun _=>by kernel_rfl
theorem agS (A:Alg): @Ru aF.z X E A [(2,[(0,([2],[])),(1,([2],[])),(2,([13],[])),(3,([14],[])),(4,([15],[])),(5,([4,12],[2])),(6,([16],[]))])] .u iF Tryz.f183 [] (QZ A):=fun _=>by kernel_rfl
theorem agT (A:Alg) (eY:Ct A.ah iF): @Ru aF.z X E A [] .u uF Tryz.f184 [(183,⟨_,eY⟩)] (Q0 A eY.pre eY.fn):=fun _=>by kernel_rfl
theorem agU (A:Alg) (eY:Ct A.ah iF): @Ru aF.z X E A [] .u jL Tryz.f185 [(183,⟨_,eY⟩)] (Q5 A eY.pre eY.fn):=fun _=>by kernel_rfl
theorem agV (A:Alg) (gK:Ct A.ah jL) (eY:Ct A.ah iF): @Ru aF.z X E A [] .u uG Tryz.f186 [(185,⟨_,gK⟩),(183,⟨_,eY⟩)] (Q6 A gK.pre gK.fn eY.pre eY.fn):=fun _=>by kernel_rfl
theorem agW (A:Alg): @Ru aF.z X E A [] (.seq .u (.seq .u (.seq (.seq .u (.block (.loop ⟨[(0,.c (.int .i64)),(3,.c (.int .i64)),(4,.c (.int .i64))],[]⟩ .u))) .u))) EA Tryz.f187 [] (Q7 A):=fun _=>by kernel_rfl
theorem agX (A:Alg) (gK:Ct A.ah jL) (eY:Ct A.ah iF) (pQ:Ct A.ah uG) (pR:Ct A.ah uF): @Ru aF.z X E A [] .u EB Tryz.f188 [(185,⟨_,gK⟩),(183,⟨_,eY⟩),(186,⟨_,pQ⟩),(184,⟨_,pR⟩)] (Q8 A gK.pre gK.fn eY.pre eY.fn pQ.pre pQ.fn pR.pre pR.fn):=fun _=>by kernel_rfl
theorem agY (A:Alg) (gK:Ct A.ah jL): @Ru aF.z X E A [] (.seq .u (.seq .u (.seq .u (.seq .u (.seq .u (.seq (.seq .u (.cut ⟨[(3,.c (.pb 1 4 0)),(4,.c (.pb 2 7 0)),(8,.c (.int .i64)),(9,.c (.pb 3 7 0)),(10,.c (.int .i64))],[.gone,.box (.sv false .ins),.box (.agg [.int .i64,.int .i64,.nil,.int .i64,.int .i64,.int .i64,.int .i64]),.box (.agg [.int .i64,.int .i64,.own 4,.int .i64,.int .i64,.int .i64,.int .i64]),.rows true .iop]⟩ (.cond .u .u))) .u)))))) EC Tryz.f189 [(185,⟨_,gK⟩)] (Q9 A gK.pre gK.fn):=fun _=>by kernel_rfl
theorem agZ (A:Alg) (gK:Ct A.ah jL) (Gj:Ct A.ah EC) (eY:Ct A.ah iF) (Gm:Ct A.ah EB) (pQ:Ct A.ah uG) (pR:Ct A.ah uF) (Gn:Ct A.ah EA): @Ru aF.z X E A [(9,[(0,([3],[])),(1,([4],[])),(2,([56],[])),(3,([4],[])),(4,([58],[])),(5,([59],[0,2])),(6,([60],[])),(7,([55,57,61],[])),(8,([62],[])),(9,([54],[])),(10,([54],[])),(11,([],[])),(12,([11,63],[])),(13,([64],[]))])] (.seq .u (.seq (.seq .u (.block (.seq .u (.cond .u (.seq .u (.cond .u (.seq .u (.cond .u (.seq (.seq .u (.cut ⟨[(2,.c (.int .i64)),(3,.c (.pb 1 7 0)),(4,.c (.pb 2 4 0)),(6,.c (.pb 3 7 0)),(22,.c (.int .i64)),(70,.c (.bool))],[.rows true .iop,.box (.agg [.int .i64,.int .i64,.own 0,.int .i64,.int .i64,.int .i64,.int .i64]),.box (.sv false .ins),.box (.agg [.int .i64,.int .i64,.nil,.int .i64,.int .i64,.int .i64,.int .i64])]⟩ (.cond .u .u))) (.cond .u (.seq .u (.cond .u (.seq .u (.cond .u (.seq (.seq .u (.cut ⟨[(3,.c (.pb 1 7 0)),(4,.c (.pb 2 4 0)),(6,.c (.pb 3 7 0)),(109,.c (.bool))],[.rows true .iop,.box (.agg [.int .i64,.int .i64,.own 0,.int .i64,.int .i64,.int .i64,.int .i64]),.box (.sv false .ins),.box (.agg [.int .i64,.int .i64,.nil,.int .i64,.int .i64,.int .i64,.int .i64])]⟩ (.cond .u (.seq .u (.cut ⟨[(3,.c (.pb 1 7 0)),(4,.c (.pb 2 4 0)),(6,.c (.pb 3 7 0)),(109,.c (.bool))],[.rows true .iop,.box (.agg [.int .i64,.int .i64,.own 0,.int .i64,.int .i64,.int .i64,.int .i64]),.box (.sv false .ins),.box (.agg [.int .i64,.int .i64,.nil,.int .i64,.int .i64,.int .i64,.int .i64])]⟩ (.cond .u .u)))))) .u))))))))))))))) .u)) ED Tryz.f146 [(185,⟨_,gK⟩),(189,⟨_,Gj⟩),(183,⟨_,eY⟩),(188,⟨_,Gm⟩),(186,⟨_,pQ⟩),(184,⟨_,pR⟩),(187,⟨_,Gn⟩)] (Ra A gK.pre gK.fn Gj.pre Gj.fn eY.pre eY.fn Gm.pre Gm.fn pQ.pre pQ.fn pR.pre pR.fn Gn.pre Gn.fn):=fun _=>by kernel_rfl
theorem ag0 (A:Alg) (Gp:Ct A.ah Ez) (Gq:Ct A.ah ED): @Ru aF.z X E A [(7,[(0,([5],[])),(1,([1],[])),(2,([6],[])),(3,([27,28],[])),(4,([29],[])),(5,([6],[])),(6,([26,30,31],[])),(7,([5,32],[]))])] (.seq .u (.seq .u (.seq .u (.seq (.seq .u (.block (.loop ⟨[(1,.c (.rows false .ins)),(4,.c (.pb 0 7 0)),(5,.c (.pb 1 7 0)),(6,.c (.int .i64))],[.box (.agg [.int .i64,.int .i64,.nil,.int .i64,.int .i64,.int .i64,.int .i64]),.box (.agg [.int .i64,.int .i64,.own 2,.int .i64,.int .i64,.int .i64,.int .i64]),.rows true .iop]⟩ .u))) .u)))) EF Tryz.f94 [(145,⟨_,Gp⟩),(146,⟨_,Gq⟩)] (Rb A Gp.pre Gp.fn Gq.pre Gq.fn):=fun _=>by kernel_rfl
theorem ag1 (A:Alg) (Gr:Ct A.ah EF) (Gs:Ct A.ah Er) (jg:Ct A.ah mZ) (bK:Ct A.ah dZ) (Gt:Ct A.ah Ey): @Ru aF.z X E A [] .u EG Tryz.f111 [(94,⟨_,Gr⟩),(25,⟨_,Gs⟩),(18,⟨_,jg⟩),(78,⟨_,bK⟩),(92,⟨_,Gt⟩)] (Rc A Gr.pre Gr.fn Gs.pre Gs.fn jg.pre jg.fn bK.pre bK.fn Gt.pre Gt.fn):=fun _=>by kernel_rfl
theorem ag2 (A:Alg) (bK:Ct A.ah dZ) (jf:Ct A.ah mY): @Ru aF.z X E A [(9,[(0,([5],[])),(1,([33],[])),(2,([6],[])),(3,([5],[])),(4,([36],[])),(5,([6],[])),(6,([37,38],[])),(7,([39],[])),(8,([40],[])),(9,([41],[])),(10,([34,35],[])),(11,([43],[])),(12,([42,44],[]))]),(11,[(0,([5],[])),(1,([47],[])),(2,([6],[])),(3,([0],[])),(4,([6],[])),(5,([51],[])),(6,([50,52],[1])),(7,([48,49],[])),(8,([54],[])),(9,([53,55],[]))]),(13,[(0,([5],[])),(1,([58],[])),(2,([6],[])),(3,([0],[])),(4,([6],[])),(5,([62],[])),(6,([61,63],[1])),(7,([59,60],[])),(8,([65],[])),(9,([64,66],[]))]),(15,[(0,([5],[])),(1,([69],[])),(2,([6],[])),(3,([0],[])),(4,([5],[])),(5,([73],[])),(6,([74],[])),(7,([72,75],[1])),(8,([70,71],[])),(9,([77],[])),(10,([76,78],[]))]),(23,[(0,([5],[])),(1,([99],[])),(2,([6],[])),(3,([5],[])),(4,([102],[])),(5,([6],[])),(6,([104],[])),(7,([103,105],[])),(8,([106],[])),(9,([100,101],[])),(10,([107,108],[]))]),(26,[(0,([5],[])),(1,([117],[])),(2,([6],[])),(3,([0],[])),(4,([120],[1])),(5,([121],[])),(6,([118,119],[])),(7,([122,123],[]))])] (.seq .u (.seq .u (.seq .u (.seq .u (.seq (.seq .u (.block (.seq .u (.cut ⟨[(4,.c (.pb 1 7 0)),(5,.c (.pb 2 7 0))],[.box (.agg [.rows true .u8,.int .i64]),.box (.agg [.int .i64,.int .i64,.nil,.int .i64,.int .i64,.int .i64,.int .i64]),.box (.agg [.int .i64,.int .i64,.own 3,.int .i64,.int .i64,.int .i64,.int .i64]),.rows true .iop]⟩ (.cond .u (.seq .u (.cut ⟨[(4,.c (.pb 1 7 0)),(5,.c (.pb 2 7 0))],[.box (.agg [.rows true .u8,.int .i64]),.box (.agg [.int .i64,.int .i64,.nil,.int .i64,.int .i64,.int .i64,.int .i64]),.box (.agg [.int .i64,.int .i64,.own 3,.int .i64,.int .i64,.int .i64,.int .i64]),.rows true .iop]⟩ (.cond .u (.seq .u (.cut ⟨[(4,.c (.pb 1 7 0)),(5,.c (.pb 2 7 0))],[.box (.agg [.rows true .u8,.int .i64]),.box (.agg [.int .i64,.int .i64,.nil,.int .i64,.int .i64,.int .i64,.int .i64]),.box (.agg [.int .i64,.int .i64,.own 3,.int .i64,.int .i64,.int .i64,.int .i64]),.rows true .iop]⟩ (.cond .u (.seq .u (.cut ⟨[(4,.c (.pb 1 7 0)),(5,.c (.pb 2 7 0))],[.box (.agg [.rows true .u8,.int .i64]),.box (.agg [.int .i64,.int .i64,.nil,.int .i64,.int .i64,.int .i64,.int .i64]),.box (.agg [.int .i64,.int .i64,.own 3,.int .i64,.int .i64,.int .i64,.int .i64]),.rows true .iop]⟩ (.cond .u (.seq .u (.cut ⟨[(4,.c (.pb 1 7 0)),(5,.c (.pb 2 7 0))],[.box (.agg [.rows true .u8,.int .i64]),.box (.agg [.int .i64,.int .i64,.nil,.int .i64,.int .i64,.int .i64,.int .i64]),.box (.agg [.int .i64,.int .i64,.own 3,.int .i64,.int .i64,.int .i64,.int .i64]),.rows true .iop]⟩ (.cond .u (.seq .u (.cut ⟨[(4,.c (.pb 1 7 0)),(5,.c (.pb 2 7 0))],[.box (.agg [.rows true .u8,.int .i64]),.box (.agg [.int .i64,.int .i64,.nil,.int .i64,.int .i64,.int .i64,.int .i64]),.box (.agg [.int .i64,.int .i64,.own 3,.int .i64,.int .i64,.int .i64,.int .i64]),.rows true .iop]⟩ (.cond .u (.seq .u (.cut ⟨[(4,.c (.pb 1 7 0)),(5,.c (.pb 2 7 0))],[.box (.agg [.rows true .u8,.int .i64]),.box (.agg [.int .i64,.int .i64,.nil,.int .i64,.int .i64,.int .i64,.int .i64]),.box (.agg [.int .i64,.int .i64,.own 3,.int .i64,.int .i64,.int .i64,.int .i64]),.rows true .iop]⟩ (.cond (.seq .u (.cut ⟨[(4,.c (.pb 1 7 0)),(5,.c (.pb 2 7 0))],[.box (.agg [.rows true .u8,.int .i64]),.box (.agg [.int .i64,.int .i64,.nil,.int .i64,.int .i64,.int .i64,.int .i64]),.box (.agg [.int .i64,.int .i64,.own 3,.int .i64,.int .i64,.int .i64,.int .i64]),.rows true .iop]⟩ (.cond .u .u))) (.seq .u (.cut ⟨[(4,.c (.pb 1 7 0)),(5,.c (.pb 2 7 0))],[.box (.agg [.rows true .u8,.int .i64]),.box (.agg [.int .i64,.int .i64,.nil,.int .i64,.int .i64,.int .i64,.int .i64]),.box (.agg [.int .i64,.int .i64,.own 3,.int .i64,.int .i64,.int .i64,.int .i64]),.rows true .iop]⟩ (.cond .u .u)))))))))))))))))))))))))) .u))))) EH Tryz.f112 [(78,⟨_,bK⟩),(59,⟨_,jf⟩)] (Kr A bK.pre bK.fn jf.pre jf.fn):=fun _=>by kernel_rfl
theorem ag3 (A:Alg) (Gu:Ct A.ah Eb) (bK:Ct A.ah dZ) (Gw:Ct A.ah EH) (Gx:Ct A.ah EG): @Ru aF.z X E A [(15,[(0,([5],[])),(1,([54],[])),(2,([],[])),(3,([0],[])),(7,([5],[])),(8,([61],[])),(9,([62],[])),(4,([57],[1,8])),(5,([56,58],[])),(6,([59],[])),(10,([60,63],[])),(11,([64],[])),(12,([55,65],[])),(13,([5],[])),(14,([66,67],[]))])] (.seq .u (.seq .u (.seq (.seq .u (.cut ⟨[(4,.c (.pb 1 7 0)),(5,.c (.pb 2 7 0))],[.box (.agg [.rows true .u8,.int .i64]),.box (.agg [.int .i64,.int .i64,.nil,.int .i64,.int .i64,.int .i64,.int .i64]),.box (.agg [.int .i64,.int .i64,.own 3,.int .i64,.int .i64,.int .i64,.int .i64]),.rows true .iop]⟩ (.cond (.seq .u (.block (.seq .u (.cut ⟨[(4,.c (.pb 1 7 0)),(5,.c (.pb 2 7 0))],[.box (.agg [.rows true .u8,.int .i64]),.box (.agg [.int .i64,.int .i64,.nil,.int .i64,.int .i64,.int .i64,.int .i64]),.box (.agg [.int .i64,.int .i64,.own 3,.int .i64,.int .i64,.int .i64,.int .i64]),.rows true .iop]⟩ (.cond .u (.seq .u (.cut ⟨[(4,.c (.pb 1 7 0)),(5,.c (.pb 2 7 0))],[.box (.agg [.rows true .u8,.int .i64]),.box (.agg [.int .i64,.int .i64,.nil,.int .i64,.int .i64,.int .i64,.int .i64]),.box (.agg [.int .i64,.int .i64,.own 3,.int .i64,.int .i64,.int .i64,.int .i64]),.rows true .iop]⟩ (.cond .u (.seq .u (.cut ⟨[(4,.c (.pb 1 7 0)),(5,.c (.pb 2 7 0))],[.box (.agg [.rows true .u8,.int .i64]),.box (.agg [.int .i64,.int .i64,.nil,.int .i64,.int .i64,.int .i64,.int .i64]),.box (.agg [.int .i64,.int .i64,.own 3,.int .i64,.int .i64,.int .i64,.int .i64]),.rows true .iop]⟩ (.cond (.block (.loop ⟨[(4,.c (.pb 1 7 0)),(5,.c (.pb 2 7 0))],[.box (.agg [.rows true .u8,.int .i64]),.box (.agg [.int .i64,.int .i64,.nil,.int .i64,.int .i64,.int .i64,.int .i64]),.box (.agg [.int .i64,.int .i64,.own 3,.int .i64,.int .i64,.int .i64,.int .i64]),.rows true .iop]⟩ .u)) (.seq .u (.cut ⟨[(4,.c (.pb 1 7 0)),(5,.c (.pb 2 7 0))],[.box (.agg [.rows true .u8,.int .i64]),.box (.agg [.int .i64,.int .i64,.nil,.int .i64,.int .i64,.int .i64,.int .i64]),.box (.agg [.int .i64,.int .i64,.own 3,.int .i64,.int .i64,.int .i64,.int .i64]),.rows true .iop]⟩ (.cond .u .u)))))))))))))) .u))) .u))) EI Tryz.f55 [(91,⟨_,Gu⟩),(78,⟨_,bK⟩),(112,⟨_,Gw⟩),(111,⟨_,Gx⟩)] (Rf A Gu.pre Gu.fn bK.pre bK.fn Gw.pre Gw.fn Gx.pre Gx.fn):=fun _=>by kernel_rfl
theorem ag4 (A:Alg): @Ru aF.z X E A [] (.seq .u (.seq (.seq .u (.cut ⟨[(0,.c (.rows true .u8))],[]⟩ (.cond .u .u))) .u)) EJ Tryz.f56 [] (Rh A):=fun _=>by kernel_rfl
theorem amA (A:Alg): @Ru aF.z X E A [] .u bZ Tryz.f73 [] (XD A):=fun _=>by kernel_rfl
theorem amB (A:Alg) (aU:Ct A.ah bZ): @Ru aF.z X E A [] .u jq Tryz.f64 [(73,⟨_,aU⟩)] (XE A aU.pre aU.fn):=fun _=>by kernel_rfl
theorem amC (A:Alg) (aU:Ct A.ah bZ): @Ru aF.z X E A [] .u ow Tryz.f113 [(73,⟨_,aU⟩)] (XF A aU.pre aU.fn):=fun _=>by kernel_rfl
theorem amD (A:Alg) (aU:Ct A.ah bZ): @Ru aF.z X E A [] .u Bj Tryz.f136 [(73,⟨_,aU⟩)] (XG A aU.pre aU.fn):=fun _=>by kernel_rfl
theorem amE (A:Alg) (aU:Ct A.ah bZ): @Ru aF.z X E A [] .u Bn Tryz.f137 [(73,⟨_,aU⟩)] (XH A aU.pre aU.fn):=fun _=>by kernel_rfl
theorem amF (A:Alg) (aU:Ct A.ah bZ): @Ru aF.z X E A [] .u MF Tryz.f171 [(73,⟨_,aU⟩)] (XI A aU.pre aU.fn):=fun _=>by kernel_rfl
theorem amG (A:Alg) (ND:Ct A.ah MF) (aU:Ct A.ah bZ): @Ru aF.z X E A [] .u Bo Tryz.f138 [(171,⟨_,ND⟩),(73,⟨_,aU⟩)] (XJ A ND.pre ND.fn aU.pre aU.fn):=fun _=>by kernel_rfl
theorem amH (A:Alg) (wU:Ct A.ah Bo) (jw:Ct A.ah ow) (fO:Ct A.ah jq) (aU:Ct A.ah bZ) (wV:Ct A.ah Bn) (wW:Ct A.ah Bj): @Ru ⟨[],[27,40]⟩ X E A [(5,[(0,([],[])),(1,([5],[])),(2,([28],[])),(5,([5],[])),(6,([31],[])),(9,([5],[])),(10,([34],[])),(13,([5],[])),(14,([37],[])),(18,([5],[])),(19,([41],[])),(3,([29],[6,10,14,19])),(4,([27,30],[])),(7,([32],[10,14,19])),(8,([27,33],[])),(11,([35],[14,19])),(12,([27,36],[])),(15,([38],[19])),(16,([27,39],[])),(17,([27],[])),(20,([30,33,36,39,40,42],[])),(21,([43],[]))])] .u MG Tryz.f74 [(138,⟨_,wU⟩),(113,⟨_,jw⟩),(64,⟨_,fO⟩),(73,⟨_,aU⟩),(137,⟨_,wV⟩),(136,⟨_,wW⟩)] (XK A wU.pre wU.fn jw.pre jw.fn fO.pre fO.fn aU.pre aU.fn wV.pre wV.fn wW.pre wW.fn):=fun _=>by kernel_rfl
theorem amI (A:Alg): @Ru aF.z X E A [(1,[(0,([1],[])),(1,([5],[])),(2,([6],[])),(3,([1],[])),(4,([8],[])),(5,([9],[])),(6,([1],[])),(7,([11],[])),(8,([12],[])),(9,([7],[])),(10,([10],[])),(11,([13],[]))])] .u oC Tryz.f114 [] (XO A):=fun _=>by kernel_rfl
theorem amJ (A:Alg) (jy:Ct A.ah oC) (wU:Ct A.ah Bo) (fO:Ct A.ah jq) (aU:Ct A.ah bZ): @Ru aF.z X E A [] .u MH Tryz.f75 [(114,⟨_,jy⟩),(138,⟨_,wU⟩),(64,⟨_,fO⟩),(73,⟨_,aU⟩)] (XP A jy.pre jy.fn wU.pre wU.fn fO.pre fO.fn aU.pre aU.fn):=fun _=>by kernel_rfl
theorem amK (A:Alg) (NG:Ct A.ah MH) (NH:Ct A.ah MG) (aU:Ct A.ah bZ): @Ru aF.z X E A [] (.seq .u (.seq .u (.seq (.seq .u (.block (.loop ⟨[(1,.c (.pb 0 7 0)),(25,.c (.int .i64)),(26,.c (.int .i64))],[.box (.sv false .blk)]⟩ .u))) .u))) jr Tryz.f26 [(75,⟨_,NG⟩),(74,⟨_,NH⟩),(73,⟨_,aU⟩)] (XQ A NG.pre NG.fn NH.pre NH.fn aU.pre aU.fn):=fun _=>by kernel_rfl
theorem amL (A:Alg): @Ru aF.z X E A [] .u Bq Tryz.f57 [] (XR A):=fun _=>by kernel_rfl
theorem amM (A:Alg) (jy:Ct A.ah oC) (jw:Ct A.ah ow): @Ru aF.z X E A [(5,[(0,([0],[])),(1,([31],[])),(2,([32],[])),(3,([33],[])),(4,([4],[])),(5,([1],[])),(6,([5],[])),(7,([37],[])),(8,([36,38],[])),(9,([39],[])),(10,([34,35],[])),(11,([41],[])),(12,([40,42],[]))]),(7,[(0,([0],[])),(1,([44],[])),(2,([45],[])),(3,([46],[])),(4,([4],[])),(5,([1],[])),(6,([5],[])),(7,([50],[])),(8,([49,51],[])),(9,([52],[])),(10,([47,48],[])),(11,([54],[])),(12,([53,55],[]))])] (.seq (.seq .u (.block (.loop ⟨[(0,.c (.pb 0 7 0)),(1,.c (.rows false .i64)),(16,.c (.own 1)),(17,.c (.int .i64)),(18,.c (.int .i64))],[.box (.agg [.int .i64,.int .i64,.own 1,.int .i64,.int .i64,.int .i64,.int .i64]),.rows true .iop]⟩ (.seq .u (.seq .u (.seq (.block (.seq .u (.seq .u (.seq (.seq .u (.cut ⟨[(0,.c (.pb 0 7 0)),(1,.c (.rows false .i64)),(4,.c (.int .i64)),(5,.c (.pb 2 5 0)),(7,.c (.bool)),(16,.c (.own 1)),(17,.c (.int .i64)),(18,.c (.int .i64))],[.box (.agg [.int .i64,.int .i64,.own 1,.int .i64,.int .i64,.int .i64,.int .i64]),.rows true .iop,.box (.sv true .iop)]⟩ (.cond .u .u))) (.seq .u (.cut ⟨[(0,.c (.pb 0 7 0)),(1,.c (.rows false .i64)),(16,.c (.own 1)),(17,.c (.int .i64)),(18,.c (.int .i64))],[.box (.agg [.int .i64,.int .i64,.own 1,.int .i64,.int .i64,.int .i64,.int .i64]),.rows true .iop]⟩ (.cond .u .u))))))) .u)))))) (.seq .u (.seq (.seq .u (.cut ⟨[(0,.c (.pb 0 7 0)),(1,.c (.rows false .i64)),(11,.c (.bool))],[.box (.agg [.int .i64,.int .i64,.own 1,.int .i64,.int .i64,.int .i64,.int .i64]),.rows true .iop]⟩ (.cond .u .u))) (.seq .u (.cut ⟨[],[.box (.agg [.int .i64,.int .i64,.own 1,.int .i64,.int .i64,.int .i64,.int .i64]),.rows true .iop]⟩ (.cond .u .u)))))) Br Tryz.f58 [(114,⟨_,jy⟩),(113,⟨_,jw⟩)] (XU A jy.pre jy.fn jw.pre jw.fn):=fun _=>by kernel_rfl
theorem amN (A:Alg) (wX:Ct A.ah Bq) (wY:Ct A.ah Br) (fP:Ct A.ah jr): @Ru aF.z X E A [(14,[(0,([4],[])),(1,([6],[])),(2,([63],[])),(3,([3],[])),(4,([6],[])),(5,([66],[])),(6,([65,67],[])),(7,([68],[])),(8,([62,64],[])),(9,([69,70],[]))])] (.seq .u (.seq .u (.seq .u (.seq .u (.seq (.seq .u (.block (.loop ⟨[(1,.c (.pb 0 7 0)),(2,.c (.pb 1 7 0)),(3,.c (.own 2)),(4,.c (.own 3)),(18,.c (.rows false .iop)),(19,.c (.int .i64)),(20,.c (.int .i64))],[.box (.sv false .blk),.box (.agg [.int .i64,.int .i64,.nil,.int .i64,.int .i64,.int .i64,.int .i64]),.rows true .i64,.rows true .i64]⟩ (.seq .u (.seq .u (.seq (.block (.seq .u (.seq .u (.block (.seq .u (.cut ⟨[(1,.c (.pb 0 7 0)),(2,.c (.pb 1 7 0)),(3,.c (.own 2)),(4,.c (.own 3)),(18,.c (.rows false .iop)),(19,.c (.int .i64)),(20,.c (.int .i64))],[.box (.sv false .blk),.box (.agg [.int .i64,.int .i64,.nil,.int .i64,.int .i64,.int .i64,.int .i64]),.rows true .i64,.rows true .i64]⟩ (.cond .u (.seq .u (.cut ⟨[(1,.c (.pb 0 7 0)),(2,.c (.pb 1 7 0)),(3,.c (.own 2)),(4,.c (.own 3)),(18,.c (.rows false .iop)),(19,.c (.int .i64)),(20,.c (.int .i64))],[.box (.sv false .blk),.box (.agg [.int .i64,.int .i64,.nil,.int .i64,.int .i64,.int .i64,.int .i64]),.rows true .i64,.rows true .i64]⟩ (.cond .u (.seq .u (.cut ⟨[(1,.c (.pb 0 7 0)),(2,.c (.pb 1 7 0)),(3,.c (.own 2)),(4,.c (.own 3)),(18,.c (.rows false .iop)),(19,.c (.int .i64)),(20,.c (.int .i64))],[.box (.sv false .blk),.box (.agg [.int .i64,.int .i64,.nil,.int .i64,.int .i64,.int .i64,.int .i64]),.rows true .i64,.rows true .i64]⟩ (.cond .u .u))))))))))))) .u)))))) .u))))) MI Tryz.f16 [(57,⟨_,wX⟩),(58,⟨_,wY⟩),(26,⟨_,fP⟩)] (XV A wX.pre wX.fn wY.pre wY.fn fP.pre fP.fn):=fun _=>by kernel_rfl
end Go.TX.Seat
