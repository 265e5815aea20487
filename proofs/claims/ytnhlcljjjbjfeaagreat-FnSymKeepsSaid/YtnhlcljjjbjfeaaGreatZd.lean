/- Part 4 of a proof: what the last part needs. No condition. -/
import Derived.Test.YtnhlcljjjbjfeaaGreatZc
import Derived.Test.YtnhlcljjjbjfeaaGreatProg
import Derived.KernelRfl
set_option linter.all false
set_option linter.unusedSectionVars false
set_option linter.unusedVariables false
set_option linter.unusedSimpArgs false
namespace Go.TX.F
open Go Go.AE Go.TX
set_option maxRecDepth 100000
@[reducible] def BA : Sig := ⟨[.c (.rows true .u8)], [], [.c (.pb 0 2 0)], [.box (.agg [.rows true .u8, .int .i64])]⟩
@[reducible] def bY : Sig := ⟨[.c (.pb 0 2 0), .c (.int .i64)], [.box (.agg [.rows true .u8, .int .i64])], [.c (.int .i64)], [.box (.agg [.rows true .u8, .int .i64])]⟩
@[reducible] def bR : Sig := ⟨[.c (.int .i64), .c (.int .i64), .c (.int .i64)], [], [.c .bool], []⟩
@[reducible] def ug : Sig := ⟨[.c (.int .i64)], [], [.agg [.own 0]], [.rows true .mono]⟩
@[reducible] def BD : Sig := ⟨[.c (.pb 0 2 0)], [.box (.agg [.rows true .u8, .int .i64])], [.c (.int .i64)], [.box (.agg [.rows true .u8, .int .i64])]⟩
@[reducible] def uh : Sig := ⟨[.c (.pb 0 2 0), .c (.int .i64)], [.box (.agg [.rows true .u8, .int .i64])], [.c .bool], [.box (.agg [.rows true .u8, .int .i64])]⟩
@[reducible] def BF : Sig := ⟨[.sv false .mono], [], [.c .bool], []⟩
@[reducible] def mU : Sig := ⟨[.c (.rows false .i64), .c (.rows false .i64)], [], [.c (.int .i64)], []⟩
@[reducible] def gB : Sig := ⟨[.sv false .poly], [], [.c .bool], []⟩
@[reducible] def jP : Sig := ⟨[.c (.int .i64)], [], [.c (.int .i64)], []⟩
@[reducible] def uj : Sig := ⟨[.c (.rows false .mono), .sv false .mono], [], [.c (.own 0)], [.rows false .mono]⟩
@[reducible] def je : Sig := ⟨[.c (.rows false .mono)], [], [.agg [.own 0]], [.rows true .mono]⟩
@[reducible] def um : Sig := ⟨[.c (.rows false .mono)], [], [.agg [.own 0], .c .bool], [.rows true .mono]⟩
@[reducible] def uo : Sig := ⟨[.sv false .poly, .sv false .poly], [], [.agg [.own 0], .c .bool], [.rows true .mono]⟩
@[reducible] def jQ : Sig := ⟨[.c (.int .i64)], [], [.agg [.own 0]], [.rows true .mono]⟩
@[reducible] def BG : Sig := ⟨[.c (.rows false .i64), .c (.rows false .i64)], [], [.c (.own 0)], [.rows true .i64]⟩
@[reducible] def uw : Sig := ⟨[.sv false .poly, .sv false .poly], [], [.agg [.own 0], .c .bool], [.rows true .mono]⟩
@[reducible] def BH : Sig := ⟨[.c (.pb 0 2 0), .c (.int .i64)], [.box (.agg [.rows true .u8, .int .i64])], [.agg [.own 1]], [.box (.agg [.rows true .u8, .int .i64]), .rows true .mono]⟩
@[reducible] def jR : Sig := ⟨[.c (.int .i64)], [], [.c .bool], []⟩
@[reducible] def BI : Sig := ⟨[.sv false .poly, .c (.int .i64)], [], [.agg [.own 0]], [.rows true .mono]⟩
@[reducible] def BJ : Sig := ⟨[], [], [.agg [.own 0], .c (.own 1)], [.rows true .atom, .rows true .poly]⟩
@[reducible] def BK : Sig := ⟨[.sv false .poly], [], [.c (.int .i64), .c .bool], []⟩
@[reducible] def mV : Sig := ⟨[.sv false .poly, .sv false .poly], [], [.c (.int .i64)], []⟩
@[reducible] def BL : Sig := ⟨[.c (.int .i64)], [], [.c .bool], []⟩
@[reducible] def uz : Sig := ⟨[.c (.rows false .iop), .c (.int .i64), .c (.int .i64)], [], [.c .bool], []⟩
@[reducible] def BM : Sig := ⟨[.c (.rows false .iop), .c (.int .i64), .c (.int .i64)], [], [.c .bool], []⟩
@[reducible] def BN : Sig := ⟨[.sv false .blk], [], [.c .bool], []⟩
@[reducible] def jf : Sig := ⟨[.sv false .blk], [], [.c .bool], []⟩
@[reducible] def BO : Sig := ⟨[.sv false .atom], [], [.c .bool], []⟩
@[reducible] def uD : Sig := ⟨[.sv false .poly, .c (.int .i64)], [], [.c .bool], []⟩
@[reducible] def uE : Sig := ⟨[.sv false .atom, .c (.int .i64)], [], [.c .bool], []⟩
@[reducible] def uF : Sig := ⟨[.sv false .atom, .sv false .atom], [], [.c .bool], []⟩
@[reducible] def uG : Sig := ⟨[.sv false .tab], [], [.c .bool], []⟩
@[reducible] def uH : Sig := ⟨[.sv false .atom], [], [.agg [.int .i64, .int .i64, .own 0, .own 1]], [.rows true .mono, .rows true .mono]⟩
@[reducible] def uI : Sig := ⟨[.sv false .tab], [], [.agg [.own 0]], [.rows true .atom]⟩
@[reducible] def uJ : Sig := ⟨[.agg [.own 0], .sv false .atom], [.rows true .atom], [.agg [.own 1], .c (.int .i64)], [.gone, .rows true .atom]⟩
@[reducible] def BP : Sig := ⟨[.c (.int .i64), .sv false .poly, .sv false .poly], [], [.agg [.own 0], .c .bool], [.rows true .mono]⟩
@[reducible] def uK : Sig := ⟨[.c (.int .i64), .c (.int .i64), .c (.int .i64)], [], [.c (.int .i64)], []⟩
@[reducible] def BQ : Sig := ⟨[.c (.int .i64), .c (.int .i64), .sv false .poly], [], [.agg [.own 0], .c .bool], [.rows true .mono]⟩
@[reducible] def BR : Sig := ⟨[.c (.int .i64), .sv false .poly, .sv false .poly], [], [.agg [.own 0], .c .bool], [.rows true .mono]⟩
@[reducible] def BS : Sig := ⟨[.agg [.own 0], .c (.int .i64), .sv false .poly, .sv false .poly], [.rows true .atom], [.agg [.own 1], .agg [.own 2]], [.gone, .rows true .atom, .rows true .mono]⟩
@[reducible] def mW : Sig := ⟨[.sv false .blk], [], [.agg [.int .i64, .int .i64, .own 0, .int .i64, .int .i64, .int .i64, .int .i64]], [.rows true .iop]⟩
@[reducible] def uL : Sig := ⟨[.sv false .iop, .c (.rows false .i64)], [], [.sv true .iop], []⟩
@[reducible] def uM : Sig := ⟨[.sv false .blk], [], [.agg [.int .i64, .int .i64, .own 0, .int .i64, .int .i64, .int .i64, .int .i64]], [.rows true .iop]⟩
@[reducible] def uN : Sig := ⟨[.c (.rows false .iop), .c (.int .i64)], [], [.c (.int .i64), .c .bool], []⟩
@[reducible] def BU : Sig := ⟨[.sv false .blk, .c (.int .i64)], [], [.agg [.int .i64, .int .i64, .rows false .iop, .int .i64, .int .i64, .int .i64, .int .i64]], []⟩
@[reducible] def BX : Sig := ⟨[.sv false .blk], [], [.sv false .blk], []⟩
@[reducible] def BZ : Sig := ⟨[.sv false .blk], [], [.sv false .blk], []⟩
@[reducible] def Ca : Sig := ⟨[.c (.rows false .iop), .c (.int .i64)], [], [.c .bool], []⟩
@[reducible] def uO : Sig := ⟨[.sv false .blk, .c (.rows false .bool)], [], [.agg [.int .i64, .int .i64, .own 0, .int .i64, .int .i64, .int .i64, .int .i64]], [.rows true .iop]⟩
@[reducible] def Cc : Sig := ⟨[.sv false .blk], [], [.agg [.int .i64, .int .i64, .own 0, .int .i64, .int .i64, .int .i64, .int .i64]], [.rows true .iop]⟩
@[reducible] def Ce : Sig := ⟨[.sv false .blk], [], [.c (.own 0)], [.rows true .bool]⟩
@[reducible] def Cg : Sig := ⟨[.sv false .blk], [], [.agg [.int .i64, .int .i64, .own 0, .int .i64, .int .i64, .int .i64, .int .i64]], [.rows true .iop]⟩
@[reducible] def Ch : Sig := ⟨[.sv false .blk], [], [.agg [.int .i64, .int .i64, .own 0, .int .i64, .int .i64, .int .i64, .int .i64]], [.rows true .iop]⟩
@[reducible] def Ci : Sig := ⟨[.c (.pb 0 2 0)], [.box (.agg [.rows true .u8, .int .i64])], [.agg [.int .i64, .int .i64, .int .i64, .int .i64]], [.box (.agg [.rows true .u8, .int .i64])]⟩
@[reducible] def Cj : Sig := ⟨[.sv false .ins], [], [.c .bool], []⟩
@[reducible] def uP : Sig := ⟨[.sv false .ins], [], [.c .bool], []⟩
@[reducible] def uQ : Sig := ⟨[.c (.int .i64)], [], [.c .bool], []⟩
@[reducible] def uR : Sig := ⟨[.sv false .ins], [], [.c .bool], []⟩
@[reducible] def Ck : Sig := ⟨[.c (.pb 0 2 0)], [.box (.agg [.rows true .u8, .int .i64])], [.agg [.int .i64, .int .i64, .int .i64, .int .i64]], [.box (.agg [.rows true .u8, .int .i64])]⟩
@[reducible] def Cm : Sig := ⟨[.c (.pb 0 2 0)], [.box (.agg [.rows true .u8, .int .i64])], [.c (.own 1)], [.box (.agg [.rows true .u8, .int .i64]), .rows true .ins]⟩
@[reducible] def Cn : Sig := ⟨[.c (.int .i64), .c (.rows false .ins)], [], [.c .bool], []⟩
@[reducible] def jg : Sig := ⟨[.agg [.int .i64, .int .i64, .own 0, .int .i64, .int .i64, .int .i64, .int .i64], .sv false .iop], [.rows true .iop], [.agg [.int .i64, .int .i64, .own 1, .int .i64, .int .i64, .int .i64, .int .i64], .c (.int .i64)], [.gone, .rows true .iop]⟩
@[reducible] def uS : Sig := ⟨[.agg [.int .i64, .int .i64, .own 0, .int .i64, .int .i64, .int .i64, .int .i64], .c (.int .i64), .c (.int .i64)], [.rows true .iop], [.agg [.int .i64, .int .i64, .own 1, .int .i64, .int .i64, .int .i64, .int .i64]], [.gone, .rows true .iop]⟩
@[reducible] def jS : Sig := ⟨[.agg [.int .i64, .int .i64, .own 0, .int .i64, .int .i64, .int .i64, .int .i64], .c (.int .i64)], [.rows true .iop], [.agg [.int .i64, .int .i64, .own 1, .int .i64, .int .i64, .int .i64, .int .i64], .c (.int .i64)], [.gone, .rows true .iop]⟩
@[reducible] def uT : Sig := ⟨[.agg [.int .i64, .int .i64, .own 0, .int .i64, .int .i64, .int .i64, .int .i64], .c (.int .i64), .c (.int .i64), .sv false .iop], [.rows true .iop], [.agg [.int .i64, .int .i64, .own 1, .int .i64, .int .i64, .int .i64, .int .i64], .c (.int .i64)], [.gone, .rows true .iop]⟩
@[reducible] def Cq : Sig := ⟨[.c (.int .i64)], [], [.c (.int .i64)], []⟩
@[reducible] def Cr : Sig := ⟨[.agg [.int .i64, .int .i64, .own 0, .int .i64, .int .i64, .int .i64, .int .i64], .sv false .ins, .c (.int .i64)], [.rows true .iop], [.agg [.int .i64, .int .i64, .own 1, .int .i64, .int .i64, .int .i64, .int .i64]], [.gone, .rows true .iop]⟩
@[reducible] def Cu : Sig := ⟨[.agg [.int .i64, .int .i64, .own 0, .int .i64, .int .i64, .int .i64, .int .i64], .sv false .ins], [.rows true .iop], [.agg [.int .i64, .int .i64, .own 1, .int .i64, .int .i64, .int .i64, .int .i64]], [.gone, .rows true .iop]⟩
@[reducible] def Cv : Sig := ⟨[.agg [.int .i64, .int .i64, .own 0, .int .i64, .int .i64, .int .i64, .int .i64], .sv false .ins, .c (.int .i64)], [.rows true .iop], [.agg [.int .i64, .int .i64, .own 1, .int .i64, .int .i64, .int .i64, .int .i64]], [.gone, .rows true .iop]⟩
@[reducible] def Cw : Sig := ⟨[.c (.int .i64), .c (.rows false .ins)], [], [.agg [.int .i64, .int .i64, .own 0, .int .i64, .int .i64, .int .i64, .int .i64]], [.rows true .iop]⟩
@[reducible] def Cx : Sig := ⟨[.c (.pb 0 2 0)], [.box (.agg [.rows true .u8, .int .i64])], [.agg [.int .i64, .int .i64, .own 1, .int .i64, .int .i64, .int .i64, .int .i64]], [.box (.agg [.rows true .u8, .int .i64]), .rows true .iop]⟩
@[reducible] def Ml : Sig := ⟨[.c (.int .i64)], [], [.c .bool], []⟩
@[reducible] def Em : Sig := ⟨[.c (.int .i64), .c (.int .i64)], [], [.c (.int .i64)], []⟩
@[reducible] def Mq : Sig := ⟨[.c (.rows false .i64)], [], [.c (.int .i64)], []⟩
@[reducible] def Kc : Sig := ⟨[.c (.rows false .i64), .c (.rows false .i64)], [], [.c (.int .i64)], []⟩
@[reducible] def nY : Sig := ⟨[.c (.rows false .i64), .c (.rows false .i64)], [], [.c (.int .i64)], []⟩
@[reducible] def dA : Sig := ⟨[.c (.int .i64), .c (.int .i64), .c (.int .i64)], [], [.c .bool], []⟩
@[reducible] def En : Sig := ⟨[.c (.int .i64), .c (.int .i64)], [], [.c .bool], []⟩
@[reducible] def Cy : Sig := ⟨[.c (.rows false .i64)], [], [.c .bool], []⟩
@[reducible] def Ke : Sig := ⟨[.c (.int .i64), .c (.pb 0 1 0)], [.box (.c (.int .i64))], [.c .bool], [.box (.c (.int .i64))]⟩
@[reducible] def Cz : Sig := ⟨[.c (.rows false .i64), .c (.fn 187 [(0, 1)])], [.box (.c (.int .i64))], [.c (.int .i64)], [.box (.c (.int .i64))]⟩
@[reducible] def CB : Sig := ⟨[.c (.rows false .i64), .c (.fn 187 [(0, 1)])], [.box (.c (.int .i64))], [.c .bool], [.box (.c (.int .i64))]⟩
@[reducible] def Ah : Sig := ⟨[.sv false .poly, .c (.int .i64)], [], [.c .bool], []⟩
@[reducible] def Kg : Sig := ⟨[.sv false .mono], [], [.c .bool], []⟩
@[reducible] def CF : Sig := ⟨[.c (.rows false .mono), .c (.fn 144 [])], [], [.c (.int .i64)], []⟩
@[reducible] def CG : Sig := ⟨[.c (.rows false .mono), .c (.fn 144 [])], [], [.c .bool], []⟩
@[reducible] def jk : Sig := ⟨[.sv false .poly], [], [.c .bool], []⟩
@[reducible] def Ai : Sig := ⟨[.sv false .poly], [], [.c (.int .i64), .c .bool], []⟩
@[reducible] def vI : Sig := ⟨[.sv false .poly, .sv false .poly], [], [.c (.int .i64)], []⟩
@[reducible] def Aj : Sig := ⟨[.c (.rows false .i64)], [], [.c (.own 0)], [.rows true .i64]⟩
@[reducible] def vJ : Sig := ⟨[.sv false .poly], [], [.agg [.own 0]], [.rows true .mono]⟩
@[reducible] def Kh : Sig := ⟨[.c (.rows false .poly)], [], [.c (.own 0)], [.rows true .poly]⟩
@[reducible] def Ki : Sig := ⟨[.sv false .sym], [], [.agg [.own 0, .own 1, .int .i64, .own 2, .own 3, .int .i64]], [.rows true .ev, .rows true .poly, .rows true .mono, .rows true .mono]⟩
@[reducible] def vK : Sig := ⟨[.sv false .poly, .sv false .poly], [], [.c .bool], []⟩
@[reducible] def jI : Sig := ⟨[.c (.int .i64)], [], [.c .bool], []⟩
@[reducible] def Kj : Sig := ⟨[.c (.int .i64), .c (.int .i64), .c (.int .i64)], [], [.c .bool], []⟩
@[reducible] def Kk : Sig := ⟨[.sv false .sym, .c (.int .i64)], [], [.sv true .sym], []⟩
@[reducible] def Kl : Sig := ⟨[.c (.rows false .i64), .c (.rows false .i64)], [], [.c .bool], []⟩
@[reducible] def vL : Sig := ⟨[.sv false .poly, .sv false .poly], [], [.c .bool], []⟩
@[reducible] def Km : Sig := ⟨[.c (.rows false .poly), .c (.rows false .poly)], [], [.c .bool], []⟩
@[reducible] def Kn : Sig := ⟨[.sv false .sym, .sv false .sym], [], [.c .bool], []⟩
@[reducible] def Ko : Sig := ⟨[], [], [.c .bool], []⟩
@[reducible] def CJ : Sig := ⟨[.c (.pb 0 2 0), .sv false .blk], [.box (.agg [.rows true .u8, .int .i64])], [.agg [.int .i64, .int .i64, .own 1, .int .i64, .int .i64, .int .i64, .int .i64]], [.box (.agg [.rows true .u8, .int .i64]), .rows true .iop]⟩
@[reducible] def CK : Sig := ⟨[.c (.pb 0 2 0), .c (.int .i64)], [.box (.agg [.rows true .u8, .int .i64])], [.sv true .blk], [.box (.agg [.rows true .u8, .int .i64])]⟩
@[reducible] def Ak : Sig := ⟨[.c (.int .i64)], [], [.c .bool], []⟩
@[reducible] def Al : Sig := ⟨[.c (.int .i64)], [], [.c .bool], []⟩
@[reducible] def Am : Sig := ⟨[.sv false .atom, .c (.int .i64)], [], [.c .bool], []⟩
@[reducible] def Kq : Sig := ⟨[.sv false .atom, .sv false .atom], [], [.c .bool], []⟩
@[reducible] def Kr : Sig := ⟨[.sv false .atom, .c (.pb 0 4 0)], [.box (.sv false .atom)], [.c .bool], [.box (.sv false .atom)]⟩
@[reducible] def CO : Sig := ⟨[.c (.rows false .atom), .c (.fn 167 [(0, 4)])], [.box (.sv false .atom)], [.c (.int .i64)], [.box (.sv false .atom)]⟩
@[reducible] def Ao : Sig := ⟨[.sv false .tab, .sv false .atom], [], [.c (.int .i64)], []⟩
@[reducible] def Kt : Sig := ⟨[.sv false .tab], [], [.c .bool], []⟩
@[reducible] def Ap : Sig := ⟨[.sv false .iop], [], [.c .bool, .c .bool, .c .bool, .c .bool], []⟩
@[reducible] def Ku : Sig := ⟨[.sv false .iop], [], [.c .bool], []⟩
@[reducible] def Aq : Sig := ⟨[.sv false .blk, .c (.int .i64), .c (.int .i64)], [], [.c .bool], []⟩
@[reducible] def Kv : Sig := ⟨[.sv false .blk, .c (.int .i64)], [], [.c .bool], []⟩
@[reducible] def Ar : Sig := ⟨[.sv false .blk], [], [.c .bool, .c .bool, .c .bool], []⟩
@[reducible] def Kw : Sig := ⟨[.sv false .blk], [], [.c .bool], []⟩
@[reducible] def Ky : Sig := ⟨[.sv false .blk], [], [.c .bool], []⟩
@[reducible] def Kz : Sig := ⟨[.c (.rows true .atom)], [], [.c (.clip true .atom)], []⟩
@[reducible] def Au : Sig := ⟨[.sv true .tab, .sv true .atom], [], [.sv true .tab, .c (.int .i64)], []⟩
@[reducible] def Av : Sig := ⟨[.c (.int .i64)], [], [.agg [.own 0]], [.rows true .mono]⟩
@[reducible] def Aw : Sig := ⟨[.c (.pb 0 2 0), .c (.int .i64), .c (.int .i64)], [.box (.agg [.rows true .atom, .bool])], [.sv true .poly], [.box (.agg [.rows true .atom, .bool])]⟩
@[reducible] def KA : Sig := ⟨[.c (.pb 0 2 0)], [.box (.agg [.rows true .atom, .bool])], [.c (.own 1)], [.box (.agg [.rows true .atom, .bool]), .rows true .poly]⟩
@[reducible] def KC : Sig := ⟨[.sv false .iop], [], [.c .bool], []⟩
@[reducible] def KD : Sig := ⟨[.c (.own 0)], [.rows true .poly], [.c (.own 1)], [.rows true .poly, .rows true .poly]⟩
@[reducible] def vM : Sig := ⟨[.c (.int .i64)], [], [.agg [.own 0]], [.rows true .mono]⟩
@[reducible] def vN : Sig := ⟨[.c (.int .i64)], [], [.c (.int .i64)], []⟩
@[reducible] def KE : Sig := ⟨[.c (.int .i64), .c (.int .i64), .c (.int .i64)], [], [.c (.int .i64)], []⟩
@[reducible] def Ay : Sig := ⟨[.sv false .mono, .sv false .mono], [], [.c (.int .i64)], []⟩
@[reducible] def CP : Sig := ⟨[.c (.own 0), .c (.int .i64), .c (.int .i64), .c (.fn 224 [])], [.rows false .mono], [], [.rows false .mono]⟩
@[reducible] def CQ : Sig := ⟨[.c (.own 0), .c (.int .i64), .c (.int .i64), .c (.int .i64), .c (.fn 224 [])], [.rows false .mono], [], [.rows false .mono]⟩
@[reducible] def CS : Sig := ⟨[.c (.own 0), .c (.int .i64), .c (.int .i64), .c (.int .i64), .c (.fn 224 [])], [.rows false .mono], [], [.rows false .mono]⟩
@[reducible] def nZ : Sig := ⟨[.c (.own 0), .c (.int .i64), .c (.int .i64), .c (.int .i64), .c (.fn 224 [])], [.rows false .mono], [], [.rows false .mono]⟩
@[reducible] def CU : Sig := ⟨[.c (.own 0), .c (.int .i64), .c (.fn 224 [])], [.rows false .mono], [], [.rows false .mono]⟩
@[reducible] def CV : Sig := ⟨[.c (.own 0), .c (.fn 224 [])], [.rows false .mono], [], [.rows false .mono]⟩
@[reducible] def Az : Sig := ⟨[.c (.own 0)], [.rows false .mono], [.agg [.own 1], .c .bool], [.rows false .mono, .rows true .mono]⟩
@[reducible] def CW : Sig := ⟨[.c (.nil), .c (.int .i64)], [], [.c (.own 0)], [.rows true .mono]⟩
@[reducible] def KF : Sig := ⟨[.c (.rows false .poly)], [], [.c (.own 0)], [.rows false .mono]⟩
@[reducible] def KG : Sig := ⟨[.sv false .poly, .sv false .poly], [], [.agg [.own 0], .c .bool], [.rows true .mono]⟩
@[reducible] def CX : Sig := ⟨[.c (.nil), .c (.int .i64)], [], [.c (.own 0)], [.rows true .i64]⟩
@[reducible] def KH : Sig := ⟨[.c (.rows false .ints)], [], [.c (.own 0)], [.rows true .i64]⟩
@[reducible] def CY : Sig := ⟨[.c (.own 0), .c (.int .i64), .c (.int .i64)], [.rows true .i64], [], [.rows true .i64]⟩
@[reducible] def F3 : Sig := ⟨[.c (.own 0), .c (.int .i64), .c (.int .i64)], [.rows true .i64], [], [.rows true .i64]⟩
@[reducible] def F4 : Sig := ⟨[.c (.own 0), .c (.int .i64), .c (.int .i64)], [.rows true .i64], [], [.rows true .i64]⟩
@[reducible] def F5 : Sig := ⟨[.c (.own 0), .c (.int .i64), .c (.int .i64)], [.rows true .i64], [.c (.int .i64), .c (.int .i64)], [.rows true .i64]⟩
@[reducible] def F6 : Sig := ⟨[.c (.own 0), .c (.int .i64), .c (.int .i64)], [.rows true .i64], [], [.rows true .i64]⟩
@[reducible] def F7 : Sig := ⟨[.c (.own 0), .c (.int .i64), .c (.int .i64)], [.rows true .i64], [.c .bool], [.rows true .i64]⟩
@[reducible] def F8 : Sig := ⟨[.c (.own 0), .c (.int .i64), .c (.int .i64), .c (.int .i64)], [.rows true .i64], [.c (.int .i64)], [.rows true .i64]⟩
@[reducible] def F9 : Sig := ⟨[.c (.own 0), .c (.int .i64), .c (.int .i64), .c (.int .i64)], [.rows true .i64], [.c (.int .i64), .c .bool], [.rows true .i64]⟩
@[reducible] def og : Sig := ⟨[.c (.own 0), .c (.int .i64), .c (.int .i64), .c (.int .i64)], [.rows true .i64], [], [.rows true .i64]⟩
@[reducible] def VP : Sig := ⟨[.c (.int .u64)], [], [.c (.int .i64)], []⟩
@[reducible] def CZ : Sig := ⟨[.c (.own 0)], [.rows true .i64], [], [.rows true .i64]⟩
@[reducible] def AA : Sig := ⟨[.sv false .poly, .sv false .poly], [], [.agg [.own 0], .c .bool], [.rows true .mono]⟩
@[reducible] def KI : Sig := ⟨[.sv false .poly, .c (.int .i64)], [], [.agg [.own 0]], [.rows true .mono]⟩
@[reducible] def KJ : Sig := ⟨[.c (.int .i64), .sv true .poly, .sv true .poly], [], [.sv true .poly, .c .bool], []⟩
@[reducible] def KL : Sig := ⟨[.sv true .tab, .c (.int .i64), .sv true .poly, .sv true .poly], [], [.sv true .tab, .sv true .poly, .c .bool], []⟩
@[reducible] def KM : Sig := ⟨[.sv false .tab], [], [.agg [.own 0]], [.rows true .atom]⟩
@[reducible] def KN : Sig := ⟨[.sv true .tab, .sv false .blk], [], [.sv true .tab, .sv true .sym], []⟩
@[reducible] def C8 : Sig := ⟨[.sv false .poly, .sv false .poly, .c (.int .i64)], [], [.c .bool], []⟩
@[reducible] def C9 : Sig := ⟨[.sv false .tab, .c (.int .i64), .sv false .poly, .sv false .poly], [], [.agg [.own 0], .agg [.own 1]], [.rows true .atom, .rows true .mono]⟩
@[reducible] def Da : Sig := ⟨[.sv false .tab, .sv false .atom], [], [.agg [.own 0], .c (.int .i64)], [.rows true .atom]⟩
@[reducible] def Db : Sig := ⟨[.c (.pb 0 2 0)], [.box (.agg [.rows true .u8, .int .i64])], [.agg [.own 1]], [.box (.agg [.rows true .u8, .int .i64]), .rows true .atom]⟩
@[reducible] def Dc : Sig := ⟨[.c (.pb 0 2 0), .c (.int .i64)], [.box (.agg [.rows true .u8, .int .i64])], [.agg [.own 1]], [.box (.agg [.rows true .u8, .int .i64]), .rows true .atom]⟩
@[reducible] def Df : Sig := ⟨[.c (.rows true .u8)], [], [.sv true .tab, .sv true .blk], []⟩
@[reducible] def KO : Sig := ⟨[.sv false .tab, .sv false .tab], [], [.c .bool], []⟩
@[reducible] def Y7 : Sig := ⟨[.c (.rows true .u8)], [], [.c .bool], []⟩
def Ga (A:Alg) (x:Tup A.ah [.l .u8]):Ot A BA:=
 A.bind [.l .u8] (A.cond (A.cmp .gtr (A.len .u8 x.1) (A.lit 2000)) (A.chk (A.cmp .leq (A.lit 0) (A.lit 0))<|
 A.chk (A.cmp .leq (A.lit 0) (A.lit 2000))<|
 A.chk (A.cmp .leq (A.lit 2000) (A.len .u8 x.1))<|
 A.l1 (.l .u8) (A.sub .u8 x.1 (A.lit 0) (A.lit 2000)) fun x0=>
 A.ret _ (x0.1,()))<|
 A.ret _ (x.1,())) fun x0=>
 A.ret _ (x0.1,A.lit 0,())
def Gb (A:Alg) (x:Tup A.ah [.i,.l .u8,.i]):Ot A bY:=
 A.l1 .i (A.lit 0) fun x0=>
 A.l1 .i (A.arith .add .i64 x.2.2.1 (A.lit 1)) fun x1=>
 A.cond (A.au (A.cmp .lss x.1 (A.lit 1)) (A.bl true) (A.cmp .eql (A.len .u8 x.2.1) (A.lit 0))) (A.l1 .i (A.lit 0) fun x2=>
 A.ret _ (x2.1,x.2.1,x1.1,()))<|
 A.l1 .i (A.arith .sub .i64 x1.1 (A.lit 1)) fun x2=>
 A.cond (A.cmp .lss x2.1 (A.len .u8 x.2.1)) (A.bd .u8 x.2.1 x2.1<|
 A.chk (A.cmp .neq x.1 (A.lit 0))<|
 A.l1 .i (A.arith .rem .i64 (A.conv .i64 (A.fI .u8 0 (A.get .u8 x.2.1 x2.1))) x.1) fun x3=>
 A.ret _ (x3.1,x.2.1,x1.1,()))<|
 A.chk (A.cmp .neq (A.len .u8 x.2.1) (A.lit 0))<|
 A.bd .u8 x.2.1 (A.arith .rem .i64 x2.1 (A.len .u8 x.2.1))<|
 A.chk (A.cmp .neq (A.len .u8 x.2.1) (A.lit 0))<|
 A.bd .u8 x.2.1 (A.arith .rem .i64 (A.arith .add .i64 (A.arith .mul .i64 x2.1 (A.lit 7)) (A.lit 3)) (A.len .u8 x.2.1))<|
 A.chk (A.cmp .neq (A.len .u8 x.2.1) (A.lit 0))<|
 A.l1 .i (A.arith .add .i64 (A.arith .add .i64 (A.arith .add .i64 (A.arith .mul .i64 (A.conv .i64 (A.fI .u8 0 (A.get .u8 x.2.1 (A.arith .rem .i64 x2.1 (A.len .u8 x.2.1))))) (A.lit 131)) (A.arith .mul .i64 (A.conv .i64 (A.fI .u8 0 (A.get .u8 x.2.1 (A.arith .rem .i64 (A.arith .add .i64 (A.arith .mul .i64 x2.1 (A.lit 7)) (A.lit 3)) (A.len .u8 x.2.1))))) (A.lit 1117))) (A.arith .mul .i64 x2.1 (A.lit 29))) (A.arith .mul .i64 (A.arith .quo .i64 x2.1 (A.len .u8 x.2.1)) (A.lit 53))) fun x3=>
 A.chk (A.cmp .neq (A.lit 64) (A.lit 0))<|
 A.l1 .i (A.arith .xor .i64 x3.1 (A.arith .quo .i64 x3.1 (A.lit 64))) fun x4=>
 A.chk (A.cmp .neq x.1 (A.lit 0))<|
 A.l1 .i (A.arith .rem .i64 x4.1 x.1) fun x5=>
 A.ret _ (x5.1,x.2.1,x1.1,())
def Gc (A:Alg) (x:Tup A.ah [.i,.i,.i]):Ot A bR:=
 A.l1 .b (A.bl false) fun x0=>
 A.rb (A.au (A.cmp .geq x.1 x.2.1) (A.cmp .leq x.1 x.2.2.1) (A.bl false))
def Gd (A:Alg) (bZ:Pt A bR) (cu:Ft A bR) (x:Tup A.ah [.i]):Ot A ug:=
 A.cl bZ cu (x.1,A.lit 1,A.lit 65535,()) fun x0=>
 A.cond (A.aA x0.1) (A.ret _ (A.bC .mono,()))<|
 A.l1 (.l .mono) (A.lst .mono [A.mkX .mono (x.1,A.bC .i64,())]) fun x1=>
 A.ret _ (x1.1,())
def Gf (A:Alg) (aO:Pt A bY) (aP:Ft A bY) (x:Tup A.ah [.l .u8,.i]):Ot A BD:=
 A.l1 .i (A.lit 0) fun x0=>
 A.cl aO aP (A.lit 4,x.1,x.2.1,()) fun x1=>
 A.l1 .b (A.cmp .eql x1.1 (A.lit 0)) fun x2=>
 A.cond x2.1 (A.l1 (.l .i64) (A.lst .i64 [A.mkX .i64 (A.lit 0,()),A.mkX .i64 (A.lit 1,()),A.mkX .i64 (A.lit 2,()),A.mkX .i64 (A.lit 3,()),A.mkX .i64 (A.lit 65535,()),A.mkX .i64 (A.lit 32768,()),A.mkX .i64 (A.lit 255,()),A.mkX .i64 (A.lit 256,()),A.mkX .i64 (A.lit 65534,())]) fun x3=>
 A.cl aO aP (A.lit 9,x1.2.1,x1.2.2.1,()) fun x4=>
 A.bd .i64 x3.1 x4.1<|
 A.bd .i64 x3.1 x4.1<|
 A.l1 .i (A.fI .i64 0 (A.get .i64 x3.1 x4.1)) fun x5=>
 A.ret _ (x5.1,x4.2.1,x4.2.2.1,()))<|
 A.l1 .b (A.cmp .eql x1.1 (A.lit 1)) fun x3=>
 A.cond x3.1 (A.cl aO aP (A.lit 70,x1.2.1,x1.2.2.1,()) fun x4=>
 A.l1 .i x4.1 fun x5=>
 A.ret _ (x5.1,x4.2.1,x4.2.2.1,()))<|
 A.cl aO aP (A.lit 256,x1.2.1,x1.2.2.1,()) fun x4=>
 A.cl aO aP (A.lit 256,x4.2.1,x4.2.2.1,()) fun x5=>
 A.l1 .i (A.arith .add .i64 (A.arith .mul .i64 x4.1 (A.lit 256)) x5.1) fun x6=>
 A.ret _ (x6.1,x5.2.1,x5.2.2.1,())
def Gg (A:Alg) (aO:Pt A bY) (aP:Ft A bY) (x:Tup A.ah [.i,.l .u8,.i]):Ot A uh:=
 A.l1 .b (A.bl false) fun x0=>
 A.cl aO aP (x.1,x.2.1,x.2.2.1,()) fun x1=>
 A.l1 .b (A.cmp .eql x1.1 (A.arith .sub .i64 x.1 (A.lit 1))) fun x2=>
 A.ret _ (x2.1,x1.2.1,x1.2.2.1,())
def Gh (A:Alg) (bZ:Pt A bR) (cu:Ft A bR) (x:Tup A.ah [.x .mono]):Ot A BF:=
 A.l1 .b (A.bl false) fun x0=>
 A.cl bZ cu (A.fI .mono 0 x.1,A.lit 1,A.lit 65535,()) fun x1=>
 A.cond (A.au (A.aA x1.1) (A.bl true) (A.cmp .gtr (A.len .i64 (A.fL .mono 1 .i64 x.1)) (A.lit 4))) (A.rb (A.bl false))<|
 A.l1 .i (A.lit 0) fun x2=>
 A.iter [.i,.x .mono] (fun x3=>
 A.cond (A.cmp .lss x3.1 (A.len .i64 (A.fL .mono 1 .i64 x3.2.1))) (A.bd .i64 (A.fL .mono 1 .i64 x3.2.1) x3.1<|
 A.cl bZ cu (A.fI .i64 0 (A.get .i64 (A.fL .mono 1 .i64 x3.2.1) x3.1),A.lit 0,A.lit 199,()) fun x4=>
 A.chk (A.orB (A.aA (A.jH (A.aA (A.aA x4.1)) (A.cmp .gtr x3.1 (A.lit 0)))) (A.cmp .leq (A.lit 0) (A.arith .sub .i64 x3.1 (A.lit 1))))<|
 A.chk (A.orB (A.aA (A.jH (A.aA (A.aA x4.1)) (A.cmp .gtr x3.1 (A.lit 0)))) (A.cmp .lss (A.arith .sub .i64 x3.1 (A.lit 1)) (A.len .i64 (A.fL .mono 1 .i64 x3.2.1))))<|
 A.chk (A.orB (A.aA (A.jH (A.aA (A.aA x4.1)) (A.cmp .gtr x3.1 (A.lit 0)))) (A.cmp .leq (A.lit 0) x3.1))<|
 A.chk (A.orB (A.aA (A.jH (A.aA (A.aA x4.1)) (A.cmp .gtr x3.1 (A.lit 0)))) (A.cmp .lss x3.1 (A.len .i64 (A.fL .mono 1 .i64 x3.2.1))))<|
 A.cond (A.au (A.aA x4.1) (A.bl true) (A.au (A.cmp .gtr x3.1 (A.lit 0)) (A.cmp .gtr (A.fI .i64 0 (A.get .i64 (A.fL .mono 1 .i64 x3.2.1) (A.arith .sub .i64 x3.1 (A.lit 1)))) (A.fI .i64 0 (A.get .i64 (A.fL .mono 1 .i64 x3.2.1) x3.1))) (A.bl false))) (A.l1 .b (A.bl false) fun x5=>
 A.inr _<|A.ret _ (x5.1,()))<|
 A.l1 .i (A.arith .add .i64 x3.1 (A.lit 1)) fun x5=>
 A.inl _ (x5.1,x3.2.1,()))<|
 A.inr _<|A.rb (A.bl true)) (x2.1,x.1,())
def Gi (A:Alg) (x:Tup A.ah [.l .i64,.l .i64]):Ot A mU:=
 A.l1 .i (A.lit 0) fun x0=>
 A.cond (A.cmp .neq (A.len .i64 x.1) (A.len .i64 x.2.1)) (A.cond (A.cmp .lss (A.len .i64 x.1) (A.len .i64 x.2.1)) (A.l1 .i (A.lit (-1)) fun x1=>
 A.ret _ (x1.1,()))<|
 A.l1 .i (A.lit 1) fun x1=>
 A.ret _ (x1.1,()))<|
 A.l1 .i (A.lit 0) fun x1=>
 A.iter [.l .i64,.l .i64,.i] (fun x2=>
 A.cond (A.cmp .lss x2.2.2.1 (A.len .i64 x2.1)) (A.bd .i64 x2.1 x2.2.2.1<|
 A.bd .i64 x2.2.1 x2.2.2.1<|
 A.cond (A.cmp .lss (A.fI .i64 0 (A.get .i64 x2.1 x2.2.2.1)) (A.fI .i64 0 (A.get .i64 x2.2.1 x2.2.2.1))) (A.l1 .i (A.lit (-1)) fun x3=>
 A.inr _<|A.ret _ (x3.1,()))<|
 A.bd .i64 x2.1 x2.2.2.1<|
 A.bd .i64 x2.2.1 x2.2.2.1<|
 A.cond (A.cmp .gtr (A.fI .i64 0 (A.get .i64 x2.1 x2.2.2.1)) (A.fI .i64 0 (A.get .i64 x2.2.1 x2.2.2.1))) (A.l1 .i (A.lit 1) fun x3=>
 A.inr _<|A.ret _ (x3.1,()))<|
 A.l1 .i (A.arith .add .i64 x2.2.2.1 (A.lit 1)) fun x3=>
 A.inl _ (x2.1,x2.2.1,x3.1,()))<|
 A.inr _<|A.l1 .i (A.lit 0) fun x3=>
 A.ret _ (x3.1,())) (x.1,x.2.1,x1.1,())
def Gj (A:Alg) (aiN:Pt A BF) (aiO:Ft A BF) (Gm:Pt A mU) (Gn:Ft A mU) (x:Tup A.ah [.x .poly]):Ot A gB:=
 A.l1 .b (A.bl false) fun x0=>
 A.cond (A.cmp .gtr (A.len .mono (A.fL .poly 0 .mono x.1)) (A.lit 12)) (A.rb (A.bl false))<|
 A.l1 .i (A.lit 0) fun x1=>
 A.iter [.i,.x .poly] (fun x2=>
 A.cond (A.cmp .lss x2.1 (A.len .mono (A.fL .poly 0 .mono x2.2.1))) (A.bd .mono (A.fL .poly 0 .mono x2.2.1) x2.1<|
 A.cl aiN aiO (A.get .mono (A.fL .poly 0 .mono x2.2.1) x2.1,()) fun x3=>
 A.chk (A.orB (A.aA (A.jH (A.aA (A.aA x3.1)) (A.cmp .gtr x2.1 (A.lit 0)))) (A.cmp .leq (A.lit 0) (A.arith .sub .i64 x2.1 (A.lit 1))))<|
 A.chk (A.orB (A.aA (A.jH (A.aA (A.aA x3.1)) (A.cmp .gtr x2.1 (A.lit 0)))) (A.cmp .lss (A.arith .sub .i64 x2.1 (A.lit 1)) (A.len .mono (A.fL .poly 0 .mono x2.2.1))))<|
 A.chk (A.orB (A.aA (A.jH (A.aA (A.aA x3.1)) (A.cmp .gtr x2.1 (A.lit 0)))) (A.cmp .leq (A.lit 0) x2.1))<|
 A.chk (A.orB (A.aA (A.jH (A.aA (A.aA x3.1)) (A.cmp .gtr x2.1 (A.lit 0)))) (A.cmp .lss x2.1 (A.len .mono (A.fL .poly 0 .mono x2.2.1))))<|
 A.cg (A.jH (A.aA (A.aA x3.1)) (A.cmp .gtr x2.1 (A.lit 0))) Gm Gn (A.fL .mono 1 .i64 (A.get .mono (A.fL .poly 0 .mono x2.2.1) (A.arith .sub .i64 x2.1 (A.lit 1))),A.fL .mono 1 .i64 (A.get .mono (A.fL .poly 0 .mono x2.2.1) x2.1),()) fun x4=>
 A.cond (A.au (A.aA x3.1) (A.bl true) (A.au (A.cmp .gtr x2.1 (A.lit 0)) (A.cmp .geq x4.1 (A.lit 0)) (A.bl false))) (A.l1 .b (A.bl false) fun x5=>
 A.inr _<|A.ret _ (x5.1,()))<|
 A.l1 .i (A.arith .add .i64 x2.1 (A.lit 1)) fun x5=>
 A.inl _ (x5.1,x2.2.1,()))<|
 A.inr _<|A.rb (A.bl true)) (x1.1,x.1,())
def Gp (A:Alg) (x:Tup A.ah [.i]):Ot A jP:=
 A.l1 .i (A.lit 0) fun x0=>
 A.chk (A.cmp .neq (A.lit 65536) (A.lit 0))<|
 A.l1 .i (A.arith .rem .i64 x.1 (A.lit 65536)) fun x1=>
 A.bind [.i] (A.cond (A.cmp .lss x1.1 (A.lit 0)) (A.l1 .i (A.arith .add .i64 x1.1 (A.lit 65536)) fun x2=>
 A.ret _ (x2.1,()))<|
 A.ret _ (x1.1,())) fun x2=>
 A.l1 .i x2.1 fun x3=>
 A.ret _ (x3.1,())
def Gq (A:Alg) (Gm:Pt A mU) (Gn:Ft A mU) (uU:Pt A jP) (uV:Ft A jP) (x:Tup A.ah [.l .mono,.x .mono]):Ot A uj:=
 A.l1 (.l .mono) (A.lst .mono []) fun x0=>
 A.l1 .b (A.bl false) fun x1=>
 A.l1 .i (A.lit 0) fun x2=>
 A.iter [.l .mono,.b,.i,.x .mono,.l .mono] (fun x3=>
 A.cond (A.cmp .lss x3.2.2.1 (A.len .mono x3.1)) (A.bd .mono x3.1 x3.2.2.1<|
 A.cl Gm Gn (A.fL .mono 1 .i64 x3.2.2.2.1,A.fL .mono 1 .i64 (A.get .mono x3.1 x3.2.2.1),()) fun x4=>
 A.l1 .i x4.1 fun x5=>
 A.bind [.l .mono,.b,.i,.i,.x .mono,.l .mono] (A.cond (A.au (A.aA x3.2.1) (A.cmp .lss x5.1 (A.lit 0)) (A.bl false)) (A.l1 (.l .mono) (A.lst .mono [x3.2.2.2.1]) fun x6=>
 A.chk (A.cmp .leq (A.addN (A.len .mono x3.q.1) (A.len .mono x6.1)) (A.lit 1073741824))<|
 A.l1 (.l .mono) (A.app .mono x3.q.1 x6.1) fun x7=>
 A.l1 .b (A.bl true) fun x8=>
 A.ret _ (x3.1,x8.1,x3.2.2.1,x5.1,x3.2.2.2.1,x7.1,()))<|
 A.ret _ (x3.1,x3.2.1,x3.2.2.1,x5.1,x3.2.2.2.1,x3.q.1,())) fun x6=>
 A.bind [.l .mono,.b,.i,.x .mono,.l .mono] (A.cond (A.cmp .eql x6.2.2.2.1 (A.lit 0)) (A.l1 .b (A.bl true) fun x7=>
 A.bd .mono x6.1 x6.2.2.1<|
 A.cl uU uV (A.arith .add .i64 (A.fI .mono 0 (A.get .mono x6.1 x6.2.2.1)) (A.fI .mono 0 x6.q.1),()) fun x8=>
 A.l1 .i x8.1 fun x9=>
 A.bind [.l .mono,.b,.i,.x .mono,.l .mono] (A.cond (A.cmp .gtr x9.1 (A.lit 0)) (A.bd .mono x6.1 x6.2.2.1<|
 A.l1 (.l .mono) (A.lst .mono [A.mkX .mono (x9.1,A.fL .mono 1 .i64 (A.get .mono x6.1 x6.2.2.1),())]) fun x10=>
 A.chk (A.cmp .leq (A.addN (A.len .mono x6.q.2.1) (A.len .mono x10.1)) (A.lit 1073741824))<|
 A.l1 (.l .mono) (A.app .mono x6.q.2.1 x10.1) fun x11=>
 A.ret _ (x6.1,x7.1,x6.2.2.1,x6.q.1,x11.1,()))<|
 A.ret _ (x6.1,x7.1,x6.2.2.1,x6.q.1,x6.q.2.1,())) fun x10=>
 A.ret _ (x10.1,x10.2.1,x10.2.2.1,x10.2.2.2.1,x10.q.1,()))<|
 A.bd .mono x6.1 x6.2.2.1<|
 A.l1 (.l .mono) (A.lst .mono [A.get .mono x6.1 x6.2.2.1]) fun x7=>
 A.chk (A.cmp .leq (A.addN (A.len .mono x6.q.2.1) (A.len .mono x7.1)) (A.lit 1073741824))<|
 A.l1 (.l .mono) (A.app .mono x6.q.2.1 x7.1) fun x8=>
 A.ret _ (x6.1,x6.2.1,x6.2.2.1,x6.q.1,x8.1,())) fun x7=>
 A.l1 .i (A.arith .add .i64 x7.2.2.1 (A.lit 1)) fun x8=>
 A.inl _ (x7.1,x7.2.1,x8.1,x7.2.2.2.1,x7.q.1,()))<|
 A.inr _<|A.bind [.l .mono] (A.cond (A.aA x3.2.1) (A.l1 (.l .mono) (A.lst .mono [x3.2.2.2.1]) fun x4=>
 A.chk (A.cmp .leq (A.addN (A.len .mono x3.q.1) (A.len .mono x4.1)) (A.lit 1073741824))<|
 A.l1 (.l .mono) (A.app .mono x3.q.1 x4.1) fun x5=>
 A.ret _ (x5.1,()))<|
 A.ret _ (x3.q.1,())) fun x4=>
 A.ret _ (x4.1,())) (x.1,x1.1,x2.1,x.2.1,x0.1,())
def Gr (A:Alg) (x:Tup A.ah [.l .mono]):Ot A je:=
 A.l1 .i (A.lit 0) fun x0=>
 A.iter [.l .mono,.i,.l .mono] (fun x1=>
 A.cond (A.cmp .lss x1.2.1 (A.len .mono x1.1)) (A.bd .mono x1.1 x1.2.1<|
 A.bd .mono x1.1 x1.2.1<|
 A.chk (A.orB (A.cmp .lss (A.lit 0) (A.len .i64 (A.fL .mono 1 .i64 (A.get .mono x1.1 x1.2.1)))) (A.cmp .eql (A.len .i64 (A.lst .i64 [])) (A.lit 0)))<|
 A.chk (A.cmp .leq (A.addN (A.len .i64 (A.lst .i64 [])) (A.len .i64 (A.fL .mono 1 .i64 (A.get .mono x1.1 x1.2.1)))) (A.lit 1073741824))<|
 A.l1 (.l .i64) (A.app .i64 (A.lst .i64 []) (A.fL .mono 1 .i64 (A.get .mono x1.1 x1.2.1))) fun x2=>
 A.l1 (.l .mono) (A.lst .mono [A.mkX .mono (A.fI .mono 0 (A.get .mono x1.1 x1.2.1),x2.1,())]) fun x3=>
 A.chk (A.cmp .leq (A.addN (A.len .mono x1.2.2.1) (A.len .mono x3.1)) (A.lit 1073741824))<|
 A.l1 (.l .mono) (A.app .mono x1.2.2.1 x3.1) fun x4=>
 A.l1 .i (A.arith .add .i64 x1.2.1 (A.lit 1)) fun x5=>
 A.inl _ (x1.1,x5.1,x4.1,()))<|
 A.inr _<|A.ret _ (x1.2.2.1,())) (x.1,x0.1,A.bC .mono,())
def Gs (A:Alg) (o7:Pt A je) (o8:Ft A je) (x:Tup A.ah [.l .mono]):Ot A um:=
 A.l1 .b (A.bl false) fun x0=>
 A.cond (A.cmp .gtr (A.len .mono x.1) (A.lit 12)) (A.l1 .b (A.bl false) fun x1=>
 A.ret _ (x1.1,A.bC .mono,()))<|
 A.l1 .i (A.lit 0) fun x1=>
 A.iter [.l .mono,.i] (fun x2=>
 A.cond (A.cmp .lss x2.2.1 (A.len .mono x2.1)) (A.bd .mono x2.1 x2.2.1<|
 A.cond (A.cmp .gtr (A.len .i64 (A.fL .mono 1 .i64 (A.get .mono x2.1 x2.2.1))) (A.lit 4)) (A.l1 .b (A.bl false) fun x3=>
 A.inr _<|A.ret _ (x3.1,A.bC .mono,()))<|
 A.l1 .i (A.arith .add .i64 x2.2.1 (A.lit 1)) fun x3=>
 A.inl _ (x2.1,x3.1,()))<|
 A.inr _<|A.cl o7 o8 (x2.1,()) fun x3=>
 A.l1 .b (A.bl true) fun x4=>
 A.ret _ (x4.1,x3.1,())) (x.1,x1.1,())
def Gt (A:Alg) (jT:Pt A gB) (jU:Ft A gB) (SA:Pt A uj) (SB:Ft A uj) (SE:Pt A um) (SF:Ft A um) (x:Tup A.ah [.x .poly,.x .poly]):Ot A uo:=
 A.l1 .b (A.bl false) fun x0=>
 A.cl jT jU (x.1,()) fun x1=>
 A.cg (A.aA (A.aA x1.1)) jT jU (x.2.1,()) fun x2=>
 A.cond (A.au (A.aA x1.1) (A.bl true) (A.aA x2.1)) (A.l1 .b (A.bl false) fun x3=>
 A.ret _ (x3.1,A.bC .mono,()))<|
 A.l1 (.l .mono) (A.fL .poly 0 .mono x.1) fun x3=>
 A.l1 .i (A.lit 0) fun x4=>
 A.iter [.l .mono,.i,.x .poly] (fun x5=>
 A.cond (A.cmp .lss x5.2.1 (A.len .mono (A.fL .poly 0 .mono x5.2.2.1))) (A.bd .mono (A.fL .poly 0 .mono x5.2.2.1) x5.2.1<|
 A.cl SA SB (x5.1,A.get .mono (A.fL .poly 0 .mono x5.2.2.1) x5.2.1,()) fun x6=>
 A.l1 .i (A.arith .add .i64 x5.2.1 (A.lit 1)) fun x7=>
 A.inl _ (x6.1,x7.1,x5.2.2.1,()))<|
 A.inr _<|A.cl SE SF (x5.1,()) fun x6=>
 A.l1 .b x6.1 fun x7=>
 A.ret _ (x7.1,x6.2.1,())) (x3.1,x4.1,x.2.1,())
def Gu (A:Alg) (bZ:Pt A bR) (cu:Ft A bR) (x:Tup A.ah [.i]):Ot A jQ:=
 A.cl bZ cu (x.1,A.lit 0,A.lit 199,()) fun x0=>
 A.cond (A.aA x0.1) (A.ret _ (A.bC .mono,()))<|
 A.l1 (.l .i64) (A.lst .i64 [A.mkX .i64 (x.1,())]) fun x1=>
 A.l1 (.l .mono) (A.lst .mono [A.mkX .mono (A.lit 1,x1.1,())]) fun x2=>
 A.ret _ (x2.1,())
def Gw (A:Alg) (x:Tup A.ah [.l .i64,.l .i64]):Ot A BG:=
 A.l1 (.l .i64) (A.lst .i64 []) fun x0=>
 A.l1 .i (A.lit 0) fun x1=>
 A.l1 .i (A.lit 0) fun x2=>
 A.iter [.l .i64,.l .i64,.i,.i,.l .i64] (fun x3=>
 A.cond (A.cmp .lss x3.2.2.2.1 (A.len .i64 x3.2.1)) (A.iter [.l .i64,.l .i64,.i,.i,.l .i64] (fun x4=>
 A.chk (A.orB (A.aA (A.cmp .lss x4.2.2.1 (A.len .i64 x4.1))) (A.cmp .leq (A.lit 0) x4.2.2.1))<|
 A.chk (A.orB (A.aA (A.cmp .lss x4.2.2.1 (A.len .i64 x4.1))) (A.cmp .lss x4.2.2.1 (A.len .i64 x4.1)))<|
 A.chk (A.orB (A.aA (A.cmp .lss x4.2.2.1 (A.len .i64 x4.1))) (A.cmp .leq (A.lit 0) x4.2.2.2.1))<|
 A.chk (A.orB (A.aA (A.cmp .lss x4.2.2.1 (A.len .i64 x4.1))) (A.cmp .lss x4.2.2.2.1 (A.len .i64 x4.2.1)))<|
 A.cond (A.au (A.cmp .lss x4.2.2.1 (A.len .i64 x4.1)) (A.cmp .leq (A.fI .i64 0 (A.get .i64 x4.1 x4.2.2.1)) (A.fI .i64 0 (A.get .i64 x4.2.1 x4.2.2.2.1))) (A.bl false)) (A.bd .i64 x4.1 x4.2.2.1<|
 A.l1 (.l .i64) (A.lst .i64 [A.mkX .i64 (A.fI .i64 0 (A.get .i64 x4.1 x4.2.2.1),())]) fun x5=>
 A.chk (A.cmp .leq (A.addN (A.len .i64 x4.q.1) (A.len .i64 x5.1)) (A.lit 1073741824))<|
 A.l1 (.l .i64) (A.app .i64 x4.q.1 x5.1) fun x6=>
 A.l1 .i (A.arith .add .i64 x4.2.2.1 (A.lit 1)) fun x7=>
 A.inl _ (x4.1,x4.2.1,x7.1,x4.2.2.2.1,x6.1,()))<|
 A.inr _<|A.bd .i64 x4.2.1 x4.2.2.2.1<|
 A.l1 (.l .i64) (A.lst .i64 [A.mkX .i64 (A.fI .i64 0 (A.get .i64 x4.2.1 x4.2.2.2.1),())]) fun x5=>
 A.chk (A.cmp .leq (A.addN (A.len .i64 x4.q.1) (A.len .i64 x5.1)) (A.lit 1073741824))<|
 A.l1 (.l .i64) (A.app .i64 x4.q.1 x5.1) fun x6=>
 A.l1 .i (A.arith .add .i64 x4.2.2.2.1 (A.lit 1)) fun x7=>
 A.inl _ (x4.1,x4.2.1,x4.2.2.1,x7.1,x6.1,())) (x3.1,x3.2.1,x3.2.2.1,x3.2.2.2.1,x3.q.1,()))<|
 A.inr _<|A.chk (A.cmp .leq (A.lit 0) x3.2.2.1)<|
 A.chk (A.cmp .leq x3.2.2.1 (A.len .i64 x3.1))<|
 A.chk (A.cmp .leq (A.len .i64 x3.1) (A.len .i64 x3.1))<|
 A.chk (A.cmp .leq (A.addN (A.len .i64 x3.q.1) (A.len .i64 (A.sub .i64 x3.1 x3.2.2.1 (A.len .i64 x3.1)))) (A.lit 1073741824))<|
 A.l1 (.l .i64) (A.app .i64 x3.q.1 (A.sub .i64 x3.1 x3.2.2.1 (A.len .i64 x3.1))) fun x4=>
 A.ret _ (x4.1,())) (x.1,x.2.1,x1.1,x2.1,x0.1,())
def Gx (A:Alg) (jT:Pt A gB) (jU:Ft A gB) (uU:Pt A jP) (uV:Ft A jP) (SA:Pt A uj) (SB:Ft A uj) (aiP:Pt A BG) (aiQ:Ft A BG) (SE:Pt A um) (SF:Ft A um) (x:Tup A.ah [.x .poly,.x .poly]):Ot A uw:=
 A.l1 .b (A.bl false) fun x0=>
 A.cl jT jU (x.1,()) fun x1=>
 A.cg (A.aA (A.aA x1.1)) jT jU (x.2.1,()) fun x2=>
 A.cond (A.au (A.aA x1.1) (A.bl true) (A.aA x2.1)) (A.l1 .b (A.bl false) fun x3=>
 A.ret _ (x3.1,A.bC .mono,()))<|
 A.l1 (.l .mono) (A.lst .mono []) fun x3=>
 A.l1 .i (A.lit 0) fun x4=>
 A.iter [.i,.x .poly,.x .poly,.l .mono] (fun x5=>
 A.cond (A.cmp .lss x5.1 (A.len .mono (A.fL .poly 0 .mono x5.2.1))) (A.l1 .i (A.lit 0) fun x6=>
 A.iter [.i,.i,.x .poly,.x .poly,.l .mono] (fun x7=>
 A.cond (A.cmp .lss x7.2.1 (A.len .mono (A.fL .poly 0 .mono x7.2.2.2.1))) (A.bd .mono (A.fL .poly 0 .mono x7.2.2.1) x7.1<|
 A.bd .mono (A.fL .poly 0 .mono x7.2.2.2.1) x7.2.1<|
 A.cl uU uV (A.arith .mul .i64 (A.fI .mono 0 (A.get .mono (A.fL .poly 0 .mono x7.2.2.1) x7.1)) (A.fI .mono 0 (A.get .mono (A.fL .poly 0 .mono x7.2.2.2.1) x7.2.1)),()) fun x8=>
 A.l1 .i x8.1 fun x9=>
 A.bind [.i,.i,.x .poly,.x .poly,.l .mono] (A.cond (A.cmp .gtr x9.1 (A.lit 0)) (A.bd .mono (A.fL .poly 0 .mono x7.2.2.1) x7.1<|
 A.bd .mono (A.fL .poly 0 .mono x7.2.2.2.1) x7.2.1<|
 A.cl aiP aiQ (A.fL .mono 1 .i64 (A.get .mono (A.fL .poly 0 .mono x7.2.2.1) x7.1),A.fL .mono 1 .i64 (A.get .mono (A.fL .poly 0 .mono x7.2.2.2.1) x7.2.1),()) fun x10=>
 A.cl SA SB (x7.q.1,A.mkX .mono (x9.1,x10.1,()),()) fun x11=>
 A.ret _ (x7.1,x7.2.1,x7.2.2.1,x7.2.2.2.1,x11.1,()))<|
 A.ret _ (x7.1,x7.2.1,x7.2.2.1,x7.2.2.2.1,x7.q.1,())) fun x10=>
 A.l1 .i (A.arith .add .i64 x10.2.1 (A.lit 1)) fun x11=>
 A.inl _ (x10.1,x11.1,x10.2.2.1,x10.2.2.2.1,x10.q.1,()))<|
 A.inr _<|A.l1 .i (A.arith .add .i64 x7.1 (A.lit 1)) fun x8=>
 A.inl _ (x8.1,x7.2.2.1,x7.2.2.2.1,x7.q.1,())) (x5.1,x6.1,x5.2.1,x5.2.2.1,x5.2.2.2.1,()))<|
 A.inr _<|A.cl SE SF (x5.2.2.2.1,()) fun x6=>
 A.l1 .b x6.1 fun x7=>
 A.ret _ (x7.1,x6.2.1,())) (x4.1,x.1,x.2.1,x3.1,())
def Gy (A:Alg) (aO:Pt A bY) (aP:Ft A bY) (zm:Pt A jQ) (zn:Ft A jQ) (SG:Pt A uw) (SH:Ft A uw) (Mr:Pt A uo) (Ms:Ft A uo) (SK:Pt A ug) (SL:Ft A ug) (Y8:Pt A BD) (Y9:Ft A BD) (x:Tup A.ah [.i,.l .u8,.i]):Ot A BH:=
 A.cl Y8 Y9 (x.2.1,x.2.2.1,()) fun x0=>
 A.l1 (.l .i64) (A.lst .i64 [A.mkX .i64 (A.lit 0,()),A.mkX .i64 (A.lit 1,()),A.mkX .i64 (x0.1,())]) fun x1=>
 A.cl aO aP (A.lit 3,x0.2.1,x0.2.2.1,()) fun x2=>
 A.bd .i64 x1.1 x2.1<|
 A.bd .i64 x1.1 x2.1<|
 A.cl SK SL (A.fI .i64 0 (A.get .i64 x1.1 x2.1),()) fun x3=>
 A.l1 (.l .i64) (A.lst .i64 [A.mkX .i64 (A.lit 0,()),A.mkX .i64 (A.lit 1,()),A.mkX .i64 (A.lit 2,()),A.mkX .i64 (A.lit 3,()),A.mkX .i64 (A.lit 6,()),A.mkX .i64 (A.lit 12,())]) fun x4=>
 A.cl aO aP (A.lit 6,x2.2.1,x2.2.2.1,()) fun x5=>
 A.bd .i64 x4.1 x5.1<|
 A.bd .i64 x4.1 x5.1<|
 A.l1 .i (A.fI .i64 0 (A.get .i64 x4.1 x5.1)) fun x6=>
 A.iter [.i,.i,.l .u8,.i,.l .mono] (fun x7=>
 A.cond (A.cmp .gtr x7.2.1 (A.lit 0)) (A.cl Y8 Y9 (x7.2.2.1,x7.2.2.2.1,()) fun x8=>
 A.chk (A.cmp .neq (A.lit 65535) (A.lit 0))<|
 A.l1 (.l .mono) (A.lst .mono [A.mkX .mono (A.arith .add .i64 (A.lit 1) (A.arith .rem .i64 x8.1 (A.lit 65535)),A.bC .i64,())]) fun x9=>
 A.cl aO aP (A.lit 3,x8.2.1,x8.2.2.1,()) fun x10=>
 A.l1 .i x10.1 fun x11=>
 A.iter [.i,.i,.i,.l .u8,.i,.l .mono,.l .mono] (fun x12=>
 A.cond (A.au (A.cmp .gtr x12.2.2.1 (A.lit 0)) (A.cmp .gtr x12.1 (A.lit 0)) (A.bl false)) (A.cl aO aP (x12.1,x12.2.2.2.1,x12.q.1,()) fun x13=>
 A.cl zm zn (x13.1,()) fun x14=>
 A.cl SG SH (A.mkX .poly (x12.q.2.2.1,()),A.mkX .poly (x14.1,()),()) fun x15=>
 A.l1 .b x15.1 fun x16=>
 A.bind [.i,.i,.i,.l .u8,.i,.l .mono,.l .mono] (A.cond x16.1 (A.ret _ (x12.1,x12.2.1,x12.2.2.1,x13.2.1,x13.2.2.1,x12.q.2.1,x15.2.1,()))<|
 A.ret _ (x12.1,x12.2.1,x12.2.2.1,x13.2.1,x13.2.2.1,x12.q.2.1,x12.q.2.2.1,())) fun x17=>
 A.l1 .i (A.arith .sub .i64 x17.2.2.1 (A.lit 1)) fun x18=>
 A.inl _ (x17.1,x17.2.1,x18.1,x17.2.2.2.1,x17.q.1,x17.q.2.1,x17.q.2.2.1,()))<|
 A.inr _<|A.cl Mr Ms (A.mkX .poly (x12.q.2.1,()),A.mkX .poly (x12.q.2.2.1,()),()) fun x13=>
 A.l1 .b x13.1 fun x14=>
 A.bind [.i,.i,.l .u8,.i,.l .mono] (A.cond x14.1 (A.ret _ (x12.1,x12.2.1,x12.2.2.2.1,x12.q.1,x13.2.1,()))<|
 A.ret _ (x12.1,x12.2.1,x12.2.2.2.1,x12.q.1,x12.q.2.1,())) fun x15=>
 A.l1 .i (A.arith .sub .i64 x15.2.1 (A.lit 1)) fun x16=>
 A.inl _ (x15.1,x16.1,x15.2.2.1,x15.2.2.2.1,x15.q.1,())) (x7.1,x7.2.1,x11.1,x10.2.1,x10.2.2.1,x7.q.1,x9.1,()))<|
 A.inr _<|A.ret _ (x7.2.2.1,x7.2.2.2.1,x7.q.1,())) (x.1,x6.1,x5.2.1,x5.2.2.1,x3.1,())
def Gz (A:Alg) (x:Tup A.ah [.i]):Ot A jR:=
 A.l1 .b (A.bl false) fun x0=>
 A.rb (A.au (A.cmp .geq x.1 (A.lit 0)) (A.cmp .lss x.1 (A.lit 65536)) (A.bl false))
def GA (A:Alg) (jT:Pt A gB) (jU:Ft A gB) (uU:Pt A jP) (uV:Ft A jP) (o7:Pt A je) (o8:Ft A je) (uW:Pt A jR) (uX:Ft A jR) (x:Tup A.ah [.x .poly,.i]):Ot A BI:=
 A.cl jT jU (x.1,()) fun x0=>
 A.cg (A.aA (A.aA x0.1)) uW uX (x.2.1,()) fun x1=>
 A.cond (A.au (A.aA x0.1) (A.bl true) (A.aA x1.1)) (A.ret _ (A.bC .mono,()))<|
 A.l1 (.l .mono) (A.lst .mono []) fun x2=>
 A.l1 .i (A.lit 0) fun x3=>
 A.iter [.i,.i,.x .poly,.l .mono] (fun x4=>
 A.cond (A.cmp .lss x4.2.1 (A.len .mono (A.fL .poly 0 .mono x4.2.2.1))) (A.bd .mono (A.fL .poly 0 .mono x4.2.2.1) x4.2.1<|
 A.cl uU uV (A.arith .mul .i64 (A.fI .mono 0 (A.get .mono (A.fL .poly 0 .mono x4.2.2.1) x4.2.1)) x4.1,()) fun x5=>
 A.l1 .i x5.1 fun x6=>
 A.bind [.i,.i,.x .poly,.l .mono] (A.cond (A.cmp .gtr x6.1 (A.lit 0)) (A.bd .mono (A.fL .poly 0 .mono x4.2.2.1) x4.2.1<|
 A.l1 (.l .mono) (A.lst .mono [A.mkX .mono (x6.1,A.fL .mono 1 .i64 (A.get .mono (A.fL .poly 0 .mono x4.2.2.1) x4.2.1),())]) fun x7=>
 A.chk (A.cmp .leq (A.addN (A.len .mono x4.2.2.2.1) (A.len .mono x7.1)) (A.lit 1073741824))<|
 A.l1 (.l .mono) (A.app .mono x4.2.2.2.1 x7.1) fun x8=>
 A.ret _ (x4.1,x4.2.1,x4.2.2.1,x8.1,()))<|
 A.ret _ (x4.1,x4.2.1,x4.2.2.1,x4.2.2.2.1,())) fun x7=>
 A.l1 .i (A.arith .add .i64 x7.2.1 (A.lit 1)) fun x8=>
 A.inl _ (x7.1,x8.1,x7.2.2.1,x7.2.2.2.1,()))<|
 A.inr _<|A.cl o7 o8 (x4.2.2.2.1,()) fun x5=>
 A.ret _ (x5.1,())) (x.2.1,x3.1,x.1,x2.1,())
def GD (A:Alg) (zm:Pt A jQ) (zn:Ft A jQ) (x:Tup A.ah []):Ot A BJ:=
 A.l1 (.l .poly) (A.lst .poly []) fun x0=>
 A.l1 .i (A.lit 0) fun x1=>
 A.iter [.i,.l .poly,.l .atom] (fun x2=>
 A.cond (A.cmp .lss x2.1 (A.lit 4)) (A.l1 (.l .atom) (A.lst .atom [A.mkX .atom (A.lit 1,x2.1,A.bC .mono,A.bC .mono,())]) fun x3=>
 A.chk (A.cmp .leq (A.addN (A.len .atom x2.2.2.1) (A.len .atom x3.1)) (A.lit 1073741824))<|
 A.l1 (.l .atom) (A.app .atom x2.2.2.1 x3.1) fun x4=>
 A.cl zm zn (x2.1,()) fun x5=>
 A.l1 (.l .poly) (A.lst .poly [A.mkX .poly (x5.1,())]) fun x6=>
 A.chk (A.cmp .leq (A.addN (A.len .poly x2.2.1) (A.len .poly x6.1)) (A.lit 1073741824))<|
 A.l1 (.l .poly) (A.app .poly x2.2.1 x6.1) fun x7=>
 A.l1 .i (A.arith .add .i64 x2.1 (A.lit 1)) fun x8=>
 A.inl _ (x8.1,x7.1,x4.1,()))<|
 A.inr _<|A.ret _ (x2.2.2.1,x2.2.1,())) (x1.1,x0.1,A.bC .atom,())
def GH (A:Alg) (jT:Pt A gB) (jU:Ft A gB) (x:Tup A.ah [.x .poly]):Ot A BK:=
 A.l1 .i (A.lit 0) fun x0=>
 A.l1 .b (A.bl false) fun x1=>
 A.cl jT jU (x.1,()) fun x2=>
 A.cond (A.aA x2.1) (A.l1 .i (A.lit 0) fun x3=>
 A.l1 .b (A.bl false) fun x4=>
 A.ret _ (x3.1,x4.1,()))<|
 A.cond (A.cmp .eql (A.len .mono (A.fL .poly 0 .mono x.1)) (A.lit 0)) (A.l1 .i (A.lit 0) fun x3=>
 A.l1 .b (A.bl true) fun x4=>
 A.ret _ (x3.1,x4.1,()))<|
 A.chk (A.orB (A.aA (A.aA (A.cmp .gtr (A.len .mono (A.fL .poly 0 .mono x.1)) (A.lit 1)))) (A.cmp .leq (A.lit 0) (A.lit 0)))<|
 A.chk (A.orB (A.aA (A.aA (A.cmp .gtr (A.len .mono (A.fL .poly 0 .mono x.1)) (A.lit 1)))) (A.cmp .lss (A.lit 0) (A.len .mono (A.fL .poly 0 .mono x.1))))<|
 A.cond (A.au (A.cmp .gtr (A.len .mono (A.fL .poly 0 .mono x.1)) (A.lit 1)) (A.bl true) (A.cmp .gtr (A.len .i64 (A.fL .mono 1 .i64 (A.get .mono (A.fL .poly 0 .mono x.1) (A.lit 0)))) (A.lit 0))) (A.l1 .i (A.lit 0) fun x3=>
 A.l1 .b (A.bl false) fun x4=>
 A.ret _ (x3.1,x4.1,()))<|
 A.bd .mono (A.fL .poly 0 .mono x.1) (A.lit 0)<|
 A.l1 .i (A.fI .mono 0 (A.get .mono (A.fL .poly 0 .mono x.1) (A.lit 0))) fun x3=>
 A.l1 .b (A.bl true) fun x4=>
 A.ret _ (x3.1,x4.1,())
def GI (A:Alg) (Gm:Pt A mU) (Gn:Ft A mU) (x:Tup A.ah [.x .poly,.x .poly]):Ot A mV:=
 A.l1 .i (A.lit 0) fun x0=>
 A.cond (A.cmp .neq (A.len .mono (A.fL .poly 0 .mono x.1)) (A.len .mono (A.fL .poly 0 .mono x.2.1))) (A.cond (A.cmp .lss (A.len .mono (A.fL .poly 0 .mono x.1)) (A.len .mono (A.fL .poly 0 .mono x.2.1))) (A.l1 .i (A.lit (-1)) fun x1=>
 A.ret _ (x1.1,()))<|
 A.l1 .i (A.lit 1) fun x1=>
 A.ret _ (x1.1,()))<|
 A.l1 .i (A.lit 0) fun x1=>
 A.iter [.i,.x .poly,.x .poly] (fun x2=>
 A.cond (A.cmp .lss x2.1 (A.len .mono (A.fL .poly 0 .mono x2.2.1))) (A.bd .mono (A.fL .poly 0 .mono x2.2.1) x2.1<|
 A.bd .mono (A.fL .poly 0 .mono x2.2.2.1) x2.1<|
 A.cl Gm Gn (A.fL .mono 1 .i64 (A.get .mono (A.fL .poly 0 .mono x2.2.1) x2.1),A.fL .mono 1 .i64 (A.get .mono (A.fL .poly 0 .mono x2.2.2.1) x2.1),()) fun x3=>
 A.l1 .i x3.1 fun x4=>
 A.cond (A.cmp .neq x4.1 (A.lit 0)) (A.l1 .i x4.1 fun x5=>
 A.inr _<|A.ret _ (x5.1,()))<|
 A.bd .mono (A.fL .poly 0 .mono x2.2.1) x2.1<|
 A.bd .mono (A.fL .poly 0 .mono x2.2.2.1) x2.1<|
 A.cond (A.cmp .neq (A.fI .mono 0 (A.get .mono (A.fL .poly 0 .mono x2.2.1) x2.1)) (A.fI .mono 0 (A.get .mono (A.fL .poly 0 .mono x2.2.2.1) x2.1))) (A.bd .mono (A.fL .poly 0 .mono x2.2.1) x2.1<|
 A.bd .mono (A.fL .poly 0 .mono x2.2.2.1) x2.1<|
 A.cond (A.cmp .lss (A.fI .mono 0 (A.get .mono (A.fL .poly 0 .mono x2.2.1) x2.1)) (A.fI .mono 0 (A.get .mono (A.fL .poly 0 .mono x2.2.2.1) x2.1))) (A.l1 .i (A.lit (-1)) fun x5=>
 A.inr _<|A.ret _ (x5.1,()))<|
 A.l1 .i (A.lit 1) fun x5=>
 A.inr _<|A.ret _ (x5.1,()))<|
 A.l1 .i (A.arith .add .i64 x2.1 (A.lit 1)) fun x5=>
 A.inl _ (x5.1,x2.2.1,x2.2.2.1,()))<|
 A.inr _<|A.l1 .i (A.lit 0) fun x3=>
 A.ret _ (x3.1,())) (x1.1,x.1,x.2.1,())
def GJ (A:Alg) (bZ:Pt A bR) (cu:Ft A bR) (x:Tup A.ah [.i]):Ot A BL:=
 A.l1 .b (A.bl false) fun x0=>
 A.cl bZ cu (x.1,A.lit 1,A.lit 4,()) fun x1=>
 A.rb (A.au x1.1 (A.bl true) (A.cmp .eql x.1 (A.lit 6)))
def GK (A:Alg) (aiR:Pt A BL) (aiS:Ft A BL) (x:Tup A.ah [.l .iop,.i,.i]):Ot A uz:=
 A.l1 .b (A.bl false) fun x0=>
 A.chk (A.orB (A.aA (A.au (A.cmp .geq x.2.1 (A.lit 0)) (A.cmp .lss x.2.1 x.2.2.1) (A.bl false))) (A.cmp .leq (A.lit 0) x.2.1))<|
 A.chk (A.orB (A.aA (A.au (A.cmp .geq x.2.1 (A.lit 0)) (A.cmp .lss x.2.1 x.2.2.1) (A.bl false))) (A.cmp .lss x.2.1 (A.len .iop x.1)))<|
 A.cg (A.au (A.cmp .geq x.2.1 (A.lit 0)) (A.cmp .lss x.2.1 x.2.2.1) (A.bl false)) aiR aiS (A.fI .iop 0 (A.get .iop x.1 x.2.1),()) fun x1=>
 A.rb (A.au (A.au (A.cmp .geq x.2.1 (A.lit 0)) (A.cmp .lss x.2.1 x.2.2.1) (A.bl false)) x1.1 (A.bl false))
def GL (A:Alg) (uW:Pt A jR) (uX:Ft A jR) (bZ:Pt A bR) (cu:Ft A bR) (o9:Pt A uz) (pq:Ft A uz) (x:Tup A.ah [.l .iop,.i,.i]):Ot A BM:=
 A.l1 .b (A.bl false) fun x0=>
 A.bd .iop x.1 x.2.1<|
 A.l1 (.x .iop) (A.get .iop x.1 x.2.1) fun x1=>
 A.l1 .b (A.cmp .eql (A.fI .iop 0 x1.1) (A.lit 1)) fun x2=>
 A.cond x2.1 (A.cg (A.au (A.cmp .eql (A.fI .iop 1 x1.1) (A.lit 0)) (A.cmp .eql (A.fI .iop 2 x1.1) (A.lit 0)) (A.bl false)) uW uX (A.fI .iop 3 x1.1,()) fun x3=>
 A.rb (A.au (A.au (A.au (A.cmp .eql (A.fI .iop 1 x1.1) (A.lit 0)) (A.cmp .eql (A.fI .iop 2 x1.1) (A.lit 0)) (A.bl false)) x3.1 (A.bl false)) (A.cmp .eql (A.fI .iop 4 x1.1) (A.lit 0)) (A.bl false)))<|
 A.l1 .b (A.cmp .eql (A.fI .iop 0 x1.1) (A.lit 2)) fun x3=>
 A.cond x3.1 (A.cg (A.au (A.cmp .eql (A.fI .iop 1 x1.1) (A.lit 0)) (A.cmp .eql (A.fI .iop 2 x1.1) (A.lit 0)) (A.bl false)) bZ cu (A.fI .iop 3 x1.1,A.lit 0,A.lit 3,()) fun x4=>
 A.rb (A.au (A.au (A.au (A.cmp .eql (A.fI .iop 1 x1.1) (A.lit 0)) (A.cmp .eql (A.fI .iop 2 x1.1) (A.lit 0)) (A.bl false)) x4.1 (A.bl false)) (A.cmp .eql (A.fI .iop 4 x1.1) (A.lit 0)) (A.bl false)))<|
 A.l1 .b (A.cmp .eql (A.fI .iop 0 x1.1) (A.lit 3)) fun x4=>
 A.cond x4.1 (A.cl o9 pq (x.1,A.fI .iop 1 x1.1,x.2.1,()) fun x5=>
 A.cg x5.1 o9 pq (x.1,A.fI .iop 2 x1.1,x.2.1,()) fun x6=>
 A.cg (A.au x5.1 x6.1 (A.bl false)) bZ cu (A.fI .iop 3 x1.1,A.lit 1,A.lit 5,()) fun x7=>
 A.rb (A.au (A.au (A.au x5.1 x6.1 (A.bl false)) x7.1 (A.bl false)) (A.cmp .eql (A.fI .iop 4 x1.1) (A.lit 0)) (A.bl false)))<|
 A.l1 .b (A.cmp .eql (A.fI .iop 0 x1.1) (A.lit 4)) fun x5=>
 A.bind [.l .iop,.i,.i,.i,.b,.x .iop] (A.cond x5.1 (A.ret _ (x.1,x.2.1,x.2.2.1,A.fI .iop 0 x1.1,x5.1,x1.1,()))<|
 A.l1 .b (A.cmp .eql (A.fI .iop 0 x1.1) (A.lit 7)) fun x6=>
 A.ret _ (x.1,x.2.1,x.2.2.1,A.fI .iop 0 x1.1,x6.1,x1.1,())) fun x6=>
 A.cond x6.q.1 (A.cl o9 pq (x6.1,A.fI .iop 1 x6.q.2.1,x6.2.1,()) fun x7=>
 A.cg (A.au (A.au x7.1 (A.cmp .eql (A.fI .iop 2 x6.q.2.1) (A.lit 0)) (A.bl false)) (A.cmp .eql (A.fI .iop 3 x6.q.2.1) (A.lit 0)) (A.bl false)) bZ cu (A.fI .iop 4 x6.q.2.1,A.lit 0,A.arith .sub .i64 x6.2.2.1 (A.lit 1),()) fun x8=>
 A.rb (A.au (A.au (A.au x7.1 (A.cmp .eql (A.fI .iop 2 x6.q.2.1) (A.lit 0)) (A.bl false)) (A.cmp .eql (A.fI .iop 3 x6.q.2.1) (A.lit 0)) (A.bl false)) x8.1 (A.bl false)))<|
 A.l1 .b (A.cmp .eql x6.2.2.2.1 (A.lit 5)) fun x7=>
 A.cond x7.1 (A.cl o9 pq (x6.1,A.fI .iop 1 x6.q.2.1,x6.2.1,()) fun x8=>
 A.cg x8.1 o9 pq (x6.1,A.fI .iop 2 x6.q.2.1,x6.2.1,()) fun x9=>
 A.cg (A.au (A.au x8.1 x9.1 (A.bl false)) (A.cmp .eql (A.fI .iop 3 x6.q.2.1) (A.lit 0)) (A.bl false)) bZ cu (A.fI .iop 4 x6.q.2.1,A.lit 0,A.arith .sub .i64 x6.2.2.1 (A.lit 1),()) fun x10=>
 A.rb (A.au (A.au (A.au x8.1 x9.1 (A.bl false)) (A.cmp .eql (A.fI .iop 3 x6.q.2.1) (A.lit 0)) (A.bl false)) x10.1 (A.bl false)))<|
 A.l1 .b (A.cmp .eql x6.2.2.2.1 (A.lit 6)) fun x8=>
 A.cond x8.1 (A.cg (A.au (A.au (A.cmp .eql (A.fI .iop 1 x6.q.2.1) (A.lit 0)) (A.cmp .eql (A.fI .iop 2 x6.q.2.1) (A.lit 0)) (A.bl false)) (A.cmp .eql (A.fI .iop 3 x6.q.2.1) (A.lit 0)) (A.bl false)) bZ cu (A.fI .iop 4 x6.q.2.1,A.lit 0,A.arith .sub .i64 x6.2.2.1 (A.lit 1),()) fun x9=>
 A.rb (A.au (A.au (A.au (A.cmp .eql (A.fI .iop 1 x6.q.2.1) (A.lit 0)) (A.cmp .eql (A.fI .iop 2 x6.q.2.1) (A.lit 0)) (A.bl false)) (A.cmp .eql (A.fI .iop 3 x6.q.2.1) (A.lit 0)) (A.bl false)) x9.1 (A.bl false)))<|
 A.l1 .b (A.cmp .eql x6.2.2.2.1 (A.lit 8)) fun x9=>
 A.cond x9.1 (A.cl o9 pq (x6.1,A.fI .iop 1 x6.q.2.1,x6.2.1,()) fun x10=>
 A.cg (A.au x10.1 (A.cmp .eql (A.fI .iop 2 x6.q.2.1) (A.lit 0)) (A.bl false)) bZ cu (A.fI .iop 3 x6.q.2.1,A.lit 0,A.lit 3,()) fun x11=>
 A.rb (A.au (A.au (A.au x10.1 (A.cmp .eql (A.fI .iop 2 x6.q.2.1) (A.lit 0)) (A.bl false)) x11.1 (A.bl false)) (A.cmp .eql (A.fI .iop 4 x6.q.2.1) (A.lit 0)) (A.bl false)))<|
 A.rb (A.bl false)
def GN (A:Alg) (uW:Pt A jR) (uX:Ft A jR) (o9:Pt A uz) (pq:Ft A uz) (x:Tup A.ah [.x .blk]):Ot A BN:=
 A.l1 .b (A.bl false) fun x0=>
 A.l1 .i (A.len .iop (A.fL .blk 2 .iop x.1)) fun x1=>
 A.l1 .b (A.cmp .eql (A.fI .blk 3 x.1) (A.lit 1)) fun x2=>
 A.cond x2.1 (A.cg (A.au (A.cmp .eql (A.fI .blk 4 x.1) (A.lit 0)) (A.cmp .eql (A.fI .blk 5 x.1) (A.lit 0)) (A.bl false)) uW uX (A.fI .blk 6 x.1,()) fun x3=>
 A.rb (A.au (A.au (A.cmp .eql (A.fI .blk 4 x.1) (A.lit 0)) (A.cmp .eql (A.fI .blk 5 x.1) (A.lit 0)) (A.bl false)) x3.1 (A.bl false)))<|
 A.l1 .b (A.cmp .eql (A.fI .blk 3 x.1) (A.lit 2)) fun x3=>
 A.cond x3.1 (A.cl o9 pq (A.fL .blk 2 .iop x.1,A.fI .blk 4 x.1,x1.1,()) fun x4=>
 A.rb (A.au (A.au x4.1 (A.cmp .eql (A.fI .blk 5 x.1) (A.lit 0)) (A.bl false)) (A.cmp .eql (A.fI .blk 6 x.1) (A.lit 0)) (A.bl false)))<|
 A.l1 .b (A.cmp .eql (A.fI .blk 3 x.1) (A.lit 3)) fun x4=>
 A.bind [.i,.b,.x .blk] (A.cond x4.1 (A.ret _ (x1.1,x4.1,x.1,()))<|
 A.l1 .b (A.cmp .eql (A.fI .blk 3 x.1) (A.lit 4)) fun x5=>
 A.ret _ (x1.1,x5.1,x.1,())) fun x5=>
 A.cond x5.2.1 (A.cl o9 pq (A.fL .blk 2 .iop x5.2.2.1,A.fI .blk 4 x5.2.2.1,x5.1,()) fun x6=>
 A.cg x6.1 o9 pq (A.fL .blk 2 .iop x5.2.2.1,A.fI .blk 5 x5.2.2.1,x5.1,()) fun x7=>
 A.cg (A.au x6.1 x7.1 (A.bl false)) uW uX (A.fI .blk 6 x5.2.2.1,()) fun x8=>
 A.rb (A.au (A.au x6.1 x7.1 (A.bl false)) x8.1 (A.bl false)))<|
 A.rb (A.bl false)
def GQ (A:Alg) (bZ:Pt A bR) (cu:Ft A bR) (aiT:Pt A BN) (aiU:Ft A BN) (aiV:Pt A BM) (aiW:Ft A BM) (x:Tup A.ah [.x .blk]):Ot A jf:=
 A.l1 .b (A.bl false) fun x0=>
 A.cl bZ cu (A.fI .blk 1 x.1,A.lit 1,A.lit 8,()) fun x1=>
 A.cg (A.aA (A.aA x1.1)) bZ cu (A.fI .blk 0 x.1,A.lit 0,A.arith .sub .i64 (A.lit 64) (A.fI .blk 1 x.1),()) fun x2=>
 A.cond (A.au (A.au (A.aA x1.1) (A.bl true) (A.aA x2.1)) (A.bl true) (A.cmp .gtr (A.len .iop (A.fL .blk 2 .iop x.1)) (A.lit 48))) (A.rb (A.bl false))<|
 A.l1 .i (A.lit 0) fun x3=>
 A.iter [.i,.x .blk] (fun x4=>
 A.cond (A.cmp .lss x4.1 (A.len .iop (A.fL .blk 2 .iop x4.2.1))) (A.cl aiV aiW (A.fL .blk 2 .iop x4.2.1,x4.1,A.fI .blk 1 x4.2.1,()) fun x5=>
 A.cond (A.aA x5.1) (A.l1 .b (A.bl false) fun x6=>
 A.inr _<|A.ret _ (x6.1,()))<|
 A.l1 .i (A.arith .add .i64 x4.1 (A.lit 1)) fun x6=>
 A.inl _ (x6.1,x4.2.1,()))<|
 A.inr _<|A.cl aiT aiU (x4.2.1,()) fun x5=>
 A.rb x5.1) (x3.1,x.1,())
def GU (A:Alg) (x:Tup A.ah [.x .atom]):Ot A BO:=
 A.l1 .b (A.bl false) fun x0=>
 A.rb (A.au (A.cmp .eql (A.len .mono (A.fL .atom 2 .mono x.1)) (A.lit 0)) (A.cmp .eql (A.len .mono (A.fL .atom 3 .mono x.1)) (A.lit 0)) (A.bl false))
def GV (A:Alg) (x:Tup A.ah [.x .poly,.i]):Ot A uD:=
 A.l1 .b (A.bl false) fun x0=>
 A.l1 .i (A.lit 0) fun x1=>
 A.iter [.i,.i,.x .poly] (fun x2=>
 A.cond (A.cmp .lss x2.2.1 (A.len .mono (A.fL .poly 0 .mono x2.2.2.1))) (A.l1 .i (A.lit 0) fun x3=>
 A.iter [.i,.i,.i,.x .poly] (fun x4=>
 A.bd .mono (A.fL .poly 0 .mono x4.2.2.2.1) x4.2.1<|
 A.cond (A.cmp .lss x4.2.2.1 (A.len .i64 (A.fL .mono 1 .i64 (A.get .mono (A.fL .poly 0 .mono x4.2.2.2.1) x4.2.1)))) (A.bd .mono (A.fL .poly 0 .mono x4.2.2.2.1) x4.2.1<|
 A.bd .i64 (A.fL .mono 1 .i64 (A.get .mono (A.fL .poly 0 .mono x4.2.2.2.1) x4.2.1)) x4.2.2.1<|
 A.cond (A.cmp .geq (A.fI .i64 0 (A.get .i64 (A.fL .mono 1 .i64 (A.get .mono (A.fL .poly 0 .mono x4.2.2.2.1) x4.2.1)) x4.2.2.1)) x4.1) (A.l1 .b (A.bl false) fun x5=>
 A.inr _<|A.inr _<|A.ret _ (x5.1,()))<|
 A.l1 .i (A.arith .add .i64 x4.2.2.1 (A.lit 1)) fun x5=>
 A.inl _ (x4.1,x4.2.1,x5.1,x4.2.2.2.1,()))<|
 A.inr _<|A.l1 .i (A.arith .add .i64 x4.2.1 (A.lit 1)) fun x5=>
 A.inl _ (x4.1,x5.1,x4.2.2.2.1,())) (x2.1,x2.2.1,x3.1,x2.2.2.1,()))<|
 A.inr _<|A.rb (A.bl true)) (x.2.1,x1.1,x.1,())
def GX (A:Alg) (bZ:Pt A bR) (cu:Ft A bR) (jT:Pt A gB) (jU:Ft A gB) (GY:Pt A uD) (GZ:Ft A uD) (Za:Pt A BO) (Zb:Ft A BO) (x:Tup A.ah [.x .atom,.i]):Ot A uE:=
 A.l1 .b (A.bl false) fun x0=>
 A.l1 .b (A.cmp .eql (A.fI .atom 0 x.1) (A.lit 1)) fun x1=>
 A.cond x1.1 (A.cl bZ cu (A.fI .atom 1 x.1,A.lit 0,A.lit 3,()) fun x2=>
 A.cg x2.1 Za Zb (x.1,()) fun x3=>
 A.rb (A.au x2.1 x3.1 (A.bl false)))<|
 A.l1 .b (A.cmp .eql (A.fI .atom 0 x.1) (A.lit 2)) fun x2=>
 A.bind [.i,.i,.b,.x .atom] (A.cond x2.1 (A.ret _ (x.2.1,A.fI .atom 0 x.1,x2.1,x.1,()))<|
 A.l1 .b (A.cmp .eql (A.fI .atom 0 x.1) (A.lit 3)) fun x3=>
 A.ret _ (x.2.1,A.fI .atom 0 x.1,x3.1,x.1,())) fun x3=>
 A.cond x3.2.2.1 (A.cl bZ cu (A.fI .atom 1 x3.2.2.2.1,A.lit 0,A.lit 199,()) fun x4=>
 A.cg x4.1 Za Zb (x3.2.2.2.1,()) fun x5=>
 A.rb (A.au x4.1 x5.1 (A.bl false)))<|
 A.l1 .b (A.cmp .eql x3.2.1 (A.lit 4)) fun x4=>
 A.cond x4.1 (A.cl bZ cu (A.fI .atom 1 x3.2.2.2.1,A.lit 1,A.lit 5,()) fun x5=>
 A.cg x5.1 jT jU (A.mkX .poly (A.fL .atom 2 .mono x3.2.2.2.1,()),()) fun x6=>
 A.cg (A.au x5.1 x6.1 (A.bl false)) jT jU (A.mkX .poly (A.fL .atom 3 .mono x3.2.2.2.1,()),()) fun x7=>
 A.cg (A.au (A.au x5.1 x6.1 (A.bl false)) x7.1 (A.bl false)) GY GZ (A.mkX .poly (A.fL .atom 2 .mono x3.2.2.2.1,()),x3.1,()) fun x8=>
 A.cg (A.au (A.au (A.au x5.1 x6.1 (A.bl false)) x7.1 (A.bl false)) x8.1 (A.bl false)) GY GZ (A.mkX .poly (A.fL .atom 3 .mono x3.2.2.2.1,()),x3.1,()) fun x9=>
 A.rb (A.au (A.au (A.au (A.au x5.1 x6.1 (A.bl false)) x7.1 (A.bl false)) x8.1 (A.bl false)) x9.1 (A.bl false)))<|
 A.rb (A.bl false)
def G5 (A:Alg) (Dh:Pt A mV) (Di:Ft A mV) (x:Tup A.ah [.x .atom,.x .atom]):Ot A uF:=
 A.l1 .b (A.bl false) fun x0=>
 A.cg (A.au (A.cmp .eql (A.fI .atom 0 x.1) (A.fI .atom 0 x.2.1)) (A.cmp .eql (A.fI .atom 1 x.1) (A.fI .atom 1 x.2.1)) (A.bl false)) Dh Di (A.mkX .poly (A.fL .atom 2 .mono x.1,()),A.mkX .poly (A.fL .atom 2 .mono x.2.1,()),()) fun x1=>
 A.cg (A.au (A.au (A.cmp .eql (A.fI .atom 0 x.1) (A.fI .atom 0 x.2.1)) (A.cmp .eql (A.fI .atom 1 x.1) (A.fI .atom 1 x.2.1)) (A.bl false)) (A.cmp .eql x1.1 (A.lit 0)) (A.bl false)) Dh Di (A.mkX .poly (A.fL .atom 3 .mono x.1,()),A.mkX .poly (A.fL .atom 3 .mono x.2.1,()),()) fun x2=>
 A.rb (A.au (A.au (A.au (A.cmp .eql (A.fI .atom 0 x.1) (A.fI .atom 0 x.2.1)) (A.cmp .eql (A.fI .atom 1 x.1) (A.fI .atom 1 x.2.1)) (A.bl false)) (A.cmp .eql x1.1 (A.lit 0)) (A.bl false)) (A.cmp .eql x2.1 (A.lit 0)) (A.bl false))
def G6 (A:Alg) (SN:Pt A uE) (SQ:Ft A uE) (SX:Pt A uF) (SY:Ft A uF) (x:Tup A.ah [.x .tab]):Ot A uG:=
 A.l1 .b (A.bl false) fun x0=>
 A.cond (A.cmp .gtr (A.len .atom (A.fL .tab 0 .atom x.1)) (A.lit 200)) (A.rb (A.bl false))<|
 A.l1 .i (A.lit 0) fun x1=>
 A.iter [.i,.x .tab] (fun x2=>
 A.cond (A.cmp .lss x2.1 (A.len .atom (A.fL .tab 0 .atom x2.2.1))) (A.bd .atom (A.fL .tab 0 .atom x2.2.1) x2.1<|
 A.cl SN SQ (A.get .atom (A.fL .tab 0 .atom x2.2.1) x2.1,x2.1,()) fun x3=>
 A.cond (A.aA x3.1) (A.l1 .b (A.bl false) fun x4=>
 A.inr _<|A.ret _ (x4.1,()))<|
 A.l1 .i (A.lit 0) fun x4=>
 A.iter [.i,.i,.x .tab] (fun x5=>
 A.cond (A.cmp .lss x5.2.1 x5.1) (A.bd .atom (A.fL .tab 0 .atom x5.2.2.1) x5.2.1<|
 A.bd .atom (A.fL .tab 0 .atom x5.2.2.1) x5.1<|
 A.cl SX SY (A.get .atom (A.fL .tab 0 .atom x5.2.2.1) x5.2.1,A.get .atom (A.fL .tab 0 .atom x5.2.2.1) x5.1,()) fun x6=>
 A.cond x6.1 (A.l1 .b (A.bl false) fun x7=>
 A.inr _<|A.inr _<|A.ret _ (x7.1,()))<|
 A.l1 .i (A.arith .add .i64 x5.2.1 (A.lit 1)) fun x7=>
 A.inl _ (x5.1,x7.1,x5.2.2.1,()))<|
 A.inr _<|A.l1 .i (A.arith .add .i64 x5.1 (A.lit 1)) fun x6=>
 A.inl _ (x6.1,x5.2.2.1,())) (x2.1,x4.1,x2.2.1,()))<|
 A.inr _<|A.rb (A.bl true)) (x1.1,x.1,())
def G7 (A:Alg) (o7:Pt A je) (o8:Ft A je) (x:Tup A.ah [.x .atom]):Ot A uH:=
 A.cl o7 o8 (A.fL .atom 2 .mono x.1,()) fun x0=>
 A.cl o7 o8 (A.fL .atom 3 .mono x.1,()) fun x1=>
 A.ret _ (A.fI .atom 0 x.1,A.fI .atom 1 x.1,x0.1,x1.1,())
def G8 (A:Alg) (S9:Pt A uH) (Ta:Ft A uH) (x:Tup A.ah [.x .tab]):Ot A uI:=
 A.l1 .i (A.lit 0) fun x0=>
 A.iter [.i,.x .tab,.l .atom] (fun x1=>
 A.cond (A.cmp .lss x1.1 (A.len .atom (A.fL .tab 0 .atom x1.2.1))) (A.bd .atom (A.fL .tab 0 .atom x1.2.1) x1.1<|
 A.cl S9 Ta (A.get .atom (A.fL .tab 0 .atom x1.2.1) x1.1,()) fun x2=>
 A.l1 (.l .atom) (A.lst .atom [A.mkX .atom (x2.1,x2.2.1,x2.2.2.1,x2.2.2.2.1,())]) fun x3=>
 A.chk (A.cmp .leq (A.addN (A.len .atom x1.2.2.1) (A.len .atom x3.1)) (A.lit 1073741824))<|
 A.l1 (.l .atom) (A.app .atom x1.2.2.1 x3.1) fun x4=>
 A.l1 .i (A.arith .add .i64 x1.1 (A.lit 1)) fun x5=>
 A.inl _ (x5.1,x1.2.1,x4.1,()))<|
 A.inr _<|A.ret _ (x1.2.2.1,())) (x0.1,x.1,A.bC .atom,())
def G9 (A:Alg) (SN:Pt A uE) (SQ:Ft A uE) (SX:Pt A uF) (SY:Ft A uF) (S9:Pt A uH) (Ta:Ft A uH) (x:Tup A.ah [.x .atom,.l .atom]):Ot A uJ:=
 A.l1 .i (A.lit 0) fun x0=>
 A.cl SN SQ (x.1,A.len .atom x.2.1,()) fun x1=>
 A.cond (A.aA x1.1) (A.l1 .i (A.lit (-1)) fun x2=>
 A.ret _ (x2.1,x.2.1,()))<|
 A.l1 .i (A.lit 0) fun x2=>
 A.iter [.i,.l .atom,.x .atom] (fun x3=>
 A.cond (A.cmp .lss x3.1 (A.len .atom x3.2.1)) (A.bd .atom x3.2.1 x3.1<|
 A.bd .atom x3.2.1 x3.1<|
 A.cl SX SY (A.get .atom x3.2.1 x3.1,x3.2.2.1,()) fun x4=>
 A.cond x4.1 (A.l1 .i x3.1 fun x5=>
 A.inr _<|A.ret _ (x5.1,x3.2.1,()))<|
 A.l1 .i (A.arith .add .i64 x3.1 (A.lit 1)) fun x5=>
 A.inl _ (x5.1,x3.2.1,x3.2.2.1,()))<|
 A.inr _<|A.cond (A.cmp .eql (A.len .atom x3.2.1) (A.lit 200)) (A.l1 .i (A.lit (-1)) fun x4=>
 A.ret _ (x4.1,x3.2.1,()))<|
 A.cl S9 Ta (x3.2.2.1,()) fun x4=>
 A.l1 (.l .atom) (A.lst .atom [A.mkX .atom (x4.1,x4.2.1,x4.2.2.1,x4.2.2.2.1,())]) fun x5=>
 A.chk (A.cmp .leq (A.addN (A.len .atom x3.2.1) (A.len .atom x5.1)) (A.lit 1073741824))<|
 A.l1 (.l .atom) (A.app .atom x3.2.1 x5.1) fun x6=>
 A.l1 .i (A.arith .sub .i64 (A.len .atom x6.1) (A.lit 1)) fun x7=>
 A.ret _ (x7.1,x6.1,())) (x2.1,x.2.1,x.1,())
def Hg (A:Alg) (SG:Pt A uw) (SH:Ft A uw) (Mr:Pt A uo) (Ms:Ft A uo) (aiX:Pt A BI) (aiY:Ft A BI) (x:Tup A.ah [.i,.x .poly,.x .poly]):Ot A BP:=
 A.l1 .b (A.bl false) fun x0=>
 A.l1 .b (A.cmp .eql x.1 (A.lit 1)) fun x1=>
 A.cond x1.1 (A.cl Mr Ms (x.2.1,x.2.2.1,()) fun x2=>
 A.l1 .b x2.1 fun x3=>
 A.ret _ (x3.1,x2.2.1,()))<|
 A.l1 .b (A.cmp .eql x.1 (A.lit 2)) fun x2=>
 A.cond x2.1 (A.cl aiX aiY (x.2.2.1,A.lit 65535,()) fun x3=>
 A.cl Mr Ms (x.2.1,A.mkX .poly (x3.1,()),()) fun x4=>
 A.l1 .b x4.1 fun x5=>
 A.ret _ (x5.1,x4.2.1,()))<|
 A.l1 .b (A.cmp .eql x.1 (A.lit 3)) fun x3=>
 A.cond x3.1 (A.cl SG SH (x.2.1,x.2.2.1,()) fun x4=>
 A.l1 .b x4.1 fun x5=>
 A.ret _ (x5.1,x4.2.1,()))<|
 A.l1 .b (A.bl false) fun x4=>
 A.ret _ (x4.1,A.bC .mono,())
def Hl (A:Alg) (uU:Pt A jP) (uV:Ft A jP) (uW:Pt A jR) (uX:Ft A jR) (x:Tup A.ah [.i,.i,.i]):Ot A uK:=
 A.l1 .i (A.lit 0) fun x0=>
 A.cl uW uX (x.2.1,()) fun x1=>
 A.cg (A.aA (A.aA x1.1)) uW uX (x.2.2.1,()) fun x2=>
 A.cond (A.au (A.aA x1.1) (A.bl true) (A.aA x2.1)) (A.l1 .i (A.lit 0) fun x3=>
 A.ret _ (x3.1,()))<|
 A.l1 .b (A.cmp .eql x.1 (A.lit 1)) fun x3=>
 A.cond x3.1 (A.cl uU uV (A.arith .add .i64 x.2.1 x.2.2.1,()) fun x4=>
 A.l1 .i x4.1 fun x5=>
 A.ret _ (x5.1,()))<|
 A.l1 .b (A.cmp .eql x.1 (A.lit 2)) fun x4=>
 A.cond x4.1 (A.cl uU uV (A.arith .sub .i64 x.2.1 x.2.2.1,()) fun x5=>
 A.l1 .i x5.1 fun x6=>
 A.ret _ (x6.1,()))<|
 A.l1 .b (A.cmp .eql x.1 (A.lit 3)) fun x5=>
 A.cond x5.1 (A.cl uU uV (A.arith .mul .i64 x.2.1 x.2.2.1,()) fun x6=>
 A.l1 .i x6.1 fun x7=>
 A.ret _ (x7.1,()))<|
 A.l1 .b (A.cmp .eql x.1 (A.lit 4)) fun x6=>
 A.cond x6.1 (A.l1 .i (A.arith .and .i64 x.2.1 x.2.2.1) fun x7=>
 A.ret _ (x7.1,()))<|
 A.l1 .b (A.cmp .eql x.1 (A.lit 5)) fun x7=>
 A.cond x7.1 (A.l1 .i (A.arith .xor .i64 x.2.1 x.2.2.1) fun x8=>
 A.ret _ (x8.1,()))<|
 A.l1 .i (A.lit 0) fun x8=>
 A.ret _ (x8.1,())
def Ho (A:Alg) (o7:Pt A je) (o8:Ft A je) (x:Tup A.ah [.i,.i,.x .poly]):Ot A BQ:=
 A.l1 .b (A.bl false) fun x0=>
 A.cond (A.au (A.cmp .eql x.1 (A.lit 4)) (A.cmp .eql x.2.1 (A.lit 0)) (A.bl false)) (A.l1 .b (A.bl true) fun x1=>
 A.ret _ (x1.1,A.bC .mono,()))<|
 A.cond (A.au (A.au (A.cmp .eql x.1 (A.lit 4)) (A.cmp .eql x.2.1 (A.lit 65535)) (A.bl false)) (A.bl true) (A.au (A.cmp .eql x.1 (A.lit 5)) (A.cmp .eql x.2.1 (A.lit 0)) (A.bl false))) (A.cl o7 o8 (A.fL .poly 0 .mono x.2.2.1,()) fun x1=>
 A.l1 .b (A.bl true) fun x2=>
 A.ret _ (x2.1,x1.1,()))<|
 A.l1 .b (A.bl false) fun x1=>
 A.ret _ (x1.1,A.bC .mono,())
def Hq (A:Alg) (Dh:Pt A mV) (Di:Ft A mV) (o7:Pt A je) (o8:Ft A je) (Tc:Pt A uK) (Td:Ft A uK) (SK:Pt A ug) (SL:Ft A ug) (Zc:Pt A BK) (Zd:Ft A BK) (Ze:Pt A BQ) (Zf:Ft A BQ) (x:Tup A.ah [.i,.x .poly,.x .poly]):Ot A BR:=
 A.l1 .b (A.bl false) fun x0=>
 A.cl Zc Zd (x.2.1,()) fun x1=>
 A.l1 .i x1.1 fun x2=>
 A.l1 .b x1.2.1 fun x3=>
 A.cl Zc Zd (x.2.2.1,()) fun x4=>
 A.l1 .i x4.1 fun x5=>
 A.l1 .b x4.2.1 fun x6=>
 A.cond (A.au x3.1 x6.1 (A.bl false)) (A.cl Tc Td (x.1,x2.1,x5.1,()) fun x7=>
 A.cl SK SL (x7.1,()) fun x8=>
 A.l1 .b (A.bl true) fun x9=>
 A.ret _ (x9.1,x8.1,()))<|
 A.cl Dh Di (x.2.1,x.2.2.1,()) fun x7=>
 A.cond (A.cmp .eql x7.1 (A.lit 0)) (A.cond (A.cmp .eql x.1 (A.lit 4)) (A.cl o7 o8 (A.fL .poly 0 .mono x.2.1,()) fun x8=>
 A.l1 .b (A.bl true) fun x9=>
 A.ret _ (x9.1,x8.1,()))<|
 A.l1 .b (A.bl true) fun x8=>
 A.ret _ (x8.1,A.bC .mono,()))<|
 A.cond x3.1 (A.cl Ze Zf (x.1,x2.1,x.2.2.1,()) fun x8=>
 A.l1 .b x8.1 fun x9=>
 A.ret _ (x9.1,x8.2.1,()))<|
 A.cond x6.1 (A.cl Ze Zf (x.1,x5.1,x.2.1,()) fun x8=>
 A.l1 .b x8.1 fun x9=>
 A.ret _ (x9.1,x8.2.1,()))<|
 A.l1 .b (A.bl false) fun x8=>
 A.ret _ (x8.1,A.bC .mono,())
def Hr (A:Alg) (zm:Pt A jQ) (zn:Ft A jQ) (Dh:Pt A mV) (Di:Ft A mV) (aiZ:Pt A BP) (ai0:Ft A BP) (ai1:Pt A BR) (ai2:Ft A BR) (Te:Pt A uJ) (Tf:Ft A uJ) (x:Tup A.ah [.i,.x .poly,.x .poly,.l .atom]):Ot A BS:=
 A.cl aiZ ai0 (x.1,x.2.1,x.2.2.1,()) fun x0=>
 A.l1 .b x0.1 fun x1=>
 A.bind [.i,.b,.l .atom,.x .poly,.x .poly,.l .mono] (A.cond (A.au (A.cmp .eql x.1 (A.lit 4)) (A.bl true) (A.cmp .eql x.1 (A.lit 5))) (A.cl ai1 ai2 (x.1,x.2.1,x.2.2.1,()) fun x2=>
 A.l1 .b x2.1 fun x3=>
 A.ret _ (x.1,x3.1,x.2.2.2.1,x.2.1,x.2.2.1,x2.2.1,()))<|
 A.ret _ (x.1,x1.1,x.2.2.2.1,x.2.1,x.2.2.1,x0.2.1,())) fun x2=>
 A.cond x2.2.1 (A.ret _ (x2.2.2.1,x2.q.2.1,()))<|
 A.cg (A.cmp .neq x2.1 (A.lit 2)) Dh Di (x2.2.2.2.1,x2.q.1,()) fun x3=>
 A.bind [.l .atom,.i,.i,.l .mono,.l .mono] (A.cond (A.au (A.cmp .neq x2.1 (A.lit 2)) (A.cmp .gtr x3.1 (A.lit 0)) (A.bl false)) (A.ret _ (x2.2.2.1,A.lit 4,x2.1,A.fL .poly 0 .mono x2.q.1,A.fL .poly 0 .mono x2.2.2.2.1,()))<|
 A.ret _ (x2.2.2.1,A.lit 4,x2.1,A.fL .poly 0 .mono x2.2.2.2.1,A.fL .poly 0 .mono x2.q.1,())) fun x4=>
 A.cl Te Tf (A.mkX .atom (x4.2.1,x4.2.2.1,x4.2.2.2.1,x4.q.1,()),x4.1,()) fun x5=>
 A.l1 .i x5.1 fun x6=>
 A.cond (A.cmp .lss x6.1 (A.lit 0)) (A.ret _ (A.bC .atom,A.bC .mono,()))<|
 A.cl zm zn (x6.1,()) fun x7=>
 A.ret _ (x5.2.1,x7.1,())
def Ht (A:Alg) (x:Tup A.ah [.x .blk]):Ot A mW:=
 A.l1 (.x .blk) x.1 fun x0=>
 A.l1 (.l .iop) (A.lst .iop []) fun x1=>
 A.chk (A.cmp .leq (A.addN (A.len .iop x1.1) (A.len .iop (A.fL .blk 2 .iop x.1))) (A.lit 1073741824))<|
 A.l1 (.l .iop) (A.app .iop x1.1 (A.fL .blk 2 .iop x.1)) fun x2=>
 A.ret _ (A.fI .blk 0 x0.1,A.fI .blk 1 x0.1,A.fI .blk 3 x0.1,A.fI .blk 4 x0.1,A.fI .blk 5 x0.1,A.fI .blk 6 x0.1,x2.1,())
def Hu (A:Alg) (bZ:Pt A bR) (cu:Ft A bR) (x:Tup A.ah [.x .iop,.l .i64]):Ot A uL:=
 A.l1 (.x .iop) x.1 fun x0=>
 A.cl bZ cu (A.fI .iop 0 x.1,A.lit 3,A.lit 5,()) fun x1=>
 A.bind [.l .i64,.x .iop,.i,.i,.i,.i,.i,.x .iop] (A.cond (A.au (A.au x1.1 (A.bl true) (A.cmp .eql (A.fI .iop 0 x.1) (A.lit 7))) (A.bl true) (A.cmp .eql (A.fI .iop 0 x.1) (A.lit 8))) (A.bd .i64 x.2.1 (A.fI .iop 1 x.1)<|
 A.l1 .i (A.fI .i64 0 (A.get .i64 x.2.1 (A.fI .iop 1 x.1))) fun x2=>
 A.ret _ (x.2.1,x.1,A.lit 0,A.lit 0,A.lit 0,A.lit 0,A.lit 0,A.mkX .iop (A.fI .iop 0 x0.1,x2.1,A.fI .iop 2 x0.1,A.fI .iop 3 x0.1,A.fI .iop 4 x0.1,()),()))<|
 A.ret _ (x.2.1,x.1,A.lit 0,A.lit 0,A.lit 0,A.lit 0,A.lit 0,x0.1,())) fun x2=>
 A.bind [.i,.i,.i,.i,.i,.x .iop] (A.cond (A.au (A.cmp .eql (A.fI .iop 0 x2.2.1) (A.lit 3)) (A.bl true) (A.cmp .eql (A.fI .iop 0 x2.2.1) (A.lit 5))) (A.bd .i64 x2.1 (A.fI .iop 2 x2.2.1)<|
 A.l1 .i (A.fI .i64 0 (A.get .i64 x2.1 (A.fI .iop 2 x2.2.1))) fun x3=>
 A.ret _ (x2.2.2.1,x2.2.2.2.1,x2.q.1,x2.q.2.1,x2.q.2.2.1,A.mkX .iop (A.fI .iop 0 x2.q.2.2.2.1,A.fI .iop 1 x2.q.2.2.2.1,x3.1,A.fI .iop 3 x2.q.2.2.2.1,A.fI .iop 4 x2.q.2.2.2.1,()),()))<|
 A.ret _ (x2.2.2.1,x2.2.2.2.1,x2.q.1,x2.q.2.1,x2.q.2.2.1,x2.q.2.2.2.1,())) fun x3=>
 A.l1 (.x .iop) x3.q.2.1 fun x4=>
 A.ret _ (x4.1,())
def Hw (A:Alg) (uY:Pt A jf) (uZ:Ft A jf) (Tg:Pt A uL) (Ti:Ft A uL) (Hy:Pt A mW) (Hz:Ft A mW) (x:Tup A.ah [.x .blk]):Ot A uM:=
 A.cl uY uZ (x.1,()) fun x0=>
 A.cond (A.aA x0.1) (A.ret _ (A.lit 0,A.lit 0,A.lit 0,A.lit 0,A.lit 0,A.lit 0,A.bC .iop,()))<|
 A.cl Hy Hz (x.1,()) fun x1=>
 A.l1 (.l .i64) (A.lst .i64 []) fun x2=>
 A.l1 (.l .i64) (A.lst .i64 [A.mkX .i64 (A.lit (-1),()),A.mkX .i64 (A.lit (-1),()),A.mkX .i64 (A.lit (-1),()),A.mkX .i64 (A.lit (-1),())]) fun x3=>
 A.l1 .i (A.lit 0) fun x4=>
 A.iter [.i,.i,.i,.i,.i,.i,.i,.i,.i,.i,.i,.i,.i,.l .i64,.l .i64,.l .iop] (fun x5=>
 A.cond (A.cmp .lss x5.1 (A.len .iop x5.o.q.2.2.2.1)) (A.bd .iop x5.o.q.2.2.2.1 x5.1<|
 A.bd .iop x5.o.q.2.2.2.1 x5.1<|
 A.cl Tg Ti (A.get .iop x5.o.q.2.2.2.1 x5.1,x5.o.q.2.1,()) fun x6=>
 A.l1 (.x .iop) x6.1 fun x7=>
 A.bd .iop x5.o.q.2.2.2.1 x5.1<|
 A.bd .iop x5.o.q.2.2.2.1 x5.1<|
 A.l1 (.x .iop) x7.1 fun x8=>
 A.l1 .i x5.1 fun x9=>
 A.chk (A.orB (A.aA (A.cmp .eql (A.fI .iop 0 x7.1) (A.lit 2))) (A.cmp .leq (A.lit 0) (A.fI .iop 3 x7.1)))<|
 A.chk (A.orB (A.aA (A.cmp .eql (A.fI .iop 0 x7.1) (A.lit 2))) (A.cmp .lss (A.fI .iop 3 x7.1) (A.len .i64 x5.o.q.2.2.1)))<|
 A.chk (A.orB (A.aA (A.cmp .eql (A.fI .iop 0 x7.1) (A.lit 2))) (A.cmp .leq (A.lit 0) (A.fI .iop 3 x7.1)))<|
 A.chk (A.orB (A.aA (A.cmp .eql (A.fI .iop 0 x7.1) (A.lit 2))) (A.cmp .lss (A.fI .iop 3 x7.1) (A.len .i64 x5.o.q.2.2.1)))<|
 A.bind [.i,.i,.i,.i,.i,.i,.i,.i,.i,.i,.i,.i,.i,.i,.l .i64,.l .i64,.x .iop,.l .iop] (A.cond (A.au (A.cmp .eql (A.fI .iop 0 x7.1) (A.lit 2)) (A.cmp .geq (A.fI .i64 0 (A.get .i64 x5.o.q.2.2.1 (A.fI .iop 3 x7.1))) (A.lit 0)) (A.bl false)) (A.bd .i64 x5.o.q.2.2.1 (A.fI .iop 3 x7.1)<|
 A.bd .i64 x5.o.q.2.2.1 (A.fI .iop 3 x7.1)<|
 A.l1 .i (A.fI .i64 0 (A.get .i64 x5.o.q.2.2.1 (A.fI .iop 3 x7.1))) fun x10=>
 A.ret _ (x5.1,x10.1,x5.2.1,x5.2.2.1,x5.2.2.2.1,x5.q.1,x5.q.2.1,x5.q.2.2.1,x5.q.2.2.2.1,x5.o.1,x5.o.2.1,x5.o.2.2.1,x5.o.2.2.2.1,x5.o.q.1,x5.o.q.2.1,x5.o.q.2.2.1,x7.1,A.set .iop x5.o.q.2.2.2.1 x5.1 x8.1,()))<|
 A.ret _ (x5.1,x9.1,x5.2.1,x5.2.2.1,x5.2.2.2.1,x5.q.1,x5.q.2.1,x5.q.2.2.1,x5.q.2.2.2.1,x5.o.1,x5.o.2.1,x5.o.2.2.1,x5.o.2.2.2.1,x5.o.q.1,x5.o.q.2.1,x5.o.q.2.2.1,x7.1,A.set .iop x5.o.q.2.2.2.1 x5.1 x8.1,())) fun x10=>
 A.bind [.i,.i,.i,.i,.i,.i,.i,.i,.i,.i,.i,.i,.i,.i,.l .i64,.l .i64,.x .iop,.l .iop] (A.cond (A.cmp .eql (A.fI .iop 0 x10.o.o.1) (A.lit 2)) (A.bd .i64 x10.o.q.2.2.2.1 (A.fI .iop 3 x10.o.o.1)<|
 A.bd .i64 x10.o.q.2.2.2.1 (A.fI .iop 3 x10.o.o.1)<|
 A.l1 .i x10.2.1 fun x11=>
 A.ret _ (x10.1,x10.2.1,x10.2.2.1,x10.2.2.2.1,x10.q.1,x10.q.2.1,x10.q.2.2.1,x10.q.2.2.2.1,x10.o.1,x10.o.2.1,x10.o.2.2.1,x10.o.2.2.2.1,x10.o.q.1,x10.o.q.2.1,x10.o.q.2.2.1,A.set .i64 x10.o.q.2.2.2.1 (A.fI .iop 3 x10.o.o.1) (A.mkX .i64 (x11.1,())),x10.o.o.1,x10.o.o.2.1,()))<|
 A.ret _ (x10.1,x10.2.1,x10.2.2.1,x10.2.2.2.1,x10.q.1,x10.q.2.1,x10.q.2.2.1,x10.q.2.2.2.1,x10.o.1,x10.o.2.1,x10.o.2.2.1,x10.o.2.2.2.1,x10.o.q.1,x10.o.q.2.1,x10.o.q.2.2.1,x10.o.q.2.2.2.1,x10.o.o.1,x10.o.o.2.1,())) fun x11=>
 A.bind [.i,.i,.i,.i,.i,.i,.i,.i,.i,.i,.i,.i,.i,.i,.l .i64,.l .i64,.l .iop] (A.cond (A.cmp .eql (A.fI .iop 0 x11.o.o.1) (A.lit 8)) (A.bd .i64 x11.o.q.2.2.2.1 (A.fI .iop 3 x11.o.o.1)<|
 A.bd .i64 x11.o.q.2.2.2.1 (A.fI .iop 3 x11.o.o.1)<|
 A.l1 .i (A.fI .iop 1 x11.o.o.1) fun x12=>
 A.ret _ (x11.1,x11.2.1,x11.2.2.1,x11.2.2.2.1,x11.q.1,x11.q.2.1,x11.q.2.2.1,x11.q.2.2.2.1,x11.o.1,x11.o.2.1,x11.o.2.2.1,x11.o.2.2.2.1,x11.o.q.1,x11.o.q.2.1,x11.o.q.2.2.1,A.set .i64 x11.o.q.2.2.2.1 (A.fI .iop 3 x11.o.o.1) (A.mkX .i64 (x12.1,())),x11.o.o.2.1,()))<|
 A.ret _ (x11.1,x11.2.1,x11.2.2.1,x11.2.2.2.1,x11.q.1,x11.q.2.1,x11.q.2.2.1,x11.q.2.2.2.1,x11.o.1,x11.o.2.1,x11.o.2.2.1,x11.o.2.2.2.1,x11.o.q.1,x11.o.q.2.1,x11.o.q.2.2.1,x11.o.q.2.2.2.1,x11.o.o.2.1,())) fun x12=>
 A.l1 (.l .i64) (A.lst .i64 [A.mkX .i64 (x12.2.1,())]) fun x13=>
 A.chk (A.cmp .leq (A.addN (A.len .i64 x12.o.q.2.2.1) (A.len .i64 x13.1)) (A.lit 1073741824))<|
 A.l1 (.l .i64) (A.app .i64 x12.o.q.2.2.1 x13.1) fun x14=>
 A.l1 .i (A.arith .add .i64 x12.1 (A.lit 1)) fun x15=>
 A.inl _ (x15.1,x12.2.2.1,x12.2.2.2.1,x12.q.1,x12.q.2.1,x12.q.2.2.1,x12.q.2.2.2.1,x12.o.1,x12.o.2.1,x12.o.2.2.1,x12.o.2.2.2.1,x12.o.q.1,x12.o.q.2.1,x14.1,x12.o.q.2.2.2.1,x12.o.o.1,()))<|
 A.inr _<|A.bind [.i,.i,.i,.i,.i,.i,.i,.i,.i,.i,.i,.i,.l .i64,.l .iop] (A.cond (A.cmp .neq x5.o.2.1 (A.lit 1)) (A.bd .i64 x5.o.q.2.1 x5.o.2.2.1<|
 A.bd .i64 x5.o.q.2.1 x5.o.2.2.1<|
 A.l1 .i (A.fI .i64 0 (A.get .i64 x5.o.q.2.1 x5.o.2.2.1)) fun x6=>
 A.ret _ (x5.2.1,x5.2.2.1,x5.2.2.2.1,x5.q.1,x5.q.2.1,x5.q.2.2.1,x5.q.2.2.2.1,x5.o.1,x5.o.2.1,x6.1,x5.o.2.2.2.1,x5.o.q.1,x5.o.q.2.1,x5.o.q.2.2.2.1,()))<|
 A.ret _ (x5.2.1,x5.2.2.1,x5.2.2.2.1,x5.q.1,x5.q.2.1,x5.q.2.2.1,x5.q.2.2.2.1,x5.o.1,x5.o.2.1,x5.o.2.2.1,x5.o.2.2.2.1,x5.o.q.1,x5.o.q.2.1,x5.o.q.2.2.2.1,())) fun x6=>
 A.bind [.i,.i,.i,.i,.i,.i,.i,.i,.i,.i,.i,.i,.l .iop] (A.cond (A.au (A.cmp .eql x6.o.1 (A.lit 3)) (A.bl true) (A.cmp .eql x6.o.1 (A.lit 4))) (A.bd .i64 x6.o.q.1 x6.o.2.2.1<|
 A.bd .i64 x6.o.q.1 x6.o.2.2.1<|
 A.l1 .i (A.fI .i64 0 (A.get .i64 x6.o.q.1 x6.o.2.2.1)) fun x7=>
 A.ret _ (x6.1,x6.2.1,x6.2.2.1,x6.2.2.2.1,x6.q.1,x6.q.2.1,x6.q.2.2.1,x6.q.2.2.2.1,x6.o.1,x6.o.2.1,x7.1,x6.o.2.2.2.1,x6.o.q.2.1,()))<|
 A.ret _ (x6.1,x6.2.1,x6.2.2.1,x6.2.2.2.1,x6.q.1,x6.q.2.1,x6.q.2.2.1,x6.q.2.2.2.1,x6.o.1,x6.o.2.1,x6.o.2.2.1,x6.o.2.2.2.1,x6.o.q.2.1,())) fun x7=>
 A.ret _ (x7.q.2.2.1,x7.q.2.2.2.1,x7.o.1,x7.o.2.1,x7.o.2.2.1,x7.o.2.2.2.1,x7.o.q.1,())) (x4.1,A.lit 0,A.lit 0,A.lit 0,A.lit 0,A.lit 0,A.lit 0,x1.1,x1.2.1,x1.2.2.1,x1.2.2.2.1,x1.q.1,x1.q.2.1,x2.1,x3.1,x1.q.2.2.1,())
def HV (A:Alg) (x:Tup A.ah [.l .iop,.i]):Ot A uN:=
 A.l1 .i (A.lit 0) fun x0=>
 A.l1 .b (A.bl false) fun x1=>
 A.chk (A.orB (A.aA (A.aA (A.au (A.cmp .lss x.2.1 (A.lit 0)) (A.bl true) (A.cmp .geq x.2.1 (A.len .iop x.1))))) (A.cmp .leq (A.lit 0) x.2.1))<|
 A.chk (A.orB (A.aA (A.aA (A.au (A.cmp .lss x.2.1 (A.lit 0)) (A.bl true) (A.cmp .geq x.2.1 (A.len .iop x.1))))) (A.cmp .lss x.2.1 (A.len .iop x.1)))<|
 A.cond (A.au (A.au (A.cmp .lss x.2.1 (A.lit 0)) (A.bl true) (A.cmp .geq x.2.1 (A.len .iop x.1))) (A.bl true) (A.cmp .neq (A.fI .iop 0 (A.get .iop x.1 x.2.1)) (A.lit 1))) (A.l1 .i (A.lit 0) fun x2=>
 A.l1 .b (A.bl false) fun x3=>
 A.ret _ (x2.1,x3.1,()))<|
 A.bd .iop x.1 x.2.1<|
 A.l1 .i (A.fI .iop 3 (A.get .iop x.1 x.2.1)) fun x2=>
 A.l1 .b (A.bl true) fun x3=>
 A.ret _ (x2.1,x3.1,())
def HY (A:Alg) (x:Tup A.ah [.x .blk,.i]):Ot A BU:=
 A.l1 .i (A.lit 1) fun x0=>
 A.l1 .i (A.lit 0) fun x1=>
 A.l1 .i (A.lit 0) fun x2=>
 A.l1 .i x.2.1 fun x3=>
 A.ret _ (A.fI .blk 0 x.1,A.fI .blk 1 x.1,A.fL .blk 2 .iop x.1,x0.1,x1.1,x2.1,x3.1,())
def HZ (A:Alg) (Tj:Pt A BU) (Tk:Ft A BU) (H6:Pt A uN) (H7:Ft A uN) (x:Tup A.ah [.x .blk]):Ot A BX:=
 A.cl H6 H7 (A.fL .blk 2 .iop x.1,A.fI .blk 4 x.1,()) fun x0=>
 A.l1 .i x0.1 fun x1=>
 A.l1 .b x0.2.1 fun x2=>
 A.cl H6 H7 (A.fL .blk 2 .iop x.1,A.fI .blk 5 x.1,()) fun x3=>
 A.l1 .i x3.1 fun x4=>
 A.l1 .b x3.2.1 fun x5=>
 A.l1 .b (A.au (A.cmp .eql (A.fI .blk 3 x.1) (A.lit 2)) x2.1 (A.bl false)) fun x6=>
 A.cond x6.1 (A.cl Tj Tk (x.1,x1.1,()) fun x7=>
 A.ret _ (A.mkX .blk (x7.1,x7.2.1,x7.2.2.1,x7.2.2.2.1,x7.q.1,x7.q.2.1,x7.q.2.2.1,()),()))<|
 A.l1 .b (A.au (A.au (A.au (A.cmp .eql (A.fI .blk 3 x.1) (A.lit 3)) x2.1 (A.bl false)) x5.1 (A.bl false)) (A.cmp .eql x1.1 x4.1) (A.bl false)) fun x7=>
 A.bind [.b,.b,.b,.x .blk,.i,.i,.i,.i,.i,.i] (A.cond x7.1 (A.ret _ (x2.1,x5.1,x7.1,x.1,A.lit 0,A.lit 0,A.lit 0,A.lit 0,A.lit 0,A.lit 0,()))<|
 A.l1 .b (A.au (A.au (A.au (A.cmp .eql (A.fI .blk 3 x.1) (A.lit 4)) x2.1 (A.bl false)) x5.1 (A.bl false)) (A.cmp .lss x1.1 x4.1) (A.bl false)) fun x8=>
 A.ret _ (x2.1,x5.1,x8.1,x.1,A.lit 0,A.lit 0,A.lit 0,A.lit 0,A.lit 0,A.lit 0,())) fun x8=>
 A.cond x8.2.2.1 (A.cl Tj Tk (x8.2.2.2.1,A.fI .blk 6 x8.2.2.2.1,()) fun x9=>
 A.ret _ (A.mkX .blk (x9.1,x9.2.1,x9.2.2.1,x9.2.2.2.1,x9.q.1,x9.q.2.1,x9.q.2.2.1,()),()))<|
 A.l1 .b (A.au (A.au (A.au (A.cmp .eql (A.fI .blk 3 x8.2.2.2.1) (A.lit 3)) (A.bl true) (A.cmp .eql (A.fI .blk 3 x8.2.2.2.1) (A.lit 4))) x8.1 (A.bl false)) x8.2.1 (A.bl false)) fun x9=>
 A.cond x9.1 (A.cl Tj Tk (x8.2.2.2.1,A.arith .add .i64 (A.fI .blk 0 x8.2.2.2.1) (A.fI .blk 1 x8.2.2.2.1),()) fun x10=>
 A.ret _ (A.mkX .blk (x10.1,x10.2.1,x10.2.2.1,x10.2.2.2.1,x10.q.1,x10.q.2.1,x10.q.2.2.1,()),()))<|
 A.l1 (.x .blk) x8.2.2.2.1 fun x10=>
 A.ret _ (x10.1,())
def H8 (A:Alg) (uY:Pt A jf) (uZ:Ft A jf) (Tc:Pt A uK) (Td:Ft A uK) (ai3:Pt A BX) (ai4:Ft A BX) (H6:Pt A uN) (H7:Ft A uN) (Hy:Pt A mW) (Hz:Ft A mW) (x:Tup A.ah [.x .blk]):Ot A BZ:=
 A.cl uY uZ (x.1,()) fun x0=>
 A.cond (A.aA x0.1) (A.ret _ (A.mkX .blk (A.lit 0,A.lit 0,A.bC .iop,A.lit 0,A.lit 0,A.lit 0,A.lit 0,()),()))<|
 A.cl Hy Hz (x.1,()) fun x1=>
 A.l1 .i (A.lit 0) fun x2=>
 A.iter [.i,.i,.i,.i,.i,.i,.i,.i,.i,.i,.i,.i,.i,.l .iop] (fun x3=>
 A.cond (A.cmp .lss x3.1 (A.len .iop x3.o.q.2.1)) (A.bd .iop x3.o.q.2.1 x3.1<|
 A.bd .iop x3.o.q.2.1 x3.1<|
 A.l1 (.x .iop) (A.get .iop x3.o.q.2.1 x3.1) fun x4=>
 A.cl H6 H7 (x3.o.q.2.1,A.fI .iop 1 x4.1,()) fun x5=>
 A.l1 .i x5.1 fun x6=>
 A.l1 .b x5.2.1 fun x7=>
 A.cl H6 H7 (x3.o.q.2.1,A.fI .iop 2 x4.1,()) fun x8=>
 A.l1 .i x8.1 fun x9=>
 A.l1 .b x8.2.1 fun x10=>
 A.bind [.i,.i,.i,.i,.i,.i,.i,.i,.i,.i,.i,.i,.i,.l .iop] (A.cond (A.au (A.au (A.cmp .eql (A.fI .iop 0 x4.1) (A.lit 3)) x7.1 (A.bl false)) x10.1 (A.bl false)) (A.cl Tc Td (A.fI .iop 3 x4.1,x6.1,x9.1,()) fun x11=>
 A.bd .iop x3.o.q.2.1 x3.1<|
 A.bd .iop x3.o.q.2.1 x3.1<|
 A.ret _ (x3.1,x3.2.1,x3.2.2.1,x3.2.2.2.1,x3.q.1,x3.q.2.1,x3.q.2.2.1,x3.q.2.2.2.1,x3.o.1,x3.o.2.1,x3.o.2.2.1,x3.o.2.2.2.1,x3.o.q.1,A.set .iop x3.o.q.2.1 x3.1 (A.mkX .iop (A.lit 1,A.lit 0,A.lit 0,x11.1,A.lit 0,())),()))<|
 A.ret _ (x3.1,x3.2.1,x3.2.2.1,x3.2.2.2.1,x3.q.1,x3.q.2.1,x3.q.2.2.1,x3.q.2.2.2.1,x3.o.1,x3.o.2.1,x3.o.2.2.1,x3.o.2.2.2.1,x3.o.q.1,x3.o.q.2.1,())) fun x11=>
 A.l1 .i (A.arith .add .i64 x11.1 (A.lit 1)) fun x12=>
 A.inl _ (x12.1,x11.2.1,x11.2.2.1,x11.2.2.2.1,x11.q.1,x11.q.2.1,x11.q.2.2.1,x11.q.2.2.2.1,x11.o.1,x11.o.2.1,x11.o.2.2.1,x11.o.2.2.2.1,x11.o.q.1,x11.o.q.2.1,()))<|
 A.inr _<|A.cl ai3 ai4 (A.mkX .blk (x3.q.2.2.2.1,x3.o.1,x3.o.q.2.1,x3.o.2.1,x3.o.2.2.1,x3.o.2.2.2.1,x3.o.q.1,()),()) fun x4=>
 A.l1 (.x .blk) x4.1 fun x5=>
 A.ret _ (x5.1,())) (x2.1,A.lit 0,A.lit 0,A.lit 0,A.lit 0,A.lit 0,A.lit 0,x1.1,x1.2.1,x1.2.2.1,x1.2.2.2.1,x1.q.1,x1.q.2.1,x1.q.2.2.1,())
def H9 (A:Alg) (x:Tup A.ah [.l .iop,.i]):Ot A Ca:=
 A.l1 .b (A.bl false) fun x0=>
 A.l1 .i (A.arith .add .i64 x.2.1 (A.lit 1)) fun x1=>
 A.iter [.l .iop,.i,.i] (fun x2=>
 A.cond (A.cmp .lss x2.2.2.1 (A.len .iop x2.1)) (A.bd .iop x2.1 x2.2.2.1<|
 A.chk (A.orB (A.aA (A.aA (A.cmp .eql (A.fI .iop 0 (A.get .iop x2.1 x2.2.2.1)) (A.lit 4)))) (A.cmp .leq (A.lit 0) x2.2.2.1))<|
 A.chk (A.orB (A.aA (A.aA (A.cmp .eql (A.fI .iop 0 (A.get .iop x2.1 x2.2.2.1)) (A.lit 4)))) (A.cmp .lss x2.2.2.1 (A.len .iop x2.1)))<|
 A.chk (A.orB (A.aA (A.aA (A.au (A.cmp .eql (A.fI .iop 0 (A.get .iop x2.1 x2.2.2.1)) (A.lit 4)) (A.bl true) (A.cmp .eql (A.fI .iop 0 (A.get .iop x2.1 x2.2.2.1)) (A.lit 5))))) (A.cmp .leq (A.lit 0) x2.2.2.1))<|
 A.chk (A.orB (A.aA (A.aA (A.au (A.cmp .eql (A.fI .iop 0 (A.get .iop x2.1 x2.2.2.1)) (A.lit 4)) (A.bl true) (A.cmp .eql (A.fI .iop 0 (A.get .iop x2.1 x2.2.2.1)) (A.lit 5))))) (A.cmp .lss x2.2.2.1 (A.len .iop x2.1)))<|
 A.chk (A.orB (A.aA (A.jH (A.aA (A.au (A.cmp .eql (A.fI .iop 0 (A.get .iop x2.1 x2.2.2.1)) (A.lit 4)) (A.bl true) (A.cmp .eql (A.fI .iop 0 (A.get .iop x2.1 x2.2.2.1)) (A.lit 5)))) (A.cmp .eql (A.fI .iop 0 (A.get .iop x2.1 x2.2.2.1)) (A.lit 2)))) (A.cmp .leq (A.lit 0) x2.2.2.1))<|
 A.chk (A.orB (A.aA (A.jH (A.aA (A.au (A.cmp .eql (A.fI .iop 0 (A.get .iop x2.1 x2.2.2.1)) (A.lit 4)) (A.bl true) (A.cmp .eql (A.fI .iop 0 (A.get .iop x2.1 x2.2.2.1)) (A.lit 5)))) (A.cmp .eql (A.fI .iop 0 (A.get .iop x2.1 x2.2.2.1)) (A.lit 2)))) (A.cmp .lss x2.2.2.1 (A.len .iop x2.1)))<|
 A.chk (A.orB (A.aA (A.jH (A.aA (A.au (A.cmp .eql (A.fI .iop 0 (A.get .iop x2.1 x2.2.2.1)) (A.lit 4)) (A.bl true) (A.cmp .eql (A.fI .iop 0 (A.get .iop x2.1 x2.2.2.1)) (A.lit 5)))) (A.cmp .eql (A.fI .iop 0 (A.get .iop x2.1 x2.2.2.1)) (A.lit 2)))) (A.cmp .leq (A.lit 0) x2.2.1))<|
 A.chk (A.orB (A.aA (A.jH (A.aA (A.au (A.cmp .eql (A.fI .iop 0 (A.get .iop x2.1 x2.2.2.1)) (A.lit 4)) (A.bl true) (A.cmp .eql (A.fI .iop 0 (A.get .iop x2.1 x2.2.2.1)) (A.lit 5)))) (A.cmp .eql (A.fI .iop 0 (A.get .iop x2.1 x2.2.2.1)) (A.lit 2)))) (A.cmp .lss x2.2.1 (A.len .iop x2.1)))<|
 A.cond (A.au (A.au (A.cmp .eql (A.fI .iop 0 (A.get .iop x2.1 x2.2.2.1)) (A.lit 4)) (A.bl true) (A.cmp .eql (A.fI .iop 0 (A.get .iop x2.1 x2.2.2.1)) (A.lit 5))) (A.bl true) (A.au (A.cmp .eql (A.fI .iop 0 (A.get .iop x2.1 x2.2.2.1)) (A.lit 2)) (A.cmp .eql (A.fI .iop 3 (A.get .iop x2.1 x2.2.2.1)) (A.fI .iop 3 (A.get .iop x2.1 x2.2.1))) (A.bl false))) (A.l1 .b (A.bl false) fun x3=>
 A.inr _<|A.ret _ (x3.1,()))<|
 A.bd .iop x2.1 x2.2.2.1<|
 A.chk (A.orB (A.aA (A.cmp .eql (A.fI .iop 0 (A.get .iop x2.1 x2.2.2.1)) (A.lit 8))) (A.cmp .leq (A.lit 0) x2.2.2.1))<|
 A.chk (A.orB (A.aA (A.cmp .eql (A.fI .iop 0 (A.get .iop x2.1 x2.2.2.1)) (A.lit 8))) (A.cmp .lss x2.2.2.1 (A.len .iop x2.1)))<|
 A.chk (A.orB (A.aA (A.cmp .eql (A.fI .iop 0 (A.get .iop x2.1 x2.2.2.1)) (A.lit 8))) (A.cmp .leq (A.lit 0) x2.2.1))<|
 A.chk (A.orB (A.aA (A.cmp .eql (A.fI .iop 0 (A.get .iop x2.1 x2.2.2.1)) (A.lit 8))) (A.cmp .lss x2.2.1 (A.len .iop x2.1)))<|
 A.cond (A.au (A.cmp .eql (A.fI .iop 0 (A.get .iop x2.1 x2.2.2.1)) (A.lit 8)) (A.cmp .eql (A.fI .iop 3 (A.get .iop x2.1 x2.2.2.1)) (A.fI .iop 3 (A.get .iop x2.1 x2.2.1))) (A.bl false)) (A.l1 .b (A.bl true) fun x3=>
 A.inr _<|A.ret _ (x3.1,()))<|
 A.l1 .i (A.arith .add .i64 x2.2.2.1 (A.lit 1)) fun x3=>
 A.inl _ (x2.1,x2.2.1,x3.1,()))<|
 A.inr _<|A.rb (A.bl false)) (x.1,x.2.1,x1.1,())
def Ia (A:Alg) (Tg:Pt A uL) (Ti:Ft A uL) (x:Tup A.ah [.x .blk,.l .bool]):Ot A uO:=
 A.l1 (.l .iop) (A.lst .iop []) fun x0=>
 A.l1 (.l .i64) (A.lst .i64 []) fun x1=>
 A.l1 .i (A.lit 0) fun x2=>
 A.iter [.l .bool,.i,.x .blk,.i,.i,.i,.i,.i,.i,.l .iop,.l .i64] (fun x3=>
 A.cond (A.cmp .lss x3.2.1 (A.len .iop (A.fL .blk 2 .iop x3.2.2.1))) (A.l1 (.l .i64) (A.lst .i64 [A.mkX .i64 (A.len .iop x3.o.2.1,())]) fun x4=>
 A.chk (A.cmp .leq (A.addN (A.len .i64 x3.o.2.2.1) (A.len .i64 x4.1)) (A.lit 1073741824))<|
 A.l1 (.l .i64) (A.app .i64 x3.o.2.2.1 x4.1) fun x5=>
 A.bd .bool x3.1 x3.2.1<|
 A.bind [.l .bool,.i,.x .blk,.i,.i,.i,.i,.i,.i,.l .iop,.l .i64] (A.cond (A.fB .bool 0 (A.get .bool x3.1 x3.2.1)) (A.bd .iop (A.fL .blk 2 .iop x3.2.2.1) x3.2.1<|
 A.cl Tg Ti (A.get .iop (A.fL .blk 2 .iop x3.2.2.1) x3.2.1,x5.1,()) fun x6=>
 A.l1 (.l .iop) (A.lst .iop [x6.1]) fun x7=>
 A.chk (A.cmp .leq (A.addN (A.len .iop x3.o.2.1) (A.len .iop x7.1)) (A.lit 1073741824))<|
 A.l1 (.l .iop) (A.app .iop x3.o.2.1 x7.1) fun x8=>
 A.ret _ (x3.1,x3.2.1,x3.2.2.1,x3.2.2.2.1,x3.q.1,x3.q.2.1,x3.q.2.2.1,x3.q.2.2.2.1,x3.o.1,x8.1,x5.1,()))<|
 A.ret _ (x3.1,x3.2.1,x3.2.2.1,x3.2.2.2.1,x3.q.1,x3.q.2.1,x3.q.2.2.1,x3.q.2.2.2.1,x3.o.1,x3.o.2.1,x5.1,())) fun x6=>
 A.l1 .i (A.arith .add .i64 x6.2.1 (A.lit 1)) fun x7=>
 A.inl _ (x6.1,x7.1,x6.2.2.1,x6.2.2.2.1,x6.q.1,x6.q.2.1,x6.q.2.2.1,x6.q.2.2.2.1,x6.o.1,x6.o.2.1,x6.o.2.2.1,()))<|
 A.inr _<|A.l1 (.x .blk) x3.2.2.1 fun x4=>
 A.bind [.x .blk,.i,.i,.i,.i,.i,.i,.l .i64,.i,.i,.i,.i,.i,.i,.l .iop] (A.cond (A.cmp .neq (A.fI .blk 3 x3.2.2.1) (A.lit 1)) (A.bd .i64 x3.o.2.2.1 (A.fI .blk 4 x3.2.2.1)<|
 A.bd .i64 x3.o.2.2.1 (A.fI .blk 4 x3.2.2.1)<|
 A.l1 .i (A.fI .i64 0 (A.get .i64 x3.o.2.2.1 (A.fI .blk 4 x3.2.2.1))) fun x5=>
 A.ret _ (x3.2.2.1,x3.2.2.2.1,x3.q.1,x3.q.2.1,x3.q.2.2.1,x3.q.2.2.2.1,x3.o.1,x3.o.2.2.1,A.fI .blk 0 x4.1,A.fI .blk 1 x4.1,A.fI .blk 3 x4.1,x5.1,A.fI .blk 5 x4.1,A.fI .blk 6 x4.1,x3.o.2.1,()))<|
 A.ret _ (x3.2.2.1,x3.2.2.2.1,x3.q.1,x3.q.2.1,x3.q.2.2.1,x3.q.2.2.2.1,x3.o.1,x3.o.2.2.1,A.fI .blk 0 x4.1,A.fI .blk 1 x4.1,A.fI .blk 3 x4.1,A.fI .blk 4 x4.1,A.fI .blk 5 x4.1,A.fI .blk 6 x4.1,x3.o.2.1,())) fun x5=>
 A.bind [.i,.i,.i,.i,.i,.i,.i,.i,.i,.i,.i,.i,.l .iop] (A.cond (A.au (A.cmp .eql (A.fI .blk 3 x5.1) (A.lit 3)) (A.bl true) (A.cmp .eql (A.fI .blk 3 x5.1) (A.lit 4))) (A.bd .i64 x5.q.2.2.2.1 (A.fI .blk 5 x5.1)<|
 A.bd .i64 x5.q.2.2.2.1 (A.fI .blk 5 x5.1)<|
 A.l1 .i (A.fI .i64 0 (A.get .i64 x5.q.2.2.2.1 (A.fI .blk 5 x5.1))) fun x6=>
 A.ret _ (x5.2.1,x5.2.2.1,x5.2.2.2.1,x5.q.1,x5.q.2.1,x5.q.2.2.1,x5.o.1,x5.o.2.1,x5.o.2.2.1,x5.o.2.2.2.1,x6.1,x5.o.q.2.1,x5.o.q.2.2.1,()))<|
 A.ret _ (x5.2.1,x5.2.2.1,x5.2.2.2.1,x5.q.1,x5.q.2.1,x5.q.2.2.1,x5.o.1,x5.o.2.1,x5.o.2.2.1,x5.o.2.2.2.1,x5.o.q.1,x5.o.q.2.1,x5.o.q.2.2.1,())) fun x6=>
 A.ret _ (x6.q.2.2.1,x6.q.2.2.2.1,x6.o.1,x6.o.2.1,x6.o.2.2.1,x6.o.2.2.2.1,x6.o.q.1,())) (x.2.1,x2.1,x.1,A.lit 0,A.lit 0,A.lit 0,A.lit 0,A.lit 0,A.lit 0,x0.1,x1.1,())
def Ib (A:Alg) (uY:Pt A jf) (uZ:Ft A jf) (Tm:Pt A uO) (Tn:Ft A uO) (ai5:Pt A Ca) (ai6:Ft A Ca) (x:Tup A.ah [.x .blk]):Ot A Cc:=
 A.cl uY uZ (x.1,()) fun x0=>
 A.cond (A.aA x0.1) (A.ret _ (A.lit 0,A.lit 0,A.lit 0,A.lit 0,A.lit 0,A.lit 0,A.bC .iop,()))<|
 A.l1 (.l .bool) (A.lst .bool []) fun x1=>
 A.l1 .i (A.lit 0) fun x2=>
 A.iter [.i,.x .blk,.i,.i,.i,.i,.i,.i,.l .bool] (fun x3=>
 A.cond (A.cmp .lss x3.1 (A.len .iop (A.fL .blk 2 .iop x3.2.1))) (A.bd .iop (A.fL .blk 2 .iop x3.2.1) x3.1<|
 A.cg (A.aA (A.cmp .neq (A.fI .iop 0 (A.get .iop (A.fL .blk 2 .iop x3.2.1) x3.1)) (A.lit 8))) ai5 ai6 (A.fL .blk 2 .iop x3.2.1,x3.1,()) fun x4=>
 A.l1 (.l .bool) (A.lst .bool [A.mkX .bool (A.au (A.cmp .neq (A.fI .iop 0 (A.get .iop (A.fL .blk 2 .iop x3.2.1) x3.1)) (A.lit 8)) (A.bl true) (A.aA x4.1),())]) fun x5=>
 A.chk (A.cmp .leq (A.addN (A.len .bool x3.o.1) (A.len .bool x5.1)) (A.lit 1073741824))<|
 A.l1 (.l .bool) (A.app .bool x3.o.1 x5.1) fun x6=>
 A.l1 .i (A.arith .add .i64 x3.1 (A.lit 1)) fun x7=>
 A.inl _ (x7.1,x3.2.1,x3.2.2.1,x3.2.2.2.1,x3.q.1,x3.q.2.1,x3.q.2.2.1,x3.q.2.2.2.1,x6.1,()))<|
 A.inr _<|A.cl Tm Tn (x3.2.1,x3.o.1,()) fun x4=>
 A.ret _ (x4.1,x4.2.1,x4.2.2.1,x4.2.2.2.1,x4.q.1,x4.q.2.1,x4.q.2.2.1,())) (x2.1,x.1,A.lit 0,A.lit 0,A.lit 0,A.lit 0,A.lit 0,A.lit 0,x1.1,())
def Ic (A:Alg) (uY:Pt A jf) (uZ:Ft A jf) (bZ:Pt A bR) (cu:Ft A bR) (x:Tup A.ah [.x .blk]):Ot A Ce:=
 A.l1 (.l .bool) (A.lst .bool []) fun x0=>
 A.cl uY uZ (x.1,()) fun x1=>
 A.cond (A.aA x1.1) (A.ret _ (x0.1,()))<|
 A.l1 .i (A.lit 0) fun x2=>
 A.iter [.i,.x .blk,.l .bool] (fun x3=>
 A.cond (A.cmp .lss x3.1 (A.len .iop (A.fL .blk 2 .iop x3.2.1))) (A.bd .iop (A.fL .blk 2 .iop x3.2.1) x3.1<|
 A.l1 (.l .bool) (A.lst .bool [A.mkX .bool (A.cmp .geq (A.fI .iop 0 (A.get .iop (A.fL .blk 2 .iop x3.2.1) x3.1)) (A.lit 4),())]) fun x4=>
 A.chk (A.cmp .leq (A.addN (A.len .bool x3.2.2.1) (A.len .bool x4.1)) (A.lit 1073741824))<|
 A.l1 (.l .bool) (A.app .bool x3.2.2.1 x4.1) fun x5=>
 A.l1 .i (A.arith .add .i64 x3.1 (A.lit 1)) fun x6=>
 A.inl _ (x6.1,x3.2.1,x5.1,()))<|
 A.inr _<|A.bind [.x .blk,.l .bool] (A.cond (A.cmp .neq (A.fI .blk 3 x3.2.1) (A.lit 1)) (A.bd .bool x3.2.2.1 (A.fI .blk 4 x3.2.1)<|
 A.bd .bool x3.2.2.1 (A.fI .blk 4 x3.2.1)<|
 A.l1 .b (A.bl true) fun x4=>
 A.ret _ (x3.2.1,A.set .bool x3.2.2.1 (A.fI .blk 4 x3.2.1) (A.mkX .bool (x4.1,())),()))<|
 A.ret _ (x3.2.1,x3.2.2.1,())) fun x4=>
 A.bind [.x .blk,.l .bool] (A.cond (A.au (A.cmp .eql (A.fI .blk 3 x4.1) (A.lit 3)) (A.bl true) (A.cmp .eql (A.fI .blk 3 x4.1) (A.lit 4))) (A.bd .bool x4.2.1 (A.fI .blk 5 x4.1)<|
 A.bd .bool x4.2.1 (A.fI .blk 5 x4.1)<|
 A.l1 .b (A.bl true) fun x5=>
 A.ret _ (x4.1,A.set .bool x4.2.1 (A.fI .blk 5 x4.1) (A.mkX .bool (x5.1,())),()))<|
 A.ret _ (x4.1,x4.2.1,())) fun x5=>
 A.l1 .i (A.arith .sub .i64 (A.len .iop (A.fL .blk 2 .iop x5.1)) (A.lit 1)) fun x6=>
 A.iter [.i,.x .blk,.l .bool] (fun x7=>
 A.cond (A.cmp .geq x7.1 (A.lit 0)) (A.lS [.i,.x .blk,.l .bool] (A.bd .iop (A.fL .blk 2 .iop x7.2.1) x7.1<|
 A.l1 (.x .iop) (A.get .iop (A.fL .blk 2 .iop x7.2.1) x7.1) fun x8=>
 A.bd .bool x7.2.2.1 x7.1<|
 A.bd .bool x7.2.2.1 x7.1<|
 A.cond (A.aA (A.fB .bool 0 (A.get .bool x7.2.2.1 x7.1))) (A.inl _ (x7.1,x7.2.1,x7.2.2.1,()))<|
 A.cl bZ cu (A.fI .iop 0 x8.1,A.lit 3,A.lit 5,()) fun x9=>
 A.bind [.i,.x .blk,.l .bool,.x .iop] (A.cond (A.au (A.au x9.1 (A.bl true) (A.cmp .eql (A.fI .iop 0 x8.1) (A.lit 7))) (A.bl true) (A.cmp .eql (A.fI .iop 0 x8.1) (A.lit 8))) (A.bd .bool x7.2.2.1 (A.fI .iop 1 x8.1)<|
 A.bd .bool x7.2.2.1 (A.fI .iop 1 x8.1)<|
 A.l1 .b (A.bl true) fun x10=>
 A.ret _ (x7.1,x7.2.1,A.set .bool x7.2.2.1 (A.fI .iop 1 x8.1) (A.mkX .bool (x10.1,())),x8.1,()))<|
 A.ret _ (x7.1,x7.2.1,x7.2.2.1,x8.1,())) fun x10=>
 A.bind [.i,.x .blk,.l .bool] (A.cond (A.au (A.cmp .eql (A.fI .iop 0 x10.2.2.2.1) (A.lit 3)) (A.bl true) (A.cmp .eql (A.fI .iop 0 x10.2.2.2.1) (A.lit 5))) (A.bd .bool x10.2.2.1 (A.fI .iop 2 x10.2.2.2.1)<|
 A.bd .bool x10.2.2.1 (A.fI .iop 2 x10.2.2.2.1)<|
 A.l1 .b (A.bl true) fun x11=>
 A.ret _ (x10.1,x10.2.1,A.set .bool x10.2.2.1 (A.fI .iop 2 x10.2.2.2.1) (A.mkX .bool (x11.1,())),()))<|
 A.ret _ (x10.1,x10.2.1,x10.2.2.1,())) fun x11=>
 A.inl _ (x11.1,x11.2.1,x11.2.2.1,())) fun x8=>
 A.l1 .i (A.arith .sub .i64 x8.1 (A.lit 1)) fun x9=>
 A.inl _ (x9.1,x8.2.1,x8.2.2.1,()))<|
 A.inr _<|A.ret _ (x7.2.2.1,())) (x6.1,x5.1,x5.2.1,())) (x2.1,x.1,x0.1,())
def Ie (A:Alg) (uY:Pt A jf) (uZ:Ft A jf) (ai7:Pt A Ce) (ai8:Ft A Ce) (Tm:Pt A uO) (Tn:Ft A uO) (x:Tup A.ah [.x .blk]):Ot A Cg:=
 A.cl uY uZ (x.1,()) fun x0=>
 A.cond (A.aA x0.1) (A.ret _ (A.lit 0,A.lit 0,A.lit 0,A.lit 0,A.lit 0,A.lit 0,A.bC .iop,()))<|
 A.cl ai7 ai8 (x.1,()) fun x1=>
 A.cl Tm Tn (x.1,x1.1,()) fun x2=>
 A.ret _ (x2.1,x2.2.1,x2.2.2.1,x2.2.2.2.1,x2.q.1,x2.q.2.1,x2.q.2.2.1,())
def Mt (A:Alg) (ai9:Pt A BZ) (aja:Ft A BZ) (Tp:Pt A uM) (Tq:Ft A uM) (Zg:Pt A Cg) (Zh:Ft A Cg) (ajb:Pt A Cc) (ajc:Ft A Cc) (x:Tup A.ah [.x .blk]):Ot A Ch:=
 A.cl Tp Tq (x.1,()) fun x0=>
 A.cl ai9 aja (A.mkX .blk (x0.1,x0.2.1,x0.q.2.2.1,x0.2.2.1,x0.2.2.2.1,x0.q.1,x0.q.2.1,()),()) fun x1=>
 A.cl Zg Zh (x1.1,()) fun x2=>
 A.cl ajb ajc (A.mkX .blk (x2.1,x2.2.1,x2.q.2.2.1,x2.2.2.1,x2.2.2.2.1,x2.q.1,x2.q.2.1,()),()) fun x3=>
 A.cl Zg Zh (A.mkX .blk (x3.1,x3.2.1,x3.q.2.2.1,x3.2.2.1,x3.2.2.2.1,x3.q.1,x3.q.2.1,()),()) fun x4=>
 A.ret _ (x4.1,x4.2.1,x4.2.2.1,x4.2.2.2.1,x4.q.1,x4.q.2.1,x4.q.2.2.1,())
def Ig (A:Alg) (aO:Pt A bY) (aP:Ft A bY) (x:Tup A.ah [.l .u8,.i]):Ot A Ci:=
 A.cl aO aP (A.lit 4,x.1,x.2.1,()) fun x0=>
 A.l1 .i x0.1 fun x1=>
 A.cl aO aP (A.lit 4,x0.2.1,x0.2.2.1,()) fun x2=>
 A.l1 .i x2.1 fun x3=>
 A.cl aO aP (A.lit 14,x2.2.1,x2.2.2.1,()) fun x4=>
 A.l1 .b (A.cmp .eql x4.1 (A.lit 0)) fun x5=>
 A.bind [.i,.i,.i,.b,.l .u8,.i,.i,.i,.i,.i] (A.cond x5.1 (A.ret _ (x1.1,x3.1,x4.1,x5.1,x4.2.1,x4.2.2.1,A.lit 0,A.lit 0,A.lit 0,A.lit 0,()))<|
 A.l1 .b (A.cmp .eql x4.1 (A.lit 1)) fun x6=>
 A.ret _ (x1.1,x3.1,x4.1,x6.1,x4.2.1,x4.2.2.1,A.lit 0,A.lit 0,A.lit 0,A.lit 0,())) fun x6=>
 A.cond x6.2.2.2.1 (A.cl aO aP (A.lit 64,x6.q.1,x6.q.2.1,()) fun x7=>
 A.cl aO aP (A.lit 256,x7.2.1,x7.2.2.1,()) fun x8=>
 A.l1 (.l .i64) (A.lst .i64 [A.mkX .i64 (A.lit 0,()),A.mkX .i64 (A.lit 1,()),A.mkX .i64 (A.lit 2,()),A.mkX .i64 (x7.1,()),A.mkX .i64 (x8.1,()),A.mkX .i64 (A.lit 255,())]) fun x9=>
 A.cl aO aP (A.lit 6,x8.2.1,x8.2.2.1,()) fun x10=>
 A.bd .i64 x9.1 x10.1<|
 A.bd .i64 x9.1 x10.1<|
 A.ret _ (A.lit 1,x6.1,A.lit 0,A.fI .i64 0 (A.get .i64 x9.1 x10.1),x10.2.1,x10.2.2.1,()))<|
 A.l1 .b (A.cmp .eql x6.2.2.1 (A.lit 2)) fun x7=>
 A.cond x7.1 (A.ret _ (A.lit 2,x6.1,x6.2.1,A.lit 0,x6.q.1,x6.q.2.1,()))<|
 A.l1 .b (A.cmp .eql x6.2.2.1 (A.lit 3)) fun x8=>
 A.bind [.i,.i,.i,.b,.l .u8,.i,.i,.i,.i,.i] (A.cond x8.1 (A.ret _ (x6.1,x6.2.1,x6.2.2.1,x8.1,x6.q.1,x6.q.2.1,x6.q.2.2.1,x6.q.2.2.2.1,x6.o.1,x6.o.2.1,()))<|
 A.l1 .b (A.cmp .eql x6.2.2.1 (A.lit 4)) fun x9=>
 A.bind [.i,.i,.i,.b,.l .u8,.i,.i,.i,.i,.i] (A.cond x9.1 (A.ret _ (x6.1,x6.2.1,x6.2.2.1,x9.1,x6.q.1,x6.q.2.1,x6.q.2.2.1,x6.q.2.2.2.1,x6.o.1,x6.o.2.1,()))<|
 A.l1 .b (A.cmp .eql x6.2.2.1 (A.lit 5)) fun x10=>
 A.ret _ (x6.1,x6.2.1,x6.2.2.1,x10.1,x6.q.1,x6.q.2.1,x6.q.2.2.1,x6.q.2.2.2.1,x6.o.1,x6.o.2.1,())) fun x10=>
 A.ret _ (x10.1,x10.2.1,x10.2.2.1,x10.2.2.2.1,x10.q.1,x10.q.2.1,x10.q.2.2.1,x10.q.2.2.2.1,x10.o.1,x10.o.2.1,())) fun x9=>
 A.cond x9.2.2.2.1 (A.cl aO aP (A.lit 5,x9.q.1,x9.q.2.1,()) fun x10=>
 A.cl aO aP (A.lit 4,x10.2.1,x10.2.2.1,()) fun x11=>
 A.ret _ (A.arith .add .i64 (A.lit 3) x10.1,x9.1,x9.2.1,x11.1,x11.2.1,x11.2.2.1,()))<|
 A.l1 .b (A.cmp .eql x9.2.2.1 (A.lit 6)) fun x10=>
 A.cond x10.1 (A.cl aO aP (A.lit 16,x9.q.1,x9.q.2.1,()) fun x11=>
 A.l1 (.l .i64) (A.lst .i64 [A.mkX .i64 (A.lit 0,()),A.mkX .i64 (A.lit 1,()),A.mkX .i64 (A.lit 8,()),A.mkX .i64 (A.lit 15,()),A.mkX .i64 (x11.1,())]) fun x12=>
 A.cl aO aP (A.lit 5,x11.2.1,x11.2.2.1,()) fun x13=>
 A.bd .i64 x12.1 x13.1<|
 A.bd .i64 x12.1 x13.1<|
 A.ret _ (A.lit 8,x9.1,x9.2.1,A.fI .i64 0 (A.get .i64 x12.1 x13.1),x13.2.1,x13.2.2.1,()))<|
 A.l1 .b (A.cmp .eql x9.2.2.1 (A.lit 7)) fun x11=>
 A.bind [.i,.i,.i,.b,.l .u8,.i,.i,.i,.i,.i] (A.cond x11.1 (A.ret _ (x9.1,x9.2.1,x9.2.2.1,x11.1,x9.q.1,x9.q.2.1,x9.q.2.2.1,x9.q.2.2.2.1,x9.o.1,x9.o.2.1,()))<|
 A.l1 .b (A.cmp .eql x9.2.2.1 (A.lit 8)) fun x12=>
 A.ret _ (x9.1,x9.2.1,x9.2.2.1,x12.1,x9.q.1,x9.q.2.1,x9.q.2.2.1,x9.q.2.2.2.1,x9.o.1,x9.o.2.1,())) fun x12=>
 A.cond x12.2.2.2.1 (A.cl aO aP (A.lit 2,x12.q.1,x12.q.2.1,()) fun x13=>
 A.cl aO aP (A.lit 64,x13.2.1,x13.2.2.1,()) fun x14=>
 A.l1 (.l .i64) (A.lst .i64 [A.mkX .i64 (A.lit 0,()),A.mkX .i64 (A.lit 1,()),A.mkX .i64 (x14.1,()),A.mkX .i64 (A.lit 63,()),A.mkX .i64 (A.lit 64,()),A.mkX .i64 (A.lit 255,())]) fun x15=>
 A.cl aO aP (A.lit 6,x14.2.1,x14.2.2.1,()) fun x16=>
 A.bd .i64 x15.1 x16.1<|
 A.bd .i64 x15.1 x16.1<|
 A.ret _ (A.arith .add .i64 (A.lit 9) x13.1,x12.1,x12.2.1,A.fI .i64 0 (A.get .i64 x15.1 x16.1),x16.2.1,x16.2.2.1,()))<|
 A.l1 .b (A.cmp .eql x12.2.2.1 (A.lit 9)) fun x13=>
 A.cond x13.1 (A.cl aO aP (A.lit 2,x12.q.1,x12.q.2.1,()) fun x14=>
 A.cl aO aP (A.lit 20,x14.2.1,x14.2.2.1,()) fun x15=>
 A.cl aO aP (A.lit 64,x15.2.1,x15.2.2.1,()) fun x16=>
 A.l1 (.l .i64) (A.lst .i64 [A.mkX .i64 (x15.1,()),A.mkX .i64 (x16.1,()),A.mkX .i64 (A.lit 200,())]) fun x17=>
 A.cl aO aP (A.lit 3,x16.2.1,x16.2.2.1,()) fun x18=>
 A.bd .i64 x17.1 x18.1<|
 A.bd .i64 x17.1 x18.1<|
 A.ret _ (A.arith .add .i64 (A.lit 11) x14.1,x12.1,x12.2.1,A.fI .i64 0 (A.get .i64 x17.1 x18.1),x18.2.1,x18.2.2.1,()))<|
 A.l1 .b (A.cmp .eql x12.2.2.1 (A.lit 10)) fun x14=>
 A.cond x14.1 (A.cl aO aP (A.lit 2,x12.q.1,x12.q.2.1,()) fun x15=>
 A.ret _ (A.arith .add .i64 (A.lit 14) x15.1,x12.1,A.lit 0,A.lit 0,x15.2.1,x15.2.2.1,()))<|
 A.l1 .b (A.cmp .eql x12.2.2.1 (A.lit 11)) fun x15=>
 A.cond x15.1 (A.cl aO aP (A.lit 4,x12.q.1,x12.q.2.1,()) fun x16=>
 A.ret _ (A.lit 0,A.lit 0,A.lit 0,x16.1,x16.2.1,x16.2.2.1,()))<|
 A.l1 .b (A.cmp .eql x12.2.2.1 (A.lit 12)) fun x16=>
 A.cond x16.1 (A.ret _ (A.lit 13,A.lit 0,x12.2.1,A.lit 0,x12.q.1,x12.q.2.1,()))<|
 A.ret _ (A.lit 14,x12.1,A.lit 0,A.lit 0,x12.q.1,x12.q.2.1,())
def Ih (A:Alg) (x:Tup A.ah [.x .ins]):Ot A Cj:=
 A.l1 .b (A.bl false) fun x0=>
 A.l1 .b (A.cmp .eql (A.fI .ins 0 x.1) (A.lit 0)) fun x1=>
 A.cond x1.1 (A.rb (A.au (A.au (A.cmp .eql (A.fI .ins 1 x.1) (A.lit 0)) (A.cmp .eql (A.fI .ins 2 x.1) (A.lit 0)) (A.bl false)) (A.cmp .leq (A.fI .ins 3 x.1) (A.lit 3)) (A.bl false)))<|
 A.l1 .b (A.cmp .eql (A.fI .ins 0 x.1) (A.lit 1)) fun x2=>
 A.cond x2.1 (A.rb (A.cmp .eql (A.fI .ins 2 x.1) (A.lit 0)))<|
 A.l1 .b (A.cmp .eql (A.fI .ins 0 x.1) (A.lit 2)) fun x3=>
 A.cond x3.1 (A.rb (A.cmp .eql (A.fI .ins 3 x.1) (A.lit 0)))<|
 A.l1 .b (A.cmp .eql (A.fI .ins 0 x.1) (A.lit 3)) fun x4=>
 A.bind [.i,.b,.x .ins] (A.cond x4.1 (A.ret _ (A.fI .ins 0 x.1,x4.1,x.1,()))<|
 A.l1 .b (A.cmp .eql (A.fI .ins 0 x.1) (A.lit 4)) fun x5=>
 A.bind [.i,.b,.x .ins] (A.cond x5.1 (A.ret _ (A.fI .ins 0 x.1,x5.1,x.1,()))<|
 A.l1 .b (A.cmp .eql (A.fI .ins 0 x.1) (A.lit 5)) fun x6=>
 A.bind [.i,.b,.x .ins] (A.cond x6.1 (A.ret _ (A.fI .ins 0 x.1,x6.1,x.1,()))<|
 A.l1 .b (A.cmp .eql (A.fI .ins 0 x.1) (A.lit 6)) fun x7=>
 A.bind [.i,.b,.x .ins] (A.cond x7.1 (A.ret _ (A.fI .ins 0 x.1,x7.1,x.1,()))<|
 A.l1 .b (A.cmp .eql (A.fI .ins 0 x.1) (A.lit 7)) fun x8=>
 A.ret _ (A.fI .ins 0 x.1,x8.1,x.1,())) fun x8=>
 A.ret _ (x8.1,x8.2.1,x8.2.2.1,())) fun x7=>
 A.ret _ (x7.1,x7.2.1,x7.2.2.1,())) fun x6=>
 A.ret _ (x6.1,x6.2.1,x6.2.2.1,())) fun x5=>
 A.cond x5.2.1 (A.rb (A.cmp .lss (A.fI .ins 3 x5.2.2.1) (A.lit 4)))<|
 A.l1 .b (A.cmp .eql x5.1 (A.lit 8)) fun x6=>
 A.cond x6.1 (A.rb (A.cmp .lss (A.fI .ins 3 x5.2.2.1) (A.lit 16)))<|
 A.l1 .b (A.cmp .eql x5.1 (A.lit 13)) fun x7=>
 A.cond x7.1 (A.rb (A.au (A.cmp .eql (A.fI .ins 1 x5.2.2.1) (A.lit 0)) (A.cmp .eql (A.fI .ins 3 x5.2.2.1) (A.lit 0)) (A.bl false)))<|
 A.l1 .b (A.cmp .eql x5.1 (A.lit 14)) fun x8=>
 A.bind [.b,.x .ins] (A.cond x8.1 (A.ret _ (x8.1,x5.2.2.1,()))<|
 A.l1 .b (A.cmp .eql x5.1 (A.lit 15)) fun x9=>
 A.ret _ (x9.1,x5.2.2.1,())) fun x9=>
 A.cond x9.1 (A.rb (A.au (A.cmp .eql (A.fI .ins 2 x9.2.1) (A.lit 0)) (A.cmp .eql (A.fI .ins 3 x9.2.1) (A.lit 0)) (A.bl false)))<|
 A.rb (A.bl true)
def Ii (A:Alg) (bZ:Pt A bR) (cu:Ft A bR) (ajd:Pt A Cj) (aje:Ft A Cj) (x:Tup A.ah [.x .ins]):Ot A uP:=
 A.l1 .b (A.bl false) fun x0=>
 A.cl bZ cu (A.fI .ins 0 x.1,A.lit 0,A.lit 15,()) fun x1=>
 A.cg x1.1 bZ cu (A.fI .ins 1 x.1,A.lit 0,A.lit 3,()) fun x2=>
 A.cg (A.au x1.1 x2.1 (A.bl false)) bZ cu (A.fI .ins 2 x.1,A.lit 0,A.lit 3,()) fun x3=>
 A.cg (A.au (A.au x1.1 x2.1 (A.bl false)) x3.1 (A.bl false)) bZ cu (A.fI .ins 3 x.1,A.lit 0,A.lit 255,()) fun x4=>
 A.cg (A.au (A.au (A.au x1.1 x2.1 (A.bl false)) x3.1 (A.bl false)) x4.1 (A.bl false)) ajd aje (x.1,()) fun x5=>
 A.rb (A.au (A.au (A.au (A.au x1.1 x2.1 (A.bl false)) x3.1 (A.bl false)) x4.1 (A.bl false)) x5.1 (A.bl false))
def Ij (A:Alg) (x:Tup A.ah [.i]):Ot A uQ:=
 A.l1 .b (A.bl false) fun x0=>
 A.rb (A.au (A.au (A.cmp .eql x.1 (A.lit 11)) (A.bl true) (A.cmp .eql x.1 (A.lit 12))) (A.bl true) (A.cmp .eql x.1 (A.lit 13)))
def Ik (A:Alg) (Tt:Pt A uQ) (Tv:Ft A uQ) (Tw:Pt A uP) (Tx:Ft A uP) (x:Tup A.ah [.x .ins]):Ot A uR:=
 A.l1 .b (A.bl false) fun x0=>
 A.cl Tw Tx (x.1,()) fun x1=>
 A.cg (A.au x1.1 (A.cmp .neq (A.fI .ins 0 x.1) (A.lit 0)) (A.bl false)) Tt Tv (A.fI .ins 0 x.1,()) fun x2=>
 A.rb (A.au (A.au x1.1 (A.cmp .neq (A.fI .ins 0 x.1) (A.lit 0)) (A.bl false)) (A.aA x2.1) (A.bl false))
def Il (A:Alg) (ajf:Pt A Ci) (ajg:Ft A Ci) (aO:Pt A bY) (aP:Ft A bY) (Tz:Pt A uR) (TA:Ft A uR) (x:Tup A.ah [.l .u8,.i]):Ot A Ck:=
 A.cl ajf ajg (x.1,x.2.1,()) fun x0=>
 A.cl Tz TA (A.mkX .ins (x0.1,x0.2.1,x0.2.2.1,x0.2.2.2.1,()),()) fun x1=>
 A.cond (A.aA x1.1) (A.cl aO aP (A.lit 4,x0.q.1,x0.q.2.1,()) fun x2=>
 A.ret _ (A.lit 3,x0.2.1,x0.2.2.1,x2.1,x2.2.1,x2.2.2.1,()))<|
 A.ret _ (x0.1,x0.2.1,x0.2.2.1,x0.2.2.2.1,x0.q.1,x0.q.2.1,())
def Im (A:Alg) (Zi:Pt A Ck) (Zj:Ft A Ck) (aO:Pt A bY) (aP:Ft A bY) (x:Tup A.ah [.l .u8,.i]):Ot A Cm:=
 A.l1 (.l .ins) (A.lst .ins []) fun x0=>
 A.cl aO aP (A.lit 8,x.1,x.2.1,()) fun x1=>
 A.l1 .i x1.1 fun x2=>
 A.iter [.i,.l .u8,.i,.l .ins] (fun x3=>
 A.cond (A.cmp .gtr x3.1 (A.lit 0)) (A.cl Zi Zj (x3.2.1,x3.2.2.1,()) fun x4=>
 A.l1 (.l .ins) (A.lst .ins [A.mkX .ins (x4.1,x4.2.1,x4.2.2.1,x4.2.2.2.1,())]) fun x5=>
 A.chk (A.cmp .leq (A.addN (A.len .ins x3.2.2.2.1) (A.len .ins x5.1)) (A.lit 1073741824))<|
 A.l1 (.l .ins) (A.app .ins x3.2.2.2.1 x5.1) fun x6=>
 A.l1 .i (A.arith .sub .i64 x3.1 (A.lit 1)) fun x7=>
 A.inl _ (x7.1,x4.q.1,x4.q.2.1,x6.1,()))<|
 A.inr _<|A.cl aO aP (A.lit 3,x3.2.1,x3.2.2.1,()) fun x4=>
 A.l1 .b (A.cmp .eql x4.1 (A.lit 0)) fun x5=>
 A.cond x5.1 (A.cl aO aP (A.lit 2,x4.2.1,x4.2.2.1,()) fun x6=>
 A.cl aO aP (A.lit 4,x6.2.1,x6.2.2.1,()) fun x7=>
 A.cl aO aP (A.lit 4,x7.2.1,x7.2.2.1,()) fun x8=>
 A.cl aO aP (A.lit 64,x8.2.1,x8.2.2.1,()) fun x9=>
 A.l1 (.l .ins) (A.lst .ins [A.mkX .ins (A.arith .add .i64 (A.lit 11) x6.1,x7.1,x8.1,x9.1,())]) fun x10=>
 A.chk (A.cmp .leq (A.addN (A.len .ins x3.2.2.2.1) (A.len .ins x10.1)) (A.lit 1073741824))<|
 A.l1 (.l .ins) (A.app .ins x3.2.2.2.1 x10.1) fun x11=>
 A.ret _ (x9.2.1,x9.2.2.1,x11.1,()))<|
 A.l1 .b (A.cmp .eql x4.1 (A.lit 1)) fun x6=>
 A.cond x6.1 (A.cl aO aP (A.lit 4,x4.2.1,x4.2.2.1,()) fun x7=>
 A.l1 (.l .ins) (A.lst .ins [A.mkX .ins (A.lit 13,A.lit 0,x7.1,A.lit 0,())]) fun x8=>
 A.chk (A.cmp .leq (A.addN (A.len .ins x3.2.2.2.1) (A.len .ins x8.1)) (A.lit 1073741824))<|
 A.l1 (.l .ins) (A.app .ins x3.2.2.2.1 x8.1) fun x9=>
 A.ret _ (x7.2.1,x7.2.2.1,x9.1,()))<|
 A.cl Zi Zj (x4.2.1,x4.2.2.1,()) fun x7=>
 A.l1 (.l .ins) (A.lst .ins [A.mkX .ins (x7.1,x7.2.1,x7.2.2.1,x7.2.2.2.1,())]) fun x8=>
 A.chk (A.cmp .leq (A.addN (A.len .ins x3.2.2.2.1) (A.len .ins x8.1)) (A.lit 1073741824))<|
 A.l1 (.l .ins) (A.app .ins x3.2.2.2.1 x8.1) fun x9=>
 A.ret _ (x7.q.1,x7.q.2.1,x9.1,())) (x2.1,x1.2.1,x1.2.2.1,x0.1,())
def Io (A:Alg) (Tt:Pt A uQ) (Tv:Ft A uQ) (Tw:Pt A uP) (Tx:Ft A uP) (bZ:Pt A bR) (cu:Ft A bR) (Tz:Pt A uR) (TA:Ft A uR) (x:Tup A.ah [.i,.l .ins]):Ot A Cn:=
 A.l1 .b (A.bl false) fun x0=>
 A.cl bZ cu (A.len .ins x.2.1,A.lit 1,A.lit 8,()) fun x1=>
 A.cg (A.aA (A.aA x1.1)) bZ cu (x.1,A.lit 0,A.arith .sub .i64 (A.lit 64) (A.len .ins x.2.1),()) fun x2=>
 A.cond (A.au (A.aA x1.1) (A.bl true) (A.aA x2.1)) (A.rb (A.bl false))<|
 A.l1 .i (A.lit 0) fun x3=>
 A.iter [.l .ins,.i] (fun x4=>
 A.cond (A.cmp .lss x4.2.1 (A.len .ins x4.1)) (A.bd .ins x4.1 x4.2.1<|
 A.cl Tz TA (A.get .ins x4.1 x4.2.1,()) fun x5=>
 A.chk (A.orB (A.aA (A.jH (A.aA x5.1) (A.aA (A.cmp .lss x4.2.1 (A.arith .sub .i64 (A.len .ins x4.1) (A.lit 1)))))) (A.cmp .leq (A.lit 0) x4.2.1))<|
 A.chk (A.orB (A.aA (A.jH (A.aA x5.1) (A.aA (A.cmp .lss x4.2.1 (A.arith .sub .i64 (A.len .ins x4.1) (A.lit 1)))))) (A.cmp .lss x4.2.1 (A.len .ins x4.1)))<|
 A.cg (A.jH (A.aA x5.1) (A.aA (A.cmp .lss x4.2.1 (A.arith .sub .i64 (A.len .ins x4.1) (A.lit 1))))) Tw Tx (A.get .ins x4.1 x4.2.1,()) fun x6=>
 A.chk (A.orB (A.aA (A.jH (A.aA x5.1) (A.aA (A.au (A.cmp .lss x4.2.1 (A.arith .sub .i64 (A.len .ins x4.1) (A.lit 1))) (A.bl true) (A.aA x6.1))))) (A.cmp .leq (A.lit 0) x4.2.1))<|
 A.chk (A.orB (A.aA (A.jH (A.aA x5.1) (A.aA (A.au (A.cmp .lss x4.2.1 (A.arith .sub .i64 (A.len .ins x4.1) (A.lit 1))) (A.bl true) (A.aA x6.1))))) (A.cmp .lss x4.2.1 (A.len .ins x4.1)))<|
 A.cg (A.jH (A.aA x5.1) (A.aA (A.au (A.cmp .lss x4.2.1 (A.arith .sub .i64 (A.len .ins x4.1) (A.lit 1))) (A.bl true) (A.aA x6.1)))) Tt Tv (A.fI .ins 0 (A.get .ins x4.1 x4.2.1),()) fun x7=>
 A.cond (A.au (A.aA x5.1) (A.au (A.au (A.cmp .lss x4.2.1 (A.arith .sub .i64 (A.len .ins x4.1) (A.lit 1))) (A.bl true) (A.aA x6.1)) (A.bl true) (A.aA x7.1)) (A.bl false)) (A.l1 .b (A.bl false) fun x8=>
 A.inr _<|A.ret _ (x8.1,()))<|
 A.l1 .i (A.arith .add .i64 x4.2.1 (A.lit 1)) fun x8=>
 A.inl _ (x4.1,x8.1,()))<|
 A.inr _<|A.rb (A.bl true)) (x.2.1,x3.1,())
def Ip (A:Alg) (x:Tup A.ah [.i,.i,.i,.i,.i,.i,.x .iop,.l .iop]):Ot A jg:=
 A.l1 .i (A.lit 0) fun x0=>
 A.l1 (.l .iop) (A.lst .iop [x.q.2.2.1]) fun x1=>
 A.chk (A.cmp .leq (A.addN (A.len .iop x.q.2.2.2.1) (A.len .iop x1.1)) (A.lit 1073741824))<|
 A.l1 (.l .iop) (A.app .iop x.q.2.2.2.1 x1.1) fun x2=>
 A.l1 .i (A.arith .sub .i64 (A.len .iop x2.1) (A.lit 1)) fun x3=>
 A.ret _ (x.1,x.2.1,x.2.2.1,x.2.2.2.1,x.q.1,x.q.2.1,x3.1,x2.1,())
def Iq (A:Alg) (l5:Pt A jg) (l6:Ft A jg) (x:Tup A.ah [.i,.i,.i,.i,.i,.i,.i,.i,.l .iop]):Ot A uS:=
 A.cl l5 l6 (x.1,x.2.1,x.2.2.1,x.2.2.2.1,x.q.1,x.q.2.1,A.mkX .iop (A.lit 8,x.q.2.2.2.1,A.lit 0,x.q.2.2.1,A.lit 0,()),x.o.1,()) fun x0=>
 A.l1 .i x0.q.2.2.1 fun x1=>
 A.ret _ (x0.1,x0.2.1,x0.2.2.1,x0.2.2.2.1,x0.q.1,x0.q.2.1,x0.q.2.2.2.1,())
def Ir (A:Alg) (l5:Pt A jg) (l6:Ft A jg) (x:Tup A.ah [.i,.i,.i,.i,.i,.i,.i,.l .iop]):Ot A jS:=
 A.l1 .i (A.lit 0) fun x0=>
 A.cl l5 l6 (x.1,x.2.1,x.2.2.1,x.2.2.2.1,x.q.1,x.q.2.1,A.mkX .iop (A.lit 2,A.lit 0,A.lit 0,x.q.2.2.1,A.lit 0,()),x.q.2.2.2.1,()) fun x1=>
 A.l1 .i x1.q.2.2.1 fun x2=>
 A.ret _ (x1.1,x1.2.1,x1.2.2.1,x1.2.2.2.1,x1.q.1,x1.q.2.1,x2.1,x1.q.2.2.2.1,())
def Iu (A:Alg) (pz:Pt A jS) (pE:Ft A jS) (l5:Pt A jg) (l6:Ft A jg) (x:Tup A.ah [.i,.i,.i,.i,.i,.i,.i,.i,.x .iop,.l .iop]):Ot A uT:=
 A.l1 .i (A.lit 0) fun x0=>
 A.cl pz pE (x.1,x.2.1,x.2.2.1,x.2.2.2.1,x.q.1,x.q.2.1,x.q.2.2.2.1,x.o.2.1,()) fun x1=>
 A.l1 .i x1.q.2.2.1 fun x2=>
 A.cl l5 l6 (x1.1,x1.2.1,x1.2.2.1,x1.2.2.2.1,x1.q.1,x1.q.2.1,x.o.1,x1.q.2.2.2.1,()) fun x3=>
 A.l1 .i x3.q.2.2.1 fun x4=>
 A.cl l5 l6 (x3.1,x3.2.1,x3.2.2.1,x3.2.2.2.1,x3.q.1,x3.q.2.1,A.mkX .iop (A.lit 3,x2.1,x4.1,x.q.2.2.1,A.lit 0,()),x3.q.2.2.2.1,()) fun x5=>
 A.l1 .i x5.q.2.2.1 fun x6=>
 A.ret _ (x5.1,x5.2.1,x5.2.2.1,x5.2.2.2.1,x5.q.1,x5.q.2.1,x6.1,x5.q.2.2.2.1,())
def Iw (A:Alg) (x:Tup A.ah [.i]):Ot A Cq:=
 A.l1 .i (A.lit 0) fun x0=>
 A.l1 .i (A.lit 1) fun x1=>
 A.l1 .i (A.lit 0) fun x2=>
 A.iter [.i,.i,.i] (fun x3=>
 A.cond (A.cmp .lss x3.2.2.1 x3.1) (A.l1 .i (A.arith .add .i64 x3.2.1 x3.2.1) fun x4=>
 A.l1 .i (A.arith .add .i64 x3.2.2.1 (A.lit 1)) fun x5=>
 A.inl _ (x3.1,x4.1,x5.1,()))<|
 A.inr _<|A.l1 .i x3.2.1 fun x4=>
 A.ret _ (x4.1,())) (x.1,x1.1,x2.1,())
def Iy (A:Alg) (pz:Pt A jS) (pE:Ft A jS) (l5:Pt A jg) (l6:Ft A jg) (Mv:Pt A uT) (Mw:Ft A uT) (zo:Pt A uS) (zq:Ft A uS) (x:Tup A.ah [.i,.i,.i,.i,.i,.i,.x .ins,.i,.l .iop]):Ot A Cr:=
 A.cl Mv Mw (x.1,x.2.1,x.2.2.1,x.2.2.2.1,x.q.1,x.q.2.1,A.lit 1,A.fI .ins 2 x.q.2.2.1,A.mkX .iop (A.lit 1,A.lit 0,A.lit 0,A.fI .ins 3 x.q.2.2.1,A.lit 0,()),x.o.1,()) fun x0=>
 A.l1 .i x0.q.2.2.1 fun x1=>
 A.cond (A.cmp .eql (A.fI .ins 0 x.q.2.2.1) (A.lit 9)) (A.cl l5 l6 (x0.1,x0.2.1,x0.2.2.1,x0.2.2.2.1,x0.q.1,x0.q.2.1,A.mkX .iop (A.lit 4,x1.1,A.lit 0,A.lit 0,x.q.2.2.2.1,()),x0.q.2.2.2.1,()) fun x2=>
 A.l1 .i x2.q.2.2.1 fun x3=>
 A.cl zo zq (x2.1,x2.2.1,x2.2.2.1,x2.2.2.2.1,x2.q.1,x2.q.2.1,A.fI .ins 1 x.q.2.2.1,x3.1,x2.q.2.2.2.1,()) fun x4=>
 A.ret _ (x4.1,x4.2.1,x4.2.2.1,x4.2.2.2.1,x4.q.1,x4.q.2.1,x4.q.2.2.1,()))<|
 A.cl pz pE (x0.1,x0.2.1,x0.2.2.1,x0.2.2.2.1,x0.q.1,x0.q.2.1,A.fI .ins 1 x.q.2.2.1,x0.q.2.2.2.1,()) fun x2=>
 A.l1 .i x2.q.2.2.1 fun x3=>
 A.cl l5 l6 (x2.1,x2.2.1,x2.2.2.1,x2.2.2.2.1,x2.q.1,x2.q.2.1,A.mkX .iop (A.lit 5,x1.1,x3.1,A.lit 0,x.q.2.2.2.1,()),x2.q.2.2.2.1,()) fun x4=>
 A.l1 .i x4.q.2.2.1 fun x5=>
 A.ret _ (x4.1,x4.2.1,x4.2.2.1,x4.2.2.2.1,x4.q.1,x4.q.2.1,x4.q.2.2.2.1,())
def Iz (A:Alg) (pz:Pt A jS) (pE:Ft A jS) (x:Tup A.ah [.i,.i,.i,.i,.i,.i,.x .ins,.l .iop]):Ot A Cu:=
 A.cond (A.cmp .eql (A.fI .ins 0 x.q.2.2.1) (A.lit 13)) (A.cl pz pE (x.1,x.2.1,x.2.2.1,x.2.2.2.1,x.q.1,x.q.2.1,A.fI .ins 2 x.q.2.2.1,x.q.2.2.2.1,()) fun x0=>
 A.l1 .i x0.q.2.2.1 fun x1=>
 A.l1 .i (A.lit 2) fun x2=>
 A.l1 .i x1.1 fun x3=>
 A.l1 .i (A.lit 0) fun x4=>
 A.ret _ (x0.1,x0.2.1,x2.1,x3.1,x0.q.1,x4.1,x0.q.2.2.2.1,()))<|
 A.cl pz pE (x.1,x.2.1,x.2.2.1,x.2.2.2.1,x.q.1,x.q.2.1,A.fI .ins 1 x.q.2.2.1,x.q.2.2.2.1,()) fun x0=>
 A.l1 .i x0.q.2.2.1 fun x1=>
 A.cl pz pE (x0.1,x0.2.1,x0.2.2.1,x0.2.2.2.1,x0.q.1,x0.q.2.1,A.fI .ins 2 x.q.2.2.1,x0.q.2.2.2.1,()) fun x2=>
 A.l1 .i x2.q.2.2.1 fun x3=>
 A.l1 .i (A.lit 3) fun x4=>
 A.bind [.i,.i,.x .ins,.i,.i,.i,.i,.i,.i,.i,.i,.i,.i,.i,.i,.l .iop] (A.cond (A.cmp .eql (A.fI .ins 0 x.q.2.2.1) (A.lit 12)) (A.l1 .i (A.lit 4) fun x5=>
 A.ret _ (x1.1,x3.1,x.q.2.2.1,A.lit 0,A.lit 0,A.lit 0,A.lit 0,A.lit 0,A.lit 0,x2.1,x2.2.1,x5.1,x2.2.2.2.1,x2.q.1,x2.q.2.1,x2.q.2.2.2.1,()))<|
 A.ret _ (x1.1,x3.1,x.q.2.2.1,A.lit 0,A.lit 0,A.lit 0,A.lit 0,A.lit 0,A.lit 0,x2.1,x2.2.1,x4.1,x2.2.2.2.1,x2.q.1,x2.q.2.1,x2.q.2.2.2.1,())) fun x5=>
 A.l1 .i x5.1 fun x6=>
 A.l1 .i x5.2.1 fun x7=>
 A.l1 .i (A.fI .ins 3 x5.2.2.1) fun x8=>
 A.ret _ (x5.o.2.1,x5.o.2.2.1,x5.o.2.2.2.1,x6.1,x7.1,x8.1,x5.o.q.2.2.2.1,())
def IB (A:Alg) (pz:Pt A jS) (pE:Ft A jS) (ajh:Pt A Cu) (aji:Ft A Cu) (l5:Pt A jg) (l6:Ft A jg) (ajj:Pt A Cr) (ajk:Ft A Cr) (Mv:Pt A uT) (Mw:Ft A uT) (zo:Pt A uS) (zq:Ft A uS) (ajl:Pt A Cq) (ajm:Ft A Cq) (x:Tup A.ah [.i,.i,.i,.i,.i,.i,.x .ins,.i,.l .iop]):Ot A Cv:=
 A.l1 .b (A.cmp .eql (A.fI .ins 0 x.q.2.2.1) (A.lit 1)) fun x0=>
 A.cond x0.1 (A.cl l5 l6 (x.1,x.2.1,x.2.2.1,x.2.2.2.1,x.q.1,x.q.2.1,A.mkX .iop (A.lit 1,A.lit 0,A.lit 0,A.fI .ins 3 x.q.2.2.1,A.lit 0,()),x.o.1,()) fun x1=>
 A.l1 .i x1.q.2.2.1 fun x2=>
 A.cl zo zq (x1.1,x1.2.1,x1.2.2.1,x1.2.2.2.1,x1.q.1,x1.q.2.1,A.fI .ins 1 x.q.2.2.1,x2.1,x1.q.2.2.2.1,()) fun x3=>
 A.ret _ (x3.1,x3.2.1,x3.2.2.1,x3.2.2.2.1,x3.q.1,x3.q.2.1,x3.q.2.2.1,()))<|
 A.l1 .b (A.cmp .eql (A.fI .ins 0 x.q.2.2.1) (A.lit 2)) fun x1=>
 A.cond x1.1 (A.cl pz pE (x.1,x.2.1,x.2.2.1,x.2.2.2.1,x.q.1,x.q.2.1,A.fI .ins 2 x.q.2.2.1,x.o.1,()) fun x2=>
 A.l1 .i x2.q.2.2.1 fun x3=>
 A.cl zo zq (x2.1,x2.2.1,x2.2.2.1,x2.2.2.2.1,x2.q.1,x2.q.2.1,A.fI .ins 1 x.q.2.2.1,x3.1,x2.q.2.2.2.1,()) fun x4=>
 A.ret _ (x4.1,x4.2.1,x4.2.2.1,x4.2.2.2.1,x4.q.1,x4.q.2.1,x4.q.2.2.1,()))<|
 A.l1 .b (A.cmp .eql (A.fI .ins 0 x.q.2.2.1) (A.lit 8)) fun x2=>
 A.cond x2.1 (A.cl ajl ajm (A.fI .ins 3 x.q.2.2.1,()) fun x3=>
 A.cl Mv Mw (x.1,x.2.1,x.2.2.1,x.2.2.2.1,x.q.1,x.q.2.1,A.lit 3,A.fI .ins 2 x.q.2.2.1,A.mkX .iop (A.lit 1,A.lit 0,A.lit 0,x3.1,A.lit 0,()),x.o.1,()) fun x4=>
 A.l1 .i x4.q.2.2.1 fun x5=>
 A.cl zo zq (x4.1,x4.2.1,x4.2.2.1,x4.2.2.2.1,x4.q.1,x4.q.2.1,A.fI .ins 1 x.q.2.2.1,x5.1,x4.q.2.2.2.1,()) fun x6=>
 A.ret _ (x6.1,x6.2.1,x6.2.2.1,x6.2.2.2.1,x6.q.1,x6.q.2.1,x6.q.2.2.1,()))<|
 A.l1 .b (A.cmp .eql (A.fI .ins 0 x.q.2.2.1) (A.lit 9)) fun x3=>
 A.bind [.i,.i,.b,.l .iop,.i,.i,.i,.i,.i,.i,.x .ins,.i,.i,.i,.i,.i,.i] (A.cond x3.1 (A.ret _ (x.q.2.2.2.1,A.fI .ins 0 x.q.2.2.1,x3.1,x.o.1,x.1,x.2.1,x.2.2.1,x.2.2.2.1,x.q.1,x.q.2.1,x.q.2.2.1,A.lit 0,A.lit 0,A.lit 0,A.lit 0,A.lit 0,A.lit 0,()))<|
 A.l1 .b (A.cmp .eql (A.fI .ins 0 x.q.2.2.1) (A.lit 10)) fun x4=>
 A.ret _ (x.q.2.2.2.1,A.fI .ins 0 x.q.2.2.1,x4.1,x.o.1,x.1,x.2.1,x.2.2.1,x.2.2.2.1,x.q.1,x.q.2.1,x.q.2.2.1,A.lit 0,A.lit 0,A.lit 0,A.lit 0,A.lit 0,A.lit 0,())) fun x4=>
 A.cond x4.2.2.1 (A.cl ajj ajk (x4.q.1,x4.q.2.1,x4.q.2.2.1,x4.q.2.2.2.1,x4.o.1,x4.o.2.1,x4.o.2.2.1,x4.1,x4.2.2.2.1,()) fun x5=>
 A.ret _ (x5.1,x5.2.1,x5.2.2.1,x5.2.2.2.1,x5.q.1,x5.q.2.1,x5.q.2.2.1,()))<|
 A.l1 .b (A.cmp .eql x4.2.1 (A.lit 14)) fun x5=>
 A.cond x5.1 (A.cl pz pE (x4.q.1,x4.q.2.1,x4.q.2.2.1,x4.q.2.2.2.1,x4.o.1,x4.o.2.1,A.fI .ins 1 x4.o.2.2.1,x4.2.2.2.1,()) fun x6=>
 A.l1 .i x6.q.2.2.1 fun x7=>
 A.cl l5 l6 (x6.1,x6.2.1,x6.2.2.1,x6.2.2.2.1,x6.q.1,x6.q.2.1,A.mkX .iop (A.lit 7,x7.1,A.lit 0,A.lit 0,x4.1,()),x6.q.2.2.2.1,()) fun x8=>
 A.l1 .i x8.q.2.2.1 fun x9=>
 A.ret _ (x8.1,x8.2.1,x8.2.2.1,x8.2.2.2.1,x8.q.1,x8.q.2.1,x8.q.2.2.2.1,()))<|
 A.l1 .b (A.cmp .eql x4.2.1 (A.lit 15)) fun x6=>
 A.cond x6.1 (A.cl l5 l6 (x4.q.1,x4.q.2.1,x4.q.2.2.1,x4.q.2.2.2.1,x4.o.1,x4.o.2.1,A.mkX .iop (A.lit 6,A.lit 0,A.lit 0,A.lit 0,x4.1,()),x4.2.2.2.1,()) fun x7=>
 A.l1 .i x7.q.2.2.1 fun x8=>
 A.cl zo zq (x7.1,x7.2.1,x7.2.2.1,x7.2.2.2.1,x7.q.1,x7.q.2.1,A.fI .ins 1 x4.o.2.2.1,x8.1,x7.q.2.2.2.1,()) fun x9=>
 A.ret _ (x9.1,x9.2.1,x9.2.2.1,x9.2.2.2.1,x9.q.1,x9.q.2.1,x9.q.2.2.1,()))<|
 A.l1 .b (A.cmp .eql x4.2.1 (A.lit 11)) fun x7=>
 A.bind [.b,.l .iop,.i,.i,.i,.i,.i,.i,.x .ins,.i,.i,.i,.i,.i,.i] (A.cond x7.1 (A.ret _ (x7.1,x4.2.2.2.1,x4.q.1,x4.q.2.1,x4.q.2.2.1,x4.q.2.2.2.1,x4.o.1,x4.o.2.1,x4.o.2.2.1,x4.o.2.2.2.1,x4.o.q.1,x4.o.q.2.1,x4.o.q.2.2.1,x4.o.q.2.2.2.1,x4.o.o.1,()))<|
 A.l1 .b (A.cmp .eql x4.2.1 (A.lit 12)) fun x8=>
 A.bind [.b,.l .iop,.i,.i,.i,.i,.i,.i,.x .ins,.i,.i,.i,.i,.i,.i] (A.cond x8.1 (A.ret _ (x8.1,x4.2.2.2.1,x4.q.1,x4.q.2.1,x4.q.2.2.1,x4.q.2.2.2.1,x4.o.1,x4.o.2.1,x4.o.2.2.1,x4.o.2.2.2.1,x4.o.q.1,x4.o.q.2.1,x4.o.q.2.2.1,x4.o.q.2.2.2.1,x4.o.o.1,()))<|
 A.l1 .b (A.cmp .eql x4.2.1 (A.lit 13)) fun x9=>
 A.ret _ (x9.1,x4.2.2.2.1,x4.q.1,x4.q.2.1,x4.q.2.2.1,x4.q.2.2.2.1,x4.o.1,x4.o.2.1,x4.o.2.2.1,x4.o.2.2.2.1,x4.o.q.1,x4.o.q.2.1,x4.o.q.2.2.1,x4.o.q.2.2.2.1,x4.o.o.1,())) fun x9=>
 A.ret _ (x9.1,x9.2.1,x9.2.2.1,x9.2.2.2.1,x9.q.1,x9.q.2.1,x9.q.2.2.1,x9.q.2.2.2.1,x9.o.1,x9.o.2.1,x9.o.2.2.1,x9.o.2.2.2.1,x9.o.q.1,x9.o.q.2.1,x9.o.q.2.2.1,())) fun x8=>
 A.cond x8.1 (A.cl ajh aji (x8.2.2.1,x8.2.2.2.1,x8.q.1,x8.q.2.1,x8.q.2.2.1,x8.q.2.2.2.1,x8.o.1,x8.2.1,()) fun x9=>
 A.ret _ (x9.1,x9.2.1,x9.2.2.1,x9.2.2.2.1,x9.q.1,x9.q.2.1,x9.q.2.2.1,()))<|
 A.cl Mv Mw (x8.2.2.1,x8.2.2.2.1,x8.q.1,x8.q.2.1,x8.q.2.2.1,x8.q.2.2.2.1,A.arith .add .i64 (A.arith .sub .i64 (A.fI .ins 0 x8.o.1) (A.lit 3)) (A.lit 1),A.fI .ins 2 x8.o.1,A.mkX .iop (A.lit 2,A.lit 0,A.lit 0,A.fI .ins 3 x8.o.1,A.lit 0,()),x8.2.1,()) fun x9=>
 A.l1 .i x9.q.2.2.1 fun x10=>
 A.cl zo zq (x9.1,x9.2.1,x9.2.2.1,x9.2.2.2.1,x9.q.1,x9.q.2.1,A.fI .ins 1 x8.o.1,x10.1,x9.q.2.2.2.1,()) fun x11=>
 A.ret _ (x11.1,x11.2.1,x11.2.2.1,x11.2.2.2.1,x11.q.1,x11.q.2.1,x11.q.2.2.1,())
def IC (A:Alg) (ajn:Pt A Cn) (ajo:Ft A Cn) (ajp:Pt A Cv) (ajq:Ft A Cv) (x:Tup A.ah [.i,.l .ins]):Ot A Cw:=
 A.cl ajn ajo (x.1,x.2.1,()) fun x0=>
 A.cond (A.aA x0.1) (A.ret _ (A.lit 0,A.lit 0,A.lit 0,A.lit 0,A.lit 0,A.lit 0,A.bC .iop,()))<|
 A.l1 .i (A.lit 0) fun x1=>
 A.iter [.l .ins,.i,.i,.i,.i,.i,.i,.i,.i,.i,.i,.i,.i,.i,.l .iop] (fun x2=>
 A.cond (A.cmp .lss x2.2.1 (A.len .ins x2.1)) (A.bd .ins x2.1 x2.2.1<|
 A.cl ajp ajq (x2.o.1,x2.o.2.1,x2.o.2.2.1,x2.o.2.2.2.1,x2.o.q.1,x2.o.q.2.1,A.get .ins x2.1 x2.2.1,x2.2.1,x2.o.q.2.2.1,()) fun x3=>
 A.l1 .i (A.arith .add .i64 x2.2.1 (A.lit 1)) fun x4=>
 A.inl _ (x2.1,x4.1,x2.2.2.1,x2.2.2.2.1,x2.q.1,x2.q.2.1,x2.q.2.2.1,x2.q.2.2.2.1,x3.1,x3.2.1,x3.2.2.1,x3.2.2.2.1,x3.q.1,x3.q.2.1,x3.q.2.2.1,()))<|
 A.inr _<|A.ret _ (x2.o.1,x2.o.2.1,x2.o.2.2.1,x2.o.2.2.2.1,x2.o.q.1,x2.o.q.2.1,x2.o.q.2.2.1,())) (x.2.1,x1.1,A.lit 0,A.lit 0,A.lit 0,A.lit 0,A.lit 0,A.lit 0,x.1,A.len .ins x.2.1,A.lit 1,A.lit 0,A.lit 0,A.arith .add .i64 x.1 (A.len .ins x.2.1),A.bC .iop,())
def IE (A:Alg) (ajr:Pt A Cw) (ajs:Ft A Cw) (ajt:Pt A Ch) (aju:Ft A Ch) (Tp:Pt A uM) (Tq:Ft A uM) (aO:Pt A bY) (aP:Ft A bY) (ajv:Pt A Cm) (ajw:Ft A Cm) (x:Tup A.ah [.l .u8,.i]):Ot A Cx:=
 A.cl ajv ajw (x.1,x.2.1,()) fun x0=>
 A.cl aO aP (A.lit 50,x0.1,x0.2.1,()) fun x1=>
 A.l1 (.l .i64) (A.lst .i64 [A.mkX .i64 (A.lit 0,()),A.mkX .i64 (A.lit 1,()),A.mkX .i64 (x1.1,()),A.mkX .i64 (A.arith .sub .i64 (A.lit 64) (A.len .ins x0.2.2.1),())]) fun x2=>
 A.cl aO aP (A.lit 4,x1.2.1,x1.2.2.1,()) fun x3=>
 A.bd .i64 x2.1 x3.1<|
 A.bd .i64 x2.1 x3.1<|
 A.cl ajr ajs (A.fI .i64 0 (A.get .i64 x2.1 x3.1),x0.2.2.1,()) fun x4=>
 A.cl aO aP (A.lit 5,x3.2.1,x3.2.2.1,()) fun x5=>
 A.l1 .b (A.cmp .eql x5.1 (A.lit 0)) fun x6=>
 A.cond x6.1 (A.cl ajt aju (A.mkX .blk (x4.1,x4.2.1,x4.q.2.2.1,x4.2.2.1,x4.2.2.2.1,x4.q.1,x4.q.2.1,()),()) fun x7=>
 A.ret _ (x7.1,x7.2.1,x7.2.2.1,x7.2.2.2.1,x7.q.1,x7.q.2.1,x5.2.1,x5.2.2.1,x7.q.2.2.1,()))<|
 A.l1 .b (A.cmp .eql x5.1 (A.lit 1)) fun x7=>
 A.cond x7.1 (A.cl Tp Tq (A.mkX .blk (x4.1,x4.2.1,x4.q.2.2.1,x4.2.2.1,x4.2.2.2.1,x4.q.1,x4.q.2.1,()),()) fun x8=>
 A.ret _ (x8.1,x8.2.1,x8.2.2.1,x8.2.2.2.1,x8.q.1,x8.q.2.1,x5.2.1,x5.2.2.1,x8.q.2.2.1,()))<|
 A.ret _ (x4.1,x4.2.1,x4.2.2.1,x4.2.2.2.1,x4.q.1,x4.q.2.1,x5.2.1,x5.2.2.1,x4.q.2.2.1,())
def Zk (A:Alg) (x:Tup A.ah [.i]):Ot A Ml:=
 A.l1 .b (A.bl false) fun x0=>
 A.rb (A.cmp .neq x.1 x.1)
def Zl (A:Alg) (Zm:Pt A Ml) (Zn:Ft A Ml) (x:Tup A.ah [.i,.i]):Ot A Em:=
 A.l1 .i (A.lit 0) fun x0=>
 A.cl Zm Zn (x.1,()) fun x1=>
 A.l1 .b x1.1 fun x2=>
 A.cl Zm Zn (x.2.1,()) fun x3=>
 A.l1 .b x3.1 fun x4=>
 A.cond x2.1 (A.cond x4.1 (A.l1 .i (A.lit 0) fun x5=>
 A.ret _ (x5.1,()))<|
 A.l1 .i (A.lit (-1)) fun x5=>
 A.ret _ (x5.1,()))<|
 A.cond x4.1 (A.l1 .i (A.lit 1) fun x5=>
 A.ret _ (x5.1,()))<|
 A.cond (A.cmp .lss x.1 x.2.1) (A.l1 .i (A.lit (-1)) fun x5=>
 A.ret _ (x5.1,()))<|
 A.cond (A.cmp .gtr x.1 x.2.1) (A.l1 .i (A.lit 1) fun x5=>
 A.ret _ (x5.1,()))<|
 A.l1 .i (A.lit 0) fun x5=>
 A.ret _ (x5.1,())
def Zo (A:Alg) (x:Tup A.ah [.l .i64]):Ot A Mq:=
 A.l1 .i (A.lit 0) fun x0=>
 A.l1 .i (A.lit 0) fun x1=>
 A.iter [.i,.l .i64,.i,.i] (fun x2=>
 A.cond (A.cmp .lss x2.2.2.2.1 x2.2.2.1) (A.bd .i64 x2.2.1 x2.2.2.2.1<|
 A.l1 .i (A.fI .i64 0 (A.get .i64 x2.2.1 x2.2.2.2.1)) fun x3=>
 A.cond (A.cmp .neq x3.1 x2.1) (A.l1 .i x3.1 fun x4=>
 A.inr _<|A.ret _ (x4.1,()))<|
 A.inl _ (x2.1,x2.2.1,x2.2.2.1,A.arith .add .i64 x2.2.2.2.1 (A.lit 1),()))<|
 A.inr _<|A.l1 .i x2.1 fun x3=>
 A.ret _ (x3.1,())) (x1.1,x.1,A.len .i64 x.1,A.lit 0,())
def PK (A:Alg) (X0:Pt A Em) (X3:Ft A Em) (x:Tup A.ah [.l .i64,.l .i64]):Ot A Kc:=
 A.l1 .i (A.lit 0) fun x0=>
 A.iter [.l .i64,.l .i64,.l .i64,.i,.i] (fun x1=>
 A.cond (A.cmp .lss x1.q.1 x1.2.2.2.1) (A.bd .i64 x1.2.2.1 x1.q.1<|
 A.l1 .i x1.q.1 fun x2=>
 A.l1 .i (A.fI .i64 0 (A.get .i64 x1.2.2.1 x1.q.1)) fun x3=>
 A.cond (A.cmp .geq x2.1 (A.len .i64 x1.2.1)) (A.l1 .i (A.lit 1) fun x4=>
 A.inr _<|A.ret _ (x4.1,()))<|
 A.bd .i64 x1.2.1 x2.1<|
 A.l1 .i (A.fI .i64 0 (A.get .i64 x1.2.1 x2.1)) fun x4=>
 A.cl X0 X3 (x3.1,x4.1,()) fun x5=>
 A.l1 .i x5.1 fun x6=>
 A.cond (A.cmp .neq x6.1 (A.lit 0)) (A.l1 .i x6.1 fun x7=>
 A.inr _<|A.ret _ (x7.1,()))<|
 A.inl _ (x1.1,x1.2.1,x1.2.2.1,x1.2.2.2.1,A.arith .add .i64 x1.q.1 (A.lit 1),()))<|
 A.inr _<|A.cond (A.cmp .lss (A.len .i64 x1.1) (A.len .i64 x1.2.1)) (A.l1 .i (A.lit (-1)) fun x2=>
 A.ret _ (x2.1,()))<|
 A.l1 .i (A.lit 0) fun x2=>
 A.ret _ (x2.1,())) (x.1,x.2.1,x.1,A.len .i64 x.1,A.lit 0,())
def PL (A:Alg) (ajx:Pt A Mq) (ajy:Ft A Mq) (X0:Pt A Em) (X3:Ft A Em) (anK:Pt A Kc) (anL:Ft A Kc) (x:Tup A.ah [.l .i64,.l .i64]):Ot A nY:=
 A.l1 .i (A.lit 0) fun x0=>
 A.cl X0 X3 (A.len .i64 x.1,A.len .i64 x.2.1,()) fun x1=>
 A.cl anK anL (x.1,x.2.1,()) fun x2=>
 A.l1 (.l .i64) (A.lst .i64 [A.mkX .i64 (x1.1,()),A.mkX .i64 (x2.1,())]) fun x3=>
 A.cl ajx ajy (x3.1,()) fun x4=>
 A.l1 .i x4.1 fun x5=>
 A.ret _ (x5.1,())
def PN (A:Alg) (x:Tup A.ah [.i,.i,.i]):Ot A dA:=
 A.l1 .b (A.bl false) fun x0=>
 A.rb (A.au (A.cmp .leq x.2.1 x.1) (A.cmp .leq x.1 x.2.2.1) (A.bl false))
def Zp (A:Alg) (Zm:Pt A Ml) (Zn:Ft A Ml) (x:Tup A.ah [.i,.i]):Ot A En:=
 A.l1 .b (A.bl false) fun x0=>
 A.cl Zm Zn (x.1,()) fun x1=>
 A.cg x1.1 Zm Zn (x.2.1,()) fun x2=>
 A.rb (A.au (A.au x1.1 (A.aA x2.1) (A.bl false)) (A.bl true) (A.cmp .lss x.1 x.2.1))
def IG (A:Alg) (Zq:Pt A En) (Zr:Ft A En) (x:Tup A.ah [.l .i64]):Ot A Cy:=
 A.l1 .b (A.bl false) fun x0=>
 A.l1 .i (A.arith .sub .i64 (A.len .i64 x.1) (A.lit 1)) fun x1=>
 A.iter [.l .i64,.i] (fun x2=>
 A.cond (A.cmp .gtr x2.2.1 (A.lit 0)) (A.bd .i64 x2.1 x2.2.1<|
 A.bd .i64 x2.1 (A.arith .sub .i64 x2.2.1 (A.lit 1))<|
 A.cl Zq Zr (A.fI .i64 0 (A.get .i64 x2.1 x2.2.1),A.fI .i64 0 (A.get .i64 x2.1 (A.arith .sub .i64 x2.2.1 (A.lit 1))),()) fun x3=>
 A.cond x3.1 (A.l1 .b (A.bl false) fun x4=>
 A.inr _<|A.ret _ (x4.1,()))<|
 A.l1 .i (A.arith .sub .i64 x2.2.1 (A.lit 1)) fun x4=>
 A.inl _ (x2.1,x4.1,()))<|
 A.inr _<|A.rb (A.bl true)) (x.1,x1.1,())
def PO (A:Alg) (x:Tup A.ah [.i,.i]):Ot A Ke:=
 A.l1 .b (A.bl false) fun x0=>
 A.l1 .b (A.cmp .geq x.1 x.2.1) fun x1=>
 A.ret _ (x1.1,x.2.1,())
def II (A:Alg) (anM:Pt A Ke) (anN:Ft A Ke) (x:Tup A.ah [.l .i64,.i]):Ot A Cz:=
 A.l1 .i (A.lit 0) fun x0=>
 A.iter [.l .i64,.i,.i,.i] (fun x1=>
 A.cond (A.cmp .lss x1.2.2.1 x1.2.1) (A.l1 .i x1.2.2.1 fun x2=>
 A.bd .i64 x1.1 x2.1<|
 A.cl anM anN (A.fI .i64 0 (A.get .i64 x1.1 x2.1),x1.2.2.2.1,()) fun x3=>
 A.cond x3.1 (A.l1 .i x2.1 fun x4=>
 A.inr _<|A.ret _ (x4.1,x3.2.1,()))<|
 A.inl _ (x1.1,x1.2.1,A.arith .add .i64 x1.2.2.1 (A.lit 1),x3.2.1,()))<|
 A.inr _<|A.l1 .i (A.lit (-1)) fun x2=>
 A.ret _ (x2.1,x1.2.2.2.1,())) (x.1,A.len .i64 x.1,A.lit 0,x.2.1,())
def IJ (A:Alg) (ajz:Pt A Cz) (ajA:Ft A Cz) (x:Tup A.ah [.l .i64,.i]):Ot A CB:=
 A.l1 .b (A.bl false) fun x0=>
 A.cl ajz ajA (x.1,x.2.1,()) fun x1=>
 A.l1 .b (A.cmp .geq x1.1 (A.lit 0)) fun x2=>
 A.ret _ (x2.1,x1.2.1,())
def PS (A:Alg) (ajB:Pt A CB) (ajC:Ft A CB) (x:Tup A.ah [.x .poly,.i]):Ot A Ah:=
 A.l1 .b (A.bl false) fun x0=>
 A.iter [.l .mono,.i,.i,.i] (fun x1=>
 A.cond (A.cmp .lss x1.2.2.1 x1.2.1) (A.bd .mono x1.1 x1.2.2.1<|
 A.l1 (.x .mono) (A.get .mono x1.1 x1.2.2.1) fun x2=>
 A.cl ajB ajC (A.fL .mono 1 .i64 x2.1,x1.2.2.2.1,()) fun x3=>
 A.cond x3.1 (A.l1 .b (A.bl false) fun x4=>
 A.inr _<|A.ret _ (x4.1,()))<|
 A.inl _ (x1.1,x1.2.1,A.arith .add .i64 x1.2.2.1 (A.lit 1),x3.2.1,()))<|
 A.inr _<|A.rb (A.bl true)) (A.fL .poly 0 .mono x.1,A.len .mono (A.fL .poly 0 .mono x.1),A.lit 0,x.2.1,())
def PU (A:Alg) (x:Tup A.ah [.x .mono]):Ot A Kg:=
 A.l1 .b (A.bl false) fun x0=>
 A.chk (A.orB (A.aA (A.cmp .gtr (A.len .i64 (A.fL .mono 1 .i64 x.1)) (A.lit 0))) (A.cmp .leq (A.lit 0) (A.lit 0)))<|
 A.chk (A.orB (A.aA (A.cmp .gtr (A.len .i64 (A.fL .mono 1 .i64 x.1)) (A.lit 0))) (A.cmp .lss (A.lit 0) (A.len .i64 (A.fL .mono 1 .i64 x.1))))<|
 A.rb (A.au (A.cmp .gtr (A.len .i64 (A.fL .mono 1 .i64 x.1)) (A.lit 0)) (A.cmp .lss (A.fI .i64 0 (A.get .i64 (A.fL .mono 1 .i64 x.1) (A.lit 0))) (A.lit 0)) (A.bl false))
def IK (A:Alg) (anO:Pt A Kg) (anP:Ft A Kg) (x:Tup A.ah [.l .mono]):Ot A CF:=
 A.l1 .i (A.lit 0) fun x0=>
 A.iter [.l .mono,.i,.i] (fun x1=>
 A.cond (A.cmp .lss x1.2.2.1 x1.2.1) (A.l1 .i x1.2.2.1 fun x2=>
 A.bd .mono x1.1 x2.1<|
 A.cl anO anP (A.get .mono x1.1 x2.1,()) fun x3=>
 A.cond x3.1 (A.l1 .i x2.1 fun x4=>
 A.inr _<|A.ret _ (x4.1,()))<|
 A.inl _ (x1.1,x1.2.1,A.arith .add .i64 x1.2.2.1 (A.lit 1),()))<|
 A.inr _<|A.l1 .i (A.lit (-1)) fun x2=>
 A.ret _ (x2.1,())) (x.1,A.len .mono x.1,A.lit 0,())
def IL (A:Alg) (ajD:Pt A CF) (ajE:Ft A CF) (x:Tup A.ah [.l .mono]):Ot A CG:=
 A.l1 .b (A.bl false) fun x0=>
 A.cl ajD ajE (x.1,()) fun x1=>
 A.rb (A.cmp .geq x1.1 (A.lit 0))
def PW (A:Alg) (gu:Pt A dA) (gy:Ft A dA) (VQ:Pt A Ah) (VR:Ft A Ah) (ajF:Pt A Cy) (ajG:Ft A Cy) (IQ:Pt A nY) (IU:Ft A nY) (ajH:Pt A CG) (ajI:Ft A CG) (x:Tup A.ah [.x .poly]):Ot A jk:=
 A.l1 .b (A.bl false) fun x0=>
 A.iter [.l .mono,.i,.i,.x .poly] (fun x1=>
 A.cond (A.cmp .lss x1.2.2.1 x1.2.1) (A.bd .mono x1.1 x1.2.2.1<|
 A.l1 .i x1.2.2.1 fun x2=>
 A.l1 (.x .mono) (A.get .mono x1.1 x1.2.2.1) fun x3=>
 A.cl gu gy (A.fI .mono 0 x3.1,A.lit 1,A.lit 65535,()) fun x4=>
 A.cg (A.aA (A.au (A.aA x4.1) (A.bl true) (A.cmp .gtr (A.len .i64 (A.fL .mono 1 .i64 x3.1)) (A.lit 4)))) ajF ajG (A.fL .mono 1 .i64 x3.1,()) fun x5=>
 A.chk (A.orB (A.aA (A.jH (A.aA (A.au (A.au (A.aA x4.1) (A.bl true) (A.cmp .gtr (A.len .i64 (A.fL .mono 1 .i64 x3.1)) (A.lit 4))) (A.bl true) (A.aA x5.1))) (A.cmp .gtr x2.1 (A.lit 0)))) (A.cmp .leq (A.lit 0) (A.arith .sub .i64 x2.1 (A.lit 1))))<|
 A.chk (A.orB (A.aA (A.jH (A.aA (A.au (A.au (A.aA x4.1) (A.bl true) (A.cmp .gtr (A.len .i64 (A.fL .mono 1 .i64 x3.1)) (A.lit 4))) (A.bl true) (A.aA x5.1))) (A.cmp .gtr x2.1 (A.lit 0)))) (A.cmp .lss (A.arith .sub .i64 x2.1 (A.lit 1)) (A.len .mono (A.fL .poly 0 .mono x1.2.2.2.1))))<|
 A.cg (A.jH (A.aA (A.au (A.au (A.aA x4.1) (A.bl true) (A.cmp .gtr (A.len .i64 (A.fL .mono 1 .i64 x3.1)) (A.lit 4))) (A.bl true) (A.aA x5.1))) (A.cmp .gtr x2.1 (A.lit 0))) IQ IU (A.fL .mono 1 .i64 (A.get .mono (A.fL .poly 0 .mono x1.2.2.2.1) (A.arith .sub .i64 x2.1 (A.lit 1))),A.fL .mono 1 .i64 x3.1,()) fun x6=>
 A.cond (A.au (A.au (A.au (A.aA x4.1) (A.bl true) (A.cmp .gtr (A.len .i64 (A.fL .mono 1 .i64 x3.1)) (A.lit 4))) (A.bl true) (A.aA x5.1)) (A.bl true) (A.au (A.cmp .gtr x2.1 (A.lit 0)) (A.cmp .geq x6.1 (A.lit 0)) (A.bl false))) (A.l1 .b (A.bl false) fun x7=>
 A.inr _<|A.ret _ (x7.1,()))<|
 A.inl _ (x1.1,x1.2.1,A.arith .add .i64 x1.2.2.1 (A.lit 1),x1.2.2.2.1,()))<|
 A.inr _<|A.cg (A.cmp .leq (A.len .mono (A.fL .poly 0 .mono x1.2.2.2.1)) (A.lit 12)) VQ VR (x1.2.2.2.1,A.lit 200,()) fun x2=>
 A.cg (A.au (A.cmp .leq (A.len .mono (A.fL .poly 0 .mono x1.2.2.2.1)) (A.lit 12)) x2.1 (A.bl false)) ajH ajI (A.fL .poly 0 .mono x1.2.2.2.1,()) fun x3=>
 A.rb (A.au (A.au (A.cmp .leq (A.len .mono (A.fL .poly 0 .mono x1.2.2.2.1)) (A.lit 12)) x2.1 (A.bl false)) (A.aA x3.1) (A.bl false))) (A.fL .poly 0 .mono x.1,A.len .mono (A.fL .poly 0 .mono x.1),A.lit 0,x.1,())
def PX (A:Alg) (mM:Pt A jk) (mO:Ft A jk) (x:Tup A.ah [.x .poly]):Ot A Ai:=
 A.l1 .i (A.lit 0) fun x0=>
 A.l1 .b (A.bl false) fun x1=>
 A.cl mM mO (x.1,()) fun x2=>
 A.l1 .b (A.aA x2.1) fun x3=>
 A.cond x3.1 (A.l1 .i (A.lit 0) fun x4=>
 A.l1 .b (A.bl false) fun x5=>
 A.ret _ (x4.1,x5.1,()))<|
 A.l1 .b (A.cmp .eql (A.len .mono (A.fL .poly 0 .mono x.1)) (A.lit 0)) fun x4=>
 A.cond x4.1 (A.l1 .i (A.lit 0) fun x5=>
 A.l1 .b (A.bl true) fun x6=>
 A.ret _ (x5.1,x6.1,()))<|
 A.chk (A.orB (A.aA (A.cmp .eql (A.len .mono (A.fL .poly 0 .mono x.1)) (A.lit 1))) (A.cmp .leq (A.lit 0) (A.lit 0)))<|
 A.chk (A.orB (A.aA (A.cmp .eql (A.len .mono (A.fL .poly 0 .mono x.1)) (A.lit 1))) (A.cmp .lss (A.lit 0) (A.len .mono (A.fL .poly 0 .mono x.1))))<|
 A.l1 .b (A.au (A.cmp .eql (A.len .mono (A.fL .poly 0 .mono x.1)) (A.lit 1)) (A.cmp .eql (A.len .i64 (A.fL .mono 1 .i64 (A.get .mono (A.fL .poly 0 .mono x.1) (A.lit 0)))) (A.lit 0)) (A.bl false)) fun x5=>
 A.cond x5.1 (A.bd .mono (A.fL .poly 0 .mono x.1) (A.lit 0)<|
 A.l1 .i (A.fI .mono 0 (A.get .mono (A.fL .poly 0 .mono x.1) (A.lit 0))) fun x6=>
 A.l1 .b (A.bl true) fun x7=>
 A.ret _ (x6.1,x7.1,()))<|
 A.l1 .i (A.lit 0) fun x6=>
 A.l1 .b (A.bl false) fun x7=>
 A.ret _ (x6.1,x7.1,())
def PY (A:Alg) (ajx:Pt A Mq) (ajy:Ft A Mq) (X0:Pt A Em) (X3:Ft A Em) (IQ:Pt A nY) (IU:Ft A nY) (x:Tup A.ah [.x .poly,.x .poly]):Ot A vI:=
 A.l1 .i (A.lit 0) fun x0=>
 A.cl X0 X3 (A.len .mono (A.fL .poly 0 .mono x.1),A.len .mono (A.fL .poly 0 .mono x.2.1),()) fun x1=>
 A.l1 .i x1.1 fun x2=>
 A.cond (A.cmp .neq x2.1 (A.lit 0)) (A.l1 .i x2.1 fun x3=>
 A.ret _ (x3.1,()))<|
 A.iter [.l .mono,.i,.i,.x .poly] (fun x3=>
 A.cond (A.cmp .lss x3.2.2.1 x3.2.1) (A.bd .mono x3.1 x3.2.2.1<|
 A.l1 .i x3.2.2.1 fun x4=>
 A.l1 (.x .mono) (A.get .mono x3.1 x3.2.2.1) fun x5=>
 A.bd .mono (A.fL .poly 0 .mono x3.2.2.2.1) x4.1<|
 A.bd .mono (A.fL .poly 0 .mono x3.2.2.2.1) x4.1<|
 A.cl IQ IU (A.fL .mono 1 .i64 x5.1,A.fL .mono 1 .i64 (A.get .mono (A.fL .poly 0 .mono x3.2.2.2.1) x4.1),()) fun x6=>
 A.cl X0 X3 (A.fI .mono 0 x5.1,A.fI .mono 0 (A.get .mono (A.fL .poly 0 .mono x3.2.2.2.1) x4.1),()) fun x7=>
 A.cl ajx ajy (A.lst .i64 [A.mkX .i64 (x6.1,()),A.mkX .i64 (x7.1,())],()) fun x8=>
 A.l1 .i x8.1 fun x9=>
 A.cond (A.cmp .neq x9.1 (A.lit 0)) (A.l1 .i x9.1 fun x10=>
 A.inr _<|A.ret _ (x10.1,()))<|
 A.inl _ (x3.1,x3.2.1,A.arith .add .i64 x3.2.2.1 (A.lit 1),x3.2.2.2.1,()))<|
 A.inr _<|A.l1 .i (A.lit 0) fun x4=>
 A.ret _ (x4.1,())) (A.fL .poly 0 .mono x.1,A.len .mono (A.fL .poly 0 .mono x.1),A.lit 0,x.2.1,())
def PZ (A:Alg) (x:Tup A.ah [.l .i64]):Ot A Aj:=
 A.chk (A.cmp .leq (A.len .i64 x.1) (A.lit 1073741824))<|
 A.l1 (.l .i64) x.1 fun x0=>
 A.ret _ (x0.1,())
def P6 (A:Alg) (Zt:Pt A Aj) (Zu:Ft A Aj) (x:Tup A.ah [.x .poly]):Ot A vJ:=
 A.iter [.l .mono,.i,.i,.l .mono] (fun x0=>
 A.cond (A.cmp .lss x0.2.2.1 x0.2.1) (A.bd .mono x0.1 x0.2.2.1<|
 A.l1 (.x .mono) (A.get .mono x0.1 x0.2.2.1) fun x1=>
 A.cl Zt Zu (A.fL .mono 1 .i64 x1.1,()) fun x2=>
 A.l1 (.l .mono) (A.lst .mono [A.mkX .mono (A.fI .mono 0 x1.1,x2.1,())]) fun x3=>
 A.chk (A.cmp .leq (A.addN (A.len .mono x0.2.2.2.1) (A.len .mono x3.1)) (A.lit 1073741824))<|
 A.l1 (.l .mono) (A.app .mono x0.2.2.2.1 x3.1) fun x4=>
 A.inl _ (x0.1,x0.2.1,A.arith .add .i64 x0.2.2.1 (A.lit 1),x4.1,()))<|
 A.inr _<|A.ret _ (x0.2.2.2.1,())) (A.fL .poly 0 .mono x.1,A.len .mono (A.fL .poly 0 .mono x.1),A.lit 0,A.bC .mono,())
def P7 (A:Alg) (AB:Pt A vJ) (AJ:Ft A vJ) (x:Tup A.ah [.l .poly]):Ot A Kh:=
 A.iter [.l .poly,.i,.i,.l .poly] (fun x0=>
 A.cond (A.cmp .lss x0.2.2.1 x0.2.1) (A.bd .poly x0.1 x0.2.2.1<|
 A.l1 (.x .poly) (A.get .poly x0.1 x0.2.2.1) fun x1=>
 A.cl AB AJ (x1.1,()) fun x2=>
 A.l1 (.l .poly) (A.lst .poly [A.mkX .poly (x2.1,())]) fun x3=>
 A.chk (A.cmp .leq (A.addN (A.len .poly x0.2.2.2.1) (A.len .poly x3.1)) (A.lit 1073741824))<|
 A.l1 (.l .poly) (A.app .poly x0.2.2.2.1 x3.1) fun x4=>
 A.inl _ (x0.1,x0.2.1,A.arith .add .i64 x0.2.2.1 (A.lit 1),x4.1,()))<|
 A.inr _<|A.ret _ (x0.2.2.2.1,())) (x.1,A.len .poly x.1,A.lit 0,A.bC .poly,())
def P8 (A:Alg) (AB:Pt A vJ) (AJ:Ft A vJ) (afR:Pt A Kh) (afS:Ft A Kh) (x:Tup A.ah [.x .sym]):Ot A Ki:=
 A.cl afR afS (A.fL .sym 1 .poly x.1,()) fun x0=>
 A.cl AB AJ (A.mkX .poly (A.fL .sym 3 .mono x.1,()),()) fun x1=>
 A.cl AB AJ (A.mkX .poly (A.fL .sym 4 .mono x.1,()),()) fun x2=>
 A.iter [.l .ev,.i,.i,.i,.i,.i,.i,.l .ev,.l .poly,.l .mono,.l .mono] (fun x3=>
 A.cond (A.cmp .lss x3.2.2.1 x3.2.1) (A.bd .ev x3.1 x3.2.2.1<|
 A.l1 (.x .ev) (A.get .ev x3.1 x3.2.2.1) fun x4=>
 A.cl AB AJ (A.mkX .poly (A.fL .ev 2 .mono x4.1,()),()) fun x5=>
 A.cl AB AJ (A.mkX .poly (A.fL .ev 3 .mono x4.1,()),()) fun x6=>
 A.cl afR afS (A.fL .ev 4 .poly x4.1,()) fun x7=>
 A.l1 (.l .ev) (A.lst .ev [A.mkX .ev (A.fI .ev 0 x4.1,A.fI .ev 1 x4.1,x5.1,x6.1,x7.1,())]) fun x8=>
 A.chk (A.cmp .leq (A.addN (A.len .ev x3.q.2.2.2.1) (A.len .ev x8.1)) (A.lit 1073741824))<|
 A.l1 (.l .ev) (A.app .ev x3.q.2.2.2.1 x8.1) fun x9=>
 A.inl _ (x3.1,x3.2.1,A.arith .add .i64 x3.2.2.1 (A.lit 1),x3.2.2.2.1,x3.q.1,x3.q.2.1,x3.q.2.2.1,x9.1,x3.o.1,x3.o.2.1,x3.o.2.2.1,()))<|
 A.inr _<|A.ret _ (x3.q.2.1,x3.q.2.2.1,x3.q.2.2.2.1,x3.o.1,x3.o.2.1,x3.o.2.2.1,())) (A.fL .sym 0 .ev x.1,A.len .ev (A.fL .sym 0 .ev x.1),A.lit 0,A.lit 0,A.lit 0,A.fI .sym 2 x.1,A.fI .sym 5 x.1,A.bC .ev,x0.1,x1.1,x2.1,())
def P9 (A:Alg) (Qa:Pt A vI) (Qb:Ft A vI) (x:Tup A.ah [.x .poly,.x .poly]):Ot A vK:=
 A.l1 .b (A.bl false) fun x0=>
 A.cl Qa Qb (x.1,x.2.1,()) fun x1=>
 A.rb (A.cmp .eql x1.1 (A.lit 0))
def Qc (A:Alg) (gu:Pt A dA) (gy:Ft A dA) (x:Tup A.ah [.i]):Ot A jI:=
 A.l1 .b (A.bl false) fun x0=>
 A.cl gu gy (x.1,A.lit 0,A.lit 65535,()) fun x1=>
 A.rb x1.1
def Qd (A:Alg) (sS:Pt A jI) (sU:Ft A jI) (x:Tup A.ah [.i,.i,.i]):Ot A Kj:=
 A.l1 .b (A.bl false) fun x0=>
 A.cl sS sU (x.2.1,()) fun x1=>
 A.cg x1.1 sS sU (x.2.2.1,()) fun x2=>
 A.rb (A.au (A.au x1.1 x2.1 (A.bl false)) (A.au (A.au (A.cmp .eql x.1 (A.lit 1)) (A.cmp .eql x.2.1 x.2.2.1) (A.bl false)) (A.bl true) (A.au (A.cmp .eql x.1 (A.lit 2)) (A.cmp .lss x.2.1 x.2.2.1) (A.bl false))) (A.bl false))
def Qe (A:Alg) (Qf:Pt A Ai) (Qg:Ft A Ai) (mM:Pt A jk) (mO:Ft A jk) (Qa:Pt A vI) (Qb:Ft A vI) (anQ:Pt A Ki) (anR:Ft A Ki) (D8:Pt A vK) (D9:Ft A vK) (anS:Pt A Kj) (anT:Ft A Kj) (x:Tup A.ah [.x .sym,.i]):Ot A Kk:=
 A.cl mM mO (A.mkX .poly (A.fL .sym 3 .mono x.1,()),()) fun x0=>
 A.cg (A.aA (A.aA x0.1)) mM mO (A.mkX .poly (A.fL .sym 4 .mono x.1,()),()) fun x1=>
 A.cond (A.au (A.aA x0.1) (A.bl true) (A.aA x1.1)) (A.ret _ (A.mkX .sym (A.bC .ev,A.bC .poly,A.lit 0,A.bC .mono,A.bC .mono,A.lit 0,()),()))<|
 A.cl anQ anR (x.1,()) fun x2=>
 A.cl Qf Qg (A.mkX .poly (A.fL .sym 3 .mono x.1,()),()) fun x3=>
 A.l1 .i x3.1 fun x4=>
 A.l1 .b x3.2.1 fun x5=>
 A.cl Qf Qg (A.mkX .poly (A.fL .sym 4 .mono x.1,()),()) fun x6=>
 A.l1 .i x6.1 fun x7=>
 A.l1 .b x6.2.1 fun x8=>
 A.l1 .i (A.arith .add .i64 (A.arith .sub .i64 (A.fI .sym 2 x.1) (A.lit 3)) (A.lit 1)) fun x9=>
 A.l1 .b (A.au (A.cmp .eql (A.fI .sym 2 x.1) (A.lit 2)) x5.1 (A.bl false)) fun x10=>
 A.bind [.i,.i,.i,.i,.l .ev,.l .poly,.l .mono,.l .mono] (A.cond x10.1 (A.l1 .i (A.lit 1) fun x11=>
 A.l1 .i x4.1 fun x12=>
 A.ret _ (A.lit 0,A.lit 0,x11.1,x12.1,x2.2.2.1,x2.2.2.2.1,A.bC .mono,A.bC .mono,()))<|
 A.l1 .b (A.au (A.cmp .neq (A.fI .sym 2 x.1) (A.lit 3)) (A.cmp .neq (A.fI .sym 2 x.1) (A.lit 4)) (A.bl false)) fun x11=>
 A.bind [.i,.i,.i,.i,.l .ev,.l .poly,.l .mono,.l .mono] (A.cond x11.1 (A.ret _ (A.lit 0,A.lit 0,x2.1,x2.2.1,x2.2.2.1,x2.2.2.2.1,x2.q.1,x2.q.2.1,()))<|
 A.cl D8 D9 (A.mkX .poly (A.fL .sym 3 .mono x.1,()),A.mkX .poly (A.fL .sym 4 .mono x.1,()),()) fun x12=>
 A.l1 .b (A.au x12.1 (A.bl true) (A.au x5.1 x8.1 (A.bl false))) fun x13=>
 A.bind [.i,.i,.i,.i,.l .ev,.l .poly,.l .mono,.l .mono] (A.cond x13.1 (A.cl D8 D9 (A.mkX .poly (A.fL .sym 3 .mono x.1,()),A.mkX .poly (A.fL .sym 4 .mono x.1,()),()) fun x14=>
 A.cg (A.jH (A.aA (A.au x14.1 (A.cmp .eql (A.fI .sym 2 x.1) (A.lit 3)) (A.bl false))) (A.au x5.1 x8.1 (A.bl false))) anS anT (x9.1,x4.1,x7.1,()) fun x15=>
 A.l1 .b (A.au (A.au x14.1 (A.cmp .eql (A.fI .sym 2 x.1) (A.lit 3)) (A.bl false)) (A.bl true) (A.au (A.au x5.1 x8.1 (A.bl false)) x15.1 (A.bl false))) fun x16=>
 A.l1 .i (A.lit 1) fun x17=>
 A.bind [.i,.i,.i,.i,.l .ev,.l .poly] (A.cond (A.aA x16.1) (A.l1 .i x.2.1 fun x18=>
 A.ret _ (A.lit 0,A.lit 0,x17.1,x18.1,x2.2.2.1,x2.2.2.2.1,()))<|
 A.ret _ (A.lit 0,A.lit 0,x17.1,x2.2.1,x2.2.2.1,x2.2.2.2.1,())) fun x18=>
 A.ret _ (x18.1,x18.2.1,x18.2.2.1,x18.2.2.2.1,x18.q.1,x18.q.2.1,A.bC .mono,A.bC .mono,()))<|
 A.cg (A.cmp .eql (A.fI .sym 2 x.1) (A.lit 3)) Qa Qb (A.mkX .poly (A.fL .sym 3 .mono x.1,()),A.mkX .poly (A.fL .sym 4 .mono x.1,()),()) fun x14=>
 A.l1 .b (A.au (A.cmp .eql (A.fI .sym 2 x.1) (A.lit 3)) (A.cmp .gtr x14.1 (A.lit 0)) (A.bl false)) fun x15=>
 A.bind [.i,.i,.i,.i,.l .ev,.l .poly,.l .mono,.l .mono] (A.cond x15.1 (A.ret _ (A.lit 0,A.lit 0,x2.1,x2.2.1,x2.2.2.1,x2.2.2.2.1,x2.q.2.1,x2.q.1,()))<|
 A.ret _ (A.lit 0,A.lit 0,x2.1,x2.2.1,x2.2.2.1,x2.2.2.2.1,x2.q.1,x2.q.2.1,())) fun x16=>
 A.ret _ (x16.1,x16.2.1,x16.2.2.1,x16.2.2.2.1,x16.q.1,x16.q.2.1,x16.q.2.2.1,x16.q.2.2.2.1,())) fun x14=>
 A.ret _ (x14.1,x14.2.1,x14.2.2.1,x14.2.2.2.1,x14.q.1,x14.q.2.1,x14.q.2.2.1,x14.q.2.2.2.1,())) fun x12=>
 A.ret _ (x12.1,x12.2.1,x12.2.2.1,x12.2.2.2.1,x12.q.1,x12.q.2.1,x12.q.2.2.1,x12.q.2.2.2.1,())) fun x11=>
 A.ret _ (A.mkX .sym (x11.q.1,x11.q.2.1,x11.2.2.1,x11.q.2.2.1,x11.q.2.2.2.1,x11.2.2.2.1,()),())
def Qh (A:Alg) (x:Tup A.ah [.l .i64,.l .i64]):Ot A Kl:=
 A.l1 .b (A.bl false) fun x0=>
 A.cond (A.cmp .neq (A.len .i64 x.1) (A.len .i64 x.2.1)) (A.rb (A.bl false))<|
 A.l1 .i (A.lit 0) fun x1=>
 A.iter [.l .i64,.l .i64,.i] (fun x2=>
 A.cond (A.cmp .lss x2.2.2.1 (A.len .i64 x2.1)) (A.bd .i64 x2.1 x2.2.2.1<|
 A.bd .i64 x2.2.1 x2.2.2.1<|
 A.cond (A.cmp .neq (A.fI .i64 0 (A.get .i64 x2.1 x2.2.2.1)) (A.fI .i64 0 (A.get .i64 x2.2.1 x2.2.2.1))) (A.l1 .b (A.bl false) fun x3=>
 A.inr _<|A.ret _ (x3.1,()))<|
 A.l1 .i (A.arith .add .i64 x2.2.2.1 (A.lit 1)) fun x3=>
 A.inl _ (x2.1,x2.2.1,x3.1,()))<|
 A.inr _<|A.rb (A.bl true)) (x.1,x.2.1,x1.1,())
def Qi (A:Alg) (anU:Pt A Kl) (anV:Ft A Kl) (x:Tup A.ah [.x .poly,.x .poly]):Ot A vL:=
 A.l1 .b (A.bl false) fun x0=>
 A.cond (A.cmp .neq (A.len .mono (A.fL .poly 0 .mono x.1)) (A.len .mono (A.fL .poly 0 .mono x.2.1))) (A.rb (A.bl false))<|
 A.l1 .i (A.lit 0) fun x1=>
 A.iter [.i,.x .poly,.x .poly] (fun x2=>
 A.cond (A.cmp .lss x2.1 (A.len .mono (A.fL .poly 0 .mono x2.2.1))) (A.bd .mono (A.fL .poly 0 .mono x2.2.1) x2.1<|
 A.bd .mono (A.fL .poly 0 .mono x2.2.2.1) x2.1<|
 A.chk (A.orB (A.aA (A.aA (A.cmp .neq (A.fI .mono 0 (A.get .mono (A.fL .poly 0 .mono x2.2.1) x2.1)) (A.fI .mono 0 (A.get .mono (A.fL .poly 0 .mono x2.2.2.1) x2.1))))) (A.cmp .leq (A.lit 0) x2.1))<|
 A.chk (A.orB (A.aA (A.aA (A.cmp .neq (A.fI .mono 0 (A.get .mono (A.fL .poly 0 .mono x2.2.1) x2.1)) (A.fI .mono 0 (A.get .mono (A.fL .poly 0 .mono x2.2.2.1) x2.1))))) (A.cmp .lss x2.1 (A.len .mono (A.fL .poly 0 .mono x2.2.1))))<|
 A.chk (A.orB (A.aA (A.aA (A.cmp .neq (A.fI .mono 0 (A.get .mono (A.fL .poly 0 .mono x2.2.1) x2.1)) (A.fI .mono 0 (A.get .mono (A.fL .poly 0 .mono x2.2.2.1) x2.1))))) (A.cmp .leq (A.lit 0) x2.1))<|
 A.chk (A.orB (A.aA (A.aA (A.cmp .neq (A.fI .mono 0 (A.get .mono (A.fL .poly 0 .mono x2.2.1) x2.1)) (A.fI .mono 0 (A.get .mono (A.fL .poly 0 .mono x2.2.2.1) x2.1))))) (A.cmp .lss x2.1 (A.len .mono (A.fL .poly 0 .mono x2.2.2.1))))<|
 A.cg (A.aA (A.cmp .neq (A.fI .mono 0 (A.get .mono (A.fL .poly 0 .mono x2.2.1) x2.1)) (A.fI .mono 0 (A.get .mono (A.fL .poly 0 .mono x2.2.2.1) x2.1)))) anU anV (A.fL .mono 1 .i64 (A.get .mono (A.fL .poly 0 .mono x2.2.1) x2.1),A.fL .mono 1 .i64 (A.get .mono (A.fL .poly 0 .mono x2.2.2.1) x2.1),()) fun x3=>
 A.cond (A.au (A.cmp .neq (A.fI .mono 0 (A.get .mono (A.fL .poly 0 .mono x2.2.1) x2.1)) (A.fI .mono 0 (A.get .mono (A.fL .poly 0 .mono x2.2.2.1) x2.1))) (A.bl true) (A.aA x3.1)) (A.l1 .b (A.bl false) fun x4=>
 A.inr _<|A.ret _ (x4.1,()))<|
 A.l1 .i (A.arith .add .i64 x2.1 (A.lit 1)) fun x4=>
 A.inl _ (x4.1,x2.2.1,x2.2.2.1,()))<|
 A.inr _<|A.rb (A.bl true)) (x1.1,x.1,x.2.1,())
def Qj (A:Alg) (AL:Pt A vL) (AO:Ft A vL) (x:Tup A.ah [.l .poly,.l .poly]):Ot A Km:=
 A.l1 .b (A.bl false) fun x0=>
 A.cond (A.cmp .neq (A.len .poly x.1) (A.len .poly x.2.1)) (A.rb (A.bl false))<|
 A.l1 .i (A.lit 0) fun x1=>
 A.iter [.l .poly,.l .poly,.i] (fun x2=>
 A.cond (A.cmp .lss x2.2.2.1 (A.len .poly x2.1)) (A.bd .poly x2.1 x2.2.2.1<|
 A.bd .poly x2.2.1 x2.2.2.1<|
 A.cl AL AO (A.get .poly x2.1 x2.2.2.1,A.get .poly x2.2.1 x2.2.2.1,()) fun x3=>
 A.cond (A.aA x3.1) (A.l1 .b (A.bl false) fun x4=>
 A.inr _<|A.ret _ (x4.1,()))<|
 A.l1 .i (A.arith .add .i64 x2.2.2.1 (A.lit 1)) fun x4=>
 A.inl _ (x2.1,x2.2.1,x4.1,()))<|
 A.inr _<|A.rb (A.bl true)) (x.1,x.2.1,x1.1,())
def Qk (A:Alg) (AL:Pt A vL) (AO:Ft A vL) (afT:Pt A Km) (afU:Ft A Km) (x:Tup A.ah [.x .sym,.x .sym]):Ot A Kn:=
 A.l1 .b (A.bl false) fun x0=>
 A.cg (A.aA (A.cmp .neq (A.len .ev (A.fL .sym 0 .ev x.1)) (A.len .ev (A.fL .sym 0 .ev x.2.1)))) afT afU (A.fL .sym 1 .poly x.1,A.fL .sym 1 .poly x.2.1,()) fun x1=>
 A.cg (A.aA (A.au (A.au (A.au (A.cmp .neq (A.len .ev (A.fL .sym 0 .ev x.1)) (A.len .ev (A.fL .sym 0 .ev x.2.1))) (A.bl true) (A.aA x1.1)) (A.bl true) (A.cmp .neq (A.fI .sym 2 x.1) (A.fI .sym 2 x.2.1))) (A.bl true) (A.cmp .neq (A.fI .sym 5 x.1) (A.fI .sym 5 x.2.1)))) AL AO (A.mkX .poly (A.fL .sym 3 .mono x.1,()),A.mkX .poly (A.fL .sym 3 .mono x.2.1,()),()) fun x2=>
 A.cg (A.aA (A.au (A.au (A.au (A.au (A.cmp .neq (A.len .ev (A.fL .sym 0 .ev x.1)) (A.len .ev (A.fL .sym 0 .ev x.2.1))) (A.bl true) (A.aA x1.1)) (A.bl true) (A.cmp .neq (A.fI .sym 2 x.1) (A.fI .sym 2 x.2.1))) (A.bl true) (A.cmp .neq (A.fI .sym 5 x.1) (A.fI .sym 5 x.2.1))) (A.bl true) (A.aA x2.1))) AL AO (A.mkX .poly (A.fL .sym 4 .mono x.1,()),A.mkX .poly (A.fL .sym 4 .mono x.2.1,()),()) fun x3=>
 A.cond (A.au (A.au (A.au (A.au (A.au (A.cmp .neq (A.len .ev (A.fL .sym 0 .ev x.1)) (A.len .ev (A.fL .sym 0 .ev x.2.1))) (A.bl true) (A.aA x1.1)) (A.bl true) (A.cmp .neq (A.fI .sym 2 x.1) (A.fI .sym 2 x.2.1))) (A.bl true) (A.cmp .neq (A.fI .sym 5 x.1) (A.fI .sym 5 x.2.1))) (A.bl true) (A.aA x2.1)) (A.bl true) (A.aA x3.1)) (A.rb (A.bl false))<|
 A.l1 .i (A.lit 0) fun x4=>
 A.iter [.i,.x .sym,.x .sym] (fun x5=>
 A.cond (A.cmp .lss x5.1 (A.len .ev (A.fL .sym 0 .ev x5.2.1))) (A.bd .ev (A.fL .sym 0 .ev x5.2.1) x5.1<|
 A.l1 (.x .ev) (A.get .ev (A.fL .sym 0 .ev x5.2.1) x5.1) fun x6=>
 A.bd .ev (A.fL .sym 0 .ev x5.2.2.1) x5.1<|
 A.l1 (.x .ev) (A.get .ev (A.fL .sym 0 .ev x5.2.2.1) x5.1) fun x7=>
 A.cg (A.aA (A.au (A.cmp .neq (A.fI .ev 0 x6.1) (A.fI .ev 0 x7.1)) (A.bl true) (A.cmp .neq (A.fI .ev 1 x6.1) (A.fI .ev 1 x7.1)))) AL AO (A.mkX .poly (A.fL .ev 2 .mono x6.1,()),A.mkX .poly (A.fL .ev 2 .mono x7.1,()),()) fun x8=>
 A.cg (A.aA (A.au (A.au (A.cmp .neq (A.fI .ev 0 x6.1) (A.fI .ev 0 x7.1)) (A.bl true) (A.cmp .neq (A.fI .ev 1 x6.1) (A.fI .ev 1 x7.1))) (A.bl true) (A.aA x8.1))) AL AO (A.mkX .poly (A.fL .ev 3 .mono x6.1,()),A.mkX .poly (A.fL .ev 3 .mono x7.1,()),()) fun x9=>
 A.cg (A.aA (A.au (A.au (A.au (A.cmp .neq (A.fI .ev 0 x6.1) (A.fI .ev 0 x7.1)) (A.bl true) (A.cmp .neq (A.fI .ev 1 x6.1) (A.fI .ev 1 x7.1))) (A.bl true) (A.aA x8.1)) (A.bl true) (A.aA x9.1))) afT afU (A.fL .ev 4 .poly x6.1,A.fL .ev 4 .poly x7.1,()) fun x10=>
 A.cond (A.au (A.au (A.au (A.au (A.cmp .neq (A.fI .ev 0 x6.1) (A.fI .ev 0 x7.1)) (A.bl true) (A.cmp .neq (A.fI .ev 1 x6.1) (A.fI .ev 1 x7.1))) (A.bl true) (A.aA x8.1)) (A.bl true) (A.aA x9.1)) (A.bl true) (A.aA x10.1)) (A.l1 .b (A.bl false) fun x11=>
 A.inr _<|A.ret _ (x11.1,()))<|
 A.l1 .i (A.arith .add .i64 x5.1 (A.lit 1)) fun x11=>
 A.inl _ (x11.1,x5.2.1,x5.2.2.1,()))<|
 A.inr _<|A.rb (A.bl true)) (x4.1,x.1,x.2.1,())
def Ql (A:Alg) (sS:Pt A jI) (sU:Ft A jI) (x:Tup A.ah []):Ot A Ko:=
 A.l1 .b (A.bl false) fun x0=>
 A.cl sS sU (A.lit 1,()) fun x1=>
 A.rb x1.1
def Dj (A:Alg) (aO:Pt A bY) (aP:Ft A bY) (Hy:Pt A mW) (Hz:Ft A mW) (x:Tup A.ah [.x .blk,.l .u8,.i]):Ot A CJ:=
 A.cl Hy Hz (x.1,()) fun x0=>
 A.cond (A.cmp .eql (A.len .iop x0.q.2.2.1) (A.lit 0)) (A.l1 .i (A.arith .add .i64 x0.q.2.1 (A.lit 1)) fun x1=>
 A.ret _ (x0.1,x0.2.1,x0.2.2.1,x0.2.2.2.1,x0.q.1,x1.1,x.2.1,x.2.2.1,x0.q.2.2.1,()))<|
 A.cl aO aP (A.len .iop x0.q.2.2.1,x.2.1,x.2.2.1,()) fun x1=>
 A.l1 .i x1.1 fun x2=>
 A.cl aO aP (A.lit 9,x1.2.1,x1.2.2.1,()) fun x3=>
 A.l1 .b (A.cmp .eql x3.1 (A.lit 0)) fun x4=>
 A.bind [.l .u8,.i,.i,.i,.i,.i,.i,.i,.i,.i,.i,.i,.i,.i,.l .iop] (A.cond x4.1 (A.bd .iop x0.q.2.2.1 x2.1<|
 A.bd .iop x0.q.2.2.1 x2.1<|
 A.bd .iop x0.q.2.2.1 x2.1<|
 A.bd .iop x0.q.2.2.1 x2.1<|
 A.l1 .i (A.arith .add .i64 (A.fI .iop 3 (A.get .iop x0.q.2.2.1 x2.1)) (A.lit 1)) fun x5=>
 A.ret _ (x3.2.1,x3.2.2.1,A.lit 0,A.lit 0,A.lit 0,A.lit 0,A.lit 0,A.lit 0,x0.1,x0.2.1,x0.2.2.1,x0.2.2.2.1,x0.q.1,x0.q.2.1,A.set .iop x0.q.2.2.1 x2.1 (A.mkX .iop (A.fI .iop 0 (A.get .iop x0.q.2.2.1 x2.1),A.fI .iop 1 (A.get .iop x0.q.2.2.1 x2.1),A.fI .iop 2 (A.get .iop x0.q.2.2.1 x2.1),x5.1,A.fI .iop 4 (A.get .iop x0.q.2.2.1 x2.1),())),()))<|
 A.l1 .b (A.cmp .eql x3.1 (A.lit 1)) fun x5=>
 A.bind [.l .u8,.i,.i,.i,.i,.i,.i,.i,.i,.i,.i,.i,.i,.i,.l .iop] (A.cond x5.1 (A.cl aO aP (A.arith .add .i64 x2.1 (A.lit 1),x3.2.1,x3.2.2.1,()) fun x6=>
 A.bd .iop x0.q.2.2.1 x2.1<|
 A.bd .iop x0.q.2.2.1 x2.1<|
 A.l1 .i x6.1 fun x7=>
 A.ret _ (x6.2.1,x6.2.2.1,A.lit 0,A.lit 0,A.lit 0,A.lit 0,A.lit 0,A.lit 0,x0.1,x0.2.1,x0.2.2.1,x0.2.2.2.1,x0.q.1,x0.q.2.1,A.set .iop x0.q.2.2.1 x2.1 (A.mkX .iop (A.fI .iop 0 (A.get .iop x0.q.2.2.1 x2.1),x7.1,A.fI .iop 2 (A.get .iop x0.q.2.2.1 x2.1),A.fI .iop 3 (A.get .iop x0.q.2.2.1 x2.1),A.fI .iop 4 (A.get .iop x0.q.2.2.1 x2.1),())),()))<|
 A.l1 .b (A.cmp .eql x3.1 (A.lit 2)) fun x6=>
 A.bind [.l .u8,.i,.i,.i,.i,.i,.i,.i,.i,.i,.i,.i,.i,.i,.l .iop] (A.cond x6.1 (A.cl aO aP (A.arith .add .i64 x2.1 (A.lit 1),x3.2.1,x3.2.2.1,()) fun x7=>
 A.bd .iop x0.q.2.2.1 x2.1<|
 A.bd .iop x0.q.2.2.1 x2.1<|
 A.l1 .i x7.1 fun x8=>
 A.ret _ (x7.2.1,x7.2.2.1,A.lit 0,A.lit 0,A.lit 0,A.lit 0,A.lit 0,A.lit 0,x0.1,x0.2.1,x0.2.2.1,x0.2.2.2.1,x0.q.1,x0.q.2.1,A.set .iop x0.q.2.2.1 x2.1 (A.mkX .iop (A.fI .iop 0 (A.get .iop x0.q.2.2.1 x2.1),A.fI .iop 1 (A.get .iop x0.q.2.2.1 x2.1),x8.1,A.fI .iop 3 (A.get .iop x0.q.2.2.1 x2.1),A.fI .iop 4 (A.get .iop x0.q.2.2.1 x2.1),())),()))<|
 A.l1 .b (A.cmp .eql x3.1 (A.lit 3)) fun x7=>
 A.bind [.l .u8,.i,.i,.i,.i,.i,.i,.i,.i,.i,.i,.i,.i,.i,.l .iop] (A.cond x7.1 (A.cl aO aP (A.arith .add .i64 x0.2.1 (A.lit 1),x3.2.1,x3.2.2.1,()) fun x8=>
 A.bd .iop x0.q.2.2.1 x2.1<|
 A.bd .iop x0.q.2.2.1 x2.1<|
 A.l1 .i x8.1 fun x9=>
 A.ret _ (x8.2.1,x8.2.2.1,A.lit 0,A.lit 0,A.lit 0,A.lit 0,A.lit 0,A.lit 0,x0.1,x0.2.1,x0.2.2.1,x0.2.2.2.1,x0.q.1,x0.q.2.1,A.set .iop x0.q.2.2.1 x2.1 (A.mkX .iop (A.fI .iop 0 (A.get .iop x0.q.2.2.1 x2.1),A.fI .iop 1 (A.get .iop x0.q.2.2.1 x2.1),A.fI .iop 2 (A.get .iop x0.q.2.2.1 x2.1),A.fI .iop 3 (A.get .iop x0.q.2.2.1 x2.1),x9.1,())),()))<|
 A.l1 .b (A.cmp .eql x3.1 (A.lit 4)) fun x8=>
 A.bind [.l .u8,.i,.i,.i,.i,.i,.i,.i,.i,.i,.i,.i,.i,.i,.l .iop] (A.cond x8.1 (A.cl aO aP (A.lit 66,x3.2.1,x3.2.2.1,()) fun x9=>
 A.l1 .i x9.1 fun x10=>
 A.ret _ (x9.2.1,x9.2.2.1,A.lit 0,A.lit 0,A.lit 0,A.lit 0,A.lit 0,A.lit 0,x0.1,x0.2.1,x0.2.2.1,x0.2.2.2.1,x0.q.1,x10.1,x0.q.2.2.1,()))<|
 A.l1 .b (A.cmp .eql x3.1 (A.lit 5)) fun x9=>
 A.bind [.l .u8,.i,.i,.i,.i,.i,.i,.i,.i,.i,.i,.i,.i,.i,.l .iop] (A.cond x9.1 (A.cl aO aP (A.lit 4,x3.2.1,x3.2.2.1,()) fun x10=>
 A.l1 .i (A.arith .add .i64 (A.lit 1) x10.1) fun x11=>
 A.ret _ (x10.2.1,x10.2.2.1,A.lit 0,A.lit 0,A.lit 0,A.lit 0,A.lit 0,A.lit 0,x0.1,x0.2.1,x11.1,x0.2.2.2.1,x0.q.1,x0.q.2.1,x0.q.2.2.1,()))<|
 A.l1 .b (A.cmp .eql x3.1 (A.lit 6)) fun x10=>
 A.bind [.l .u8,.i,.i,.i,.i,.i,.i,.i,.i,.i,.i,.i,.i,.i,.l .iop] (A.cond x10.1 (A.bind [.l .u8,.i,.i,.i,.i,.i,.i,.i,.i,.i,.i,.i,.i,.i,.l .iop] (A.cond (A.cmp .gtr x2.1 (A.lit 0)) (A.bd .iop x0.q.2.2.1 x2.1<|
 A.bd .iop x0.q.2.2.1 x2.1<|
 A.l1 (.x .iop) (A.get .iop x0.q.2.2.1 x2.1) fun x11=>
 A.bd .iop x0.q.2.2.1 (A.arith .sub .i64 x2.1 (A.lit 1))<|
 A.bd .iop x0.q.2.2.1 (A.arith .sub .i64 x2.1 (A.lit 1))<|
 A.bd .iop x0.q.2.2.1 x2.1<|
 A.bd .iop x0.q.2.2.1 x2.1<|
 A.l1 (.x .iop) (A.get .iop x0.q.2.2.1 (A.arith .sub .i64 x2.1 (A.lit 1))) fun x12=>
 A.bd .iop (A.set .iop x0.q.2.2.1 x2.1 x12.1) (A.arith .sub .i64 x2.1 (A.lit 1))<|
 A.bd .iop (A.set .iop x0.q.2.2.1 x2.1 x12.1) (A.arith .sub .i64 x2.1 (A.lit 1))<|
 A.l1 (.x .iop) x11.1 fun x13=>
 A.ret _ (x3.2.1,x3.2.2.1,A.lit 0,A.lit 0,A.lit 0,A.lit 0,A.lit 0,A.lit 0,x0.1,x0.2.1,x0.2.2.1,x0.2.2.2.1,x0.q.1,x0.q.2.1,A.set .iop (A.set .iop x0.q.2.2.1 x2.1 x12.1) (A.arith .sub .i64 x2.1 (A.lit 1)) x13.1,()))<|
 A.ret _ (x3.2.1,x3.2.2.1,A.lit 0,A.lit 0,A.lit 0,A.lit 0,A.lit 0,A.lit 0,x0.1,x0.2.1,x0.2.2.1,x0.2.2.2.1,x0.q.1,x0.q.2.1,x0.q.2.2.1,())) fun x11=>
 A.ret _ (x11.1,x11.2.1,x11.2.2.1,x11.2.2.2.1,x11.q.1,x11.q.2.1,x11.q.2.2.1,x11.q.2.2.2.1,x11.o.1,x11.o.2.1,x11.o.2.2.1,x11.o.2.2.2.1,x11.o.q.1,x11.o.q.2.1,x11.o.q.2.2.1,()))<|
 A.l1 .b (A.cmp .eql x3.1 (A.lit 7)) fun x11=>
 A.bind [.l .u8,.i,.i,.i,.i,.i,.i,.i,.i,.i,.i,.i,.i,.i,.l .iop] (A.cond x11.1 (A.cl aO aP (A.lit 3,x3.2.1,x3.2.2.1,()) fun x12=>
 A.bd .iop x0.q.2.2.1 x2.1<|
 A.bd .iop x0.q.2.2.1 x2.1<|
 A.ret _ (x12.2.1,x12.2.2.1,A.lit 0,A.lit 0,A.lit 0,A.lit 0,A.lit 0,A.lit 0,x0.1,x0.2.1,x0.2.2.1,x0.2.2.2.1,x0.q.1,x0.q.2.1,A.set .iop x0.q.2.2.1 x2.1 (A.mkX .iop (A.lit 1,A.lit 0,A.lit 0,x12.1,A.lit 0,())),()))<|
 A.chk (A.cmp .leq (A.lit 0) (A.lit 0))<|
 A.chk (A.cmp .leq (A.lit 0) x2.1)<|
 A.chk (A.cmp .leq x2.1 (A.len .iop x0.q.2.2.1))<|
 A.chk (A.cmp .eql (A.lit 0) (A.lit 0))<|
 A.chk (A.cmp .leq (A.lit 0) (A.Ei x2.1 (A.lit 0)))<|
 A.chk (A.cmp .leq (A.Ei x2.1 (A.lit 0)) (A.len .iop x0.q.2.2.1))<|
 A.ret _ (x3.2.1,x3.2.2.1,A.lit 0,A.lit 0,A.lit 0,A.lit 0,A.lit 0,A.lit 0,x0.1,x0.2.1,x0.2.2.1,x0.2.2.2.1,x0.q.1,x0.q.2.1,A.sub .iop x0.q.2.2.1 (A.lit 0) (A.Ei x2.1 (A.lit 0)),())) fun x12=>
 A.ret _ (x12.1,x12.2.1,x12.2.2.1,x12.2.2.2.1,x12.q.1,x12.q.2.1,x12.q.2.2.1,x12.q.2.2.2.1,x12.o.1,x12.o.2.1,x12.o.2.2.1,x12.o.2.2.2.1,x12.o.q.1,x12.o.q.2.1,x12.o.q.2.2.1,())) fun x11=>
 A.ret _ (x11.1,x11.2.1,x11.2.2.1,x11.2.2.2.1,x11.q.1,x11.q.2.1,x11.q.2.2.1,x11.q.2.2.2.1,x11.o.1,x11.o.2.1,x11.o.2.2.1,x11.o.2.2.2.1,x11.o.q.1,x11.o.q.2.1,x11.o.q.2.2.1,())) fun x10=>
 A.ret _ (x10.1,x10.2.1,x10.2.2.1,x10.2.2.2.1,x10.q.1,x10.q.2.1,x10.q.2.2.1,x10.q.2.2.2.1,x10.o.1,x10.o.2.1,x10.o.2.2.1,x10.o.2.2.2.1,x10.o.q.1,x10.o.q.2.1,x10.o.q.2.2.1,())) fun x9=>
 A.ret _ (x9.1,x9.2.1,x9.2.2.1,x9.2.2.2.1,x9.q.1,x9.q.2.1,x9.q.2.2.1,x9.q.2.2.2.1,x9.o.1,x9.o.2.1,x9.o.2.2.1,x9.o.2.2.2.1,x9.o.q.1,x9.o.q.2.1,x9.o.q.2.2.1,())) fun x8=>
 A.ret _ (x8.1,x8.2.1,x8.2.2.1,x8.2.2.2.1,x8.q.1,x8.q.2.1,x8.q.2.2.1,x8.q.2.2.2.1,x8.o.1,x8.o.2.1,x8.o.2.2.1,x8.o.2.2.2.1,x8.o.q.1,x8.o.q.2.1,x8.o.q.2.2.1,())) fun x7=>
 A.ret _ (x7.1,x7.2.1,x7.2.2.1,x7.2.2.2.1,x7.q.1,x7.q.2.1,x7.q.2.2.1,x7.q.2.2.2.1,x7.o.1,x7.o.2.1,x7.o.2.2.1,x7.o.2.2.2.1,x7.o.q.1,x7.o.q.2.1,x7.o.q.2.2.1,())) fun x6=>
 A.ret _ (x6.1,x6.2.1,x6.2.2.1,x6.2.2.2.1,x6.q.1,x6.q.2.1,x6.q.2.2.1,x6.q.2.2.2.1,x6.o.1,x6.o.2.1,x6.o.2.2.1,x6.o.2.2.2.1,x6.o.q.1,x6.o.q.2.1,x6.o.q.2.2.1,())) fun x5=>
 A.ret _ (x5.o.1,x5.o.2.1,x5.o.2.2.1,x5.o.2.2.2.1,x5.o.q.1,x5.o.q.2.1,x5.1,x5.2.1,x5.o.q.2.2.1,())
def IV (A:Alg) (TB:Pt A uh) (TD:Ft A uh) (aO:Pt A bY) (aP:Ft A bY) (ajJ:Pt A CJ) (ajK:Ft A CJ) (ajL:Pt A Cx) (ajM:Ft A Cx) (x:Tup A.ah [.i,.l .u8,.i]):Ot A CK:=
 A.cl ajL ajM (x.2.1,x.2.2.1,()) fun x0=>
 A.cl TB TD (x.1,x0.q.2.2.1,x0.q.2.2.2.1,()) fun x1=>
 A.lS [.l .u8,.i,.i,.i,.i,.i,.i,.i,.i,.i,.i,.i,.i,.i,.l .iop] (A.cond x1.1 (A.cl aO aP (A.lit 6,x1.2.1,x1.2.2.1,()) fun x2=>
 A.l1 .b (A.cmp .eql x2.1 (A.lit 0)) fun x3=>
 A.lS [.l .u8,.i,.i,.i,.i,.i,.i,.i,.i,.i,.i,.i,.i,.i,.l .iop] (A.cond x3.1 (A.l1 (.l .i64) (A.lst .i64 [A.mkX .i64 (A.lit 0,()),A.mkX .i64 (A.lit 9,())]) fun x4=>
 A.cl aO aP (A.lit 2,x2.2.1,x2.2.2.1,()) fun x5=>
 A.bd .i64 x4.1 x5.1<|
 A.bd .i64 x4.1 x5.1<|
 A.l1 .i (A.fI .i64 0 (A.get .i64 x4.1 x5.1)) fun x6=>
 A.inl _ (x5.2.1,x5.2.2.1,A.lit 0,A.lit 0,A.lit 0,A.lit 0,A.lit 0,A.lit 0,x0.1,x6.1,x0.2.2.1,x0.2.2.2.1,x0.q.1,x0.q.2.1,x0.o.1,()))<|
 A.l1 .b (A.cmp .eql x2.1 (A.lit 1)) fun x4=>
 A.lS [.l .u8,.i,.i,.i,.i,.i,.i,.i,.i,.i,.i,.i,.i,.i,.l .iop] (A.cond x4.1 (A.l1 (.l .i64) (A.lst .i64 [A.mkX .i64 (A.lit (-1),()),A.mkX .i64 (A.lit 64,())]) fun x5=>
 A.cl aO aP (A.lit 2,x2.2.1,x2.2.2.1,()) fun x6=>
 A.bd .i64 x5.1 x6.1<|
 A.bd .i64 x5.1 x6.1<|
 A.l1 .i (A.fI .i64 0 (A.get .i64 x5.1 x6.1)) fun x7=>
 A.inl _ (x6.2.1,x6.2.2.1,A.lit 0,A.lit 0,A.lit 0,A.lit 0,A.lit 0,A.lit 0,x7.1,x0.2.1,x0.2.2.1,x0.2.2.2.1,x0.q.1,x0.q.2.1,x0.o.1,()))<|
 A.l1 .b (A.cmp .eql x2.1 (A.lit 2)) fun x5=>
 A.lS [.l .u8,.i,.i,.i,.i,.i,.i,.i,.i,.i,.i,.i,.i,.i,.l .iop] (A.cond x5.1 (A.iter [.l .u8,.i,.i,.i,.i,.i,.i,.i,.i,.i,.i,.i,.i,.i,.l .iop] (fun x6=>
 A.cond (A.cmp .leq (A.len .iop x6.o.q.2.2.1) (A.lit 48)) (A.l1 (.l .iop) (A.lst .iop [A.mkX .iop (A.lit 1,A.lit 0,A.lit 0,A.lit 0,A.lit 0,())]) fun x7=>
 A.chk (A.cmp .leq (A.addN (A.len .iop x6.o.q.2.2.1) (A.len .iop x7.1)) (A.lit 1073741824))<|
 A.l1 (.l .iop) (A.app .iop x6.o.q.2.2.1 x7.1) fun x8=>
 A.inl _ (x6.1,x6.2.1,x6.2.2.1,x6.2.2.2.1,x6.q.1,x6.q.2.1,x6.q.2.2.1,x6.q.2.2.2.1,x6.o.1,x6.o.2.1,x6.o.2.2.1,x6.o.2.2.2.1,x6.o.q.1,x6.o.q.2.1,x8.1,()))<|
 A.inr _<|A.inl _ (x6.1,x6.2.1,x6.2.2.1,x6.2.2.2.1,x6.q.1,x6.q.2.1,x6.q.2.2.1,x6.q.2.2.2.1,x6.o.1,x6.o.2.1,x6.o.2.2.1,x6.o.2.2.2.1,x6.o.q.1,x6.o.q.2.1,x6.o.q.2.2.1,())) (x2.2.1,x2.2.2.1,A.lit 0,A.lit 0,A.lit 0,A.lit 0,A.lit 0,A.lit 0,x0.1,x0.2.1,x0.2.2.1,x0.2.2.2.1,x0.q.1,x0.q.2.1,x0.o.1,()))<|
 A.l1 .b (A.cmp .eql x2.1 (A.lit 3)) fun x6=>
 A.lS [.l .u8,.i,.i,.i,.i,.i,.i,.i,.i,.i,.i,.i,.i,.i,.l .iop] (A.cond x6.1 (A.l1 (.l .i64) (A.lst .i64 [A.mkX .i64 (A.lit 0,()),A.mkX .i64 (A.lit 5,())]) fun x7=>
 A.cl aO aP (A.lit 2,x2.2.1,x2.2.2.1,()) fun x8=>
 A.bd .i64 x7.1 x8.1<|
 A.bd .i64 x7.1 x8.1<|
 A.l1 .i (A.fI .i64 0 (A.get .i64 x7.1 x8.1)) fun x9=>
 A.inl _ (x8.2.1,x8.2.2.1,A.lit 0,A.lit 0,A.lit 0,A.lit 0,A.lit 0,A.lit 0,x0.1,x0.2.1,x9.1,x0.2.2.2.1,x0.q.1,x0.q.2.1,x0.o.1,()))<|
 A.l1 .b (A.cmp .eql x2.1 (A.lit 4)) fun x7=>
 A.cond x7.1 (A.cl aO aP (A.lit 3,x2.2.1,x2.2.2.1,()) fun x8=>
 A.bd .i64 (A.lst .i64 [A.mkX .i64 (A.lit 0,()),A.mkX .i64 (A.lit 9,()),A.mkX .i64 (A.lit 8,())]) x8.1<|
 A.chk (A.cmp .leq (A.addN (A.len .iop x0.o.1) (A.len .iop (A.lst .iop [A.mkX .iop (A.fI .i64 0 (A.get .i64 (A.lst .i64 [A.mkX .i64 (A.lit 0,()),A.mkX .i64 (A.lit 9,()),A.mkX .i64 (A.lit 8,())]) x8.1),A.len .iop x0.o.1,A.lit 0,A.lit 0,A.lit 0,())]))) (A.lit 1073741824))<|
 A.l1 (.l .iop) (A.app .iop x0.o.1 (A.lst .iop [A.mkX .iop (A.fI .i64 0 (A.get .i64 (A.lst .i64 [A.mkX .i64 (A.lit 0,()),A.mkX .i64 (A.lit 9,()),A.mkX .i64 (A.lit 8,())]) x8.1),A.len .iop x0.o.1,A.lit 0,A.lit 0,A.lit 0,())])) fun x9=>
 A.inl _ (x8.2.1,x8.2.2.1,A.lit 0,A.lit 0,A.lit 0,A.lit 0,A.lit 0,A.lit 0,x0.1,x0.2.1,x0.2.2.1,x0.2.2.2.1,x0.q.1,x0.q.2.1,x9.1,()))<|
 A.cl ajJ ajK (A.mkX .blk (x0.1,x0.2.1,x0.o.1,x0.2.2.1,x0.2.2.2.1,x0.q.1,x0.q.2.1,()),x2.2.1,x2.2.2.1,()) fun x8=>
 A.inr _<|A.inr _<|A.inr _<|A.inr _<|A.inr _<|A.ret _ (A.mkX .blk (x8.1,x8.2.1,x8.o.1,x8.2.2.1,x8.2.2.2.1,x8.q.1,x8.q.2.1,()),x8.q.2.2.1,x8.q.2.2.2.1,())) fun x7=>
 A.inl _ (x7.1,x7.2.1,x7.2.2.1,x7.2.2.2.1,x7.q.1,x7.q.2.1,x7.q.2.2.1,x7.q.2.2.2.1,x7.o.1,x7.o.2.1,x7.o.2.2.1,x7.o.2.2.2.1,x7.o.q.1,x7.o.q.2.1,x7.o.q.2.2.1,())) fun x6=>
 A.inl _ (x6.1,x6.2.1,x6.2.2.1,x6.2.2.2.1,x6.q.1,x6.q.2.1,x6.q.2.2.1,x6.q.2.2.2.1,x6.o.1,x6.o.2.1,x6.o.2.2.1,x6.o.2.2.2.1,x6.o.q.1,x6.o.q.2.1,x6.o.q.2.2.1,())) fun x5=>
 A.inl _ (x5.1,x5.2.1,x5.2.2.1,x5.2.2.2.1,x5.q.1,x5.q.2.1,x5.q.2.2.1,x5.q.2.2.2.1,x5.o.1,x5.o.2.1,x5.o.2.2.1,x5.o.2.2.2.1,x5.o.q.1,x5.o.q.2.1,x5.o.q.2.2.1,())) fun x4=>
 A.inl _ (x4.1,x4.2.1,x4.2.2.1,x4.2.2.2.1,x4.q.1,x4.q.2.1,x4.q.2.2.1,x4.q.2.2.2.1,x4.o.1,x4.o.2.1,x4.o.2.2.1,x4.o.2.2.2.1,x4.o.q.1,x4.o.q.2.1,x4.o.q.2.2.1,()))<|
 A.inl _ (x1.2.1,x1.2.2.1,A.lit 0,A.lit 0,A.lit 0,A.lit 0,A.lit 0,A.lit 0,x0.1,x0.2.1,x0.2.2.1,x0.2.2.2.1,x0.q.1,x0.q.2.1,x0.o.1,())) fun x2=>
 A.ret _ (A.mkX .blk (x2.o.1,x2.o.2.1,x2.o.q.2.2.1,x2.o.2.2.1,x2.o.2.2.2.1,x2.o.q.1,x2.o.q.2.1,()),x2.1,x2.2.1,())
def Qm (A:Alg) (gu:Pt A dA) (gy:Ft A dA) (x:Tup A.ah [.i]):Ot A Ak:=
 A.l1 .b (A.bl false) fun x0=>
 A.cl gu gy (x.1,A.lit 1,A.lit 5,()) fun x1=>
 A.rb x1.1
def Qn (A:Alg) (gu:Pt A dA) (gy:Ft A dA) (x:Tup A.ah [.i]):Ot A Al:=
 A.l1 .b (A.bl false) fun x0=>
 A.cl gu gy (x.1,A.lit 0,A.lit 3,()) fun x1=>
 A.rb x1.1
def Qo (A:Alg) (gu:Pt A dA) (gy:Ft A dA) (Zv:Pt A Ak) (Zw:Ft A Ak) (VQ:Pt A Ah) (VR:Ft A Ah) (mM:Pt A jk) (mO:Ft A jk) (VT:Pt A Al) (VU:Ft A Al) (x:Tup A.ah [.x .atom,.i]):Ot A Am:=
 A.l1 .b (A.bl false) fun x0=>
 A.cond (A.cmp .eql (A.fI .atom 0 x.1) (A.lit 4)) (A.cl Zv Zw (A.fI .atom 1 x.1,()) fun x1=>
 A.cg x1.1 mM mO (A.mkX .poly (A.fL .atom 2 .mono x.1,()),()) fun x2=>
 A.cg (A.au x1.1 x2.1 (A.bl false)) mM mO (A.mkX .poly (A.fL .atom 3 .mono x.1,()),()) fun x3=>
 A.cg (A.au (A.au x1.1 x2.1 (A.bl false)) x3.1 (A.bl false)) VQ VR (A.mkX .poly (A.fL .atom 2 .mono x.1,()),x.2.1,()) fun x4=>
 A.cg (A.au (A.au (A.au x1.1 x2.1 (A.bl false)) x3.1 (A.bl false)) x4.1 (A.bl false)) VQ VR (A.mkX .poly (A.fL .atom 3 .mono x.1,()),x.2.1,()) fun x5=>
 A.rb (A.au (A.au (A.au (A.au x1.1 x2.1 (A.bl false)) x3.1 (A.bl false)) x4.1 (A.bl false)) x5.1 (A.bl false)))<|
 A.cond (A.cmp .gtr (A.arith .add .i64 (A.len .mono (A.fL .atom 2 .mono x.1)) (A.len .mono (A.fL .atom 3 .mono x.1))) (A.lit 0)) (A.rb (A.bl false))<|
 A.cg (A.cmp .eql (A.fI .atom 0 x.1) (A.lit 1)) VT VU (A.fI .atom 1 x.1,()) fun x1=>
 A.cg (A.jH (A.aA (A.au (A.cmp .eql (A.fI .atom 0 x.1) (A.lit 1)) x1.1 (A.bl false))) (A.au (A.cmp .eql (A.fI .atom 0 x.1) (A.lit 2)) (A.bl true) (A.cmp .eql (A.fI .atom 0 x.1) (A.lit 3)))) gu gy (A.fI .atom 1 x.1,A.lit 0,A.lit 199,()) fun x2=>
 A.rb (A.au (A.au (A.cmp .eql (A.fI .atom 0 x.1) (A.lit 1)) x1.1 (A.bl false)) (A.bl true) (A.au (A.au (A.cmp .eql (A.fI .atom 0 x.1) (A.lit 2)) (A.bl true) (A.cmp .eql (A.fI .atom 0 x.1) (A.lit 3))) x2.1 (A.bl false)))
def Qp (A:Alg) (D8:Pt A vK) (D9:Ft A vK) (x:Tup A.ah [.x .atom,.x .atom]):Ot A Kq:=
 A.l1 .b (A.bl false) fun x0=>
 A.cg (A.au (A.cmp .eql (A.fI .atom 0 x.1) (A.fI .atom 0 x.2.1)) (A.cmp .eql (A.fI .atom 1 x.1) (A.fI .atom 1 x.2.1)) (A.bl false)) D8 D9 (A.mkX .poly (A.fL .atom 2 .mono x.1,()),A.mkX .poly (A.fL .atom 2 .mono x.2.1,()),()) fun x1=>
 A.cg (A.au (A.au (A.cmp .eql (A.fI .atom 0 x.1) (A.fI .atom 0 x.2.1)) (A.cmp .eql (A.fI .atom 1 x.1) (A.fI .atom 1 x.2.1)) (A.bl false)) x1.1 (A.bl false)) D8 D9 (A.mkX .poly (A.fL .atom 3 .mono x.1,()),A.mkX .poly (A.fL .atom 3 .mono x.2.1,()),()) fun x2=>
 A.rb (A.au (A.au (A.au (A.cmp .eql (A.fI .atom 0 x.1) (A.fI .atom 0 x.2.1)) (A.cmp .eql (A.fI .atom 1 x.1) (A.fI .atom 1 x.2.1)) (A.bl false)) x1.1 (A.bl false)) x2.1 (A.bl false))
def Qq (A:Alg) (anW:Pt A Kq) (anX:Ft A Kq) (x:Tup A.ah [.x .atom,.x .atom]):Ot A Kr:=
 A.l1 .b (A.bl false) fun x0=>
 A.cl anW anX (x.2.1,x.1,()) fun x1=>
 A.l1 .b x1.1 fun x2=>
 A.ret _ (x2.1,x.2.1,())
def IW (A:Alg) (anY:Pt A Kr) (anZ:Ft A Kr) (x:Tup A.ah [.l .atom,.x .atom]):Ot A CO:=
 A.l1 .i (A.lit 0) fun x0=>
 A.iter [.l .atom,.i,.i,.x .atom] (fun x1=>
 A.cond (A.cmp .lss x1.2.2.1 x1.2.1) (A.l1 .i x1.2.2.1 fun x2=>
 A.bd .atom x1.1 x2.1<|
 A.cl anY anZ (A.get .atom x1.1 x2.1,x1.2.2.2.1,()) fun x3=>
 A.cond x3.1 (A.l1 .i x2.1 fun x4=>
 A.inr _<|A.ret _ (x4.1,x3.2.1,()))<|
 A.inl _ (x1.1,x1.2.1,A.arith .add .i64 x1.2.2.1 (A.lit 1),x3.2.1,()))<|
 A.inr _<|A.l1 .i (A.lit (-1)) fun x2=>
 A.ret _ (x2.1,x1.2.2.2.1,())) (x.1,A.len .atom x.1,A.lit 0,x.2.1,())
def Qr (A:Alg) (ajN:Pt A CO) (ajO:Ft A CO) (x:Tup A.ah [.x .tab,.x .atom]):Ot A Ao:=
 A.l1 .i (A.lit 0) fun x0=>
 A.cl ajN ajO (A.fL .tab 0 .atom x.1,x.2.1,()) fun x1=>
 A.l1 .i x1.1 fun x2=>
 A.ret _ (x2.1,())
def Qs (A:Alg) (Zx:Pt A Am) (Zy:Ft A Am) (Zz:Pt A Ao) (ZA:Ft A Ao) (x:Tup A.ah [.x .tab]):Ot A Kt:=
 A.l1 .b (A.bl false) fun x0=>
 A.iter [.l .atom,.i,.i,.x .tab] (fun x1=>
 A.cond (A.cmp .lss x1.2.2.1 x1.2.1) (A.bd .atom x1.1 x1.2.2.1<|
 A.l1 .i x1.2.2.1 fun x2=>
 A.l1 (.x .atom) (A.get .atom x1.1 x1.2.2.1) fun x3=>
 A.cl Zx Zy (x3.1,x2.1,()) fun x4=>
 A.cg (A.aA (A.aA x4.1)) Zz ZA (x1.2.2.2.1,x3.1,()) fun x5=>
 A.cond (A.au (A.aA x4.1) (A.bl true) (A.cmp .neq x5.1 x2.1)) (A.l1 .b (A.bl false) fun x6=>
 A.inr _<|A.ret _ (x6.1,()))<|
 A.inl _ (x1.1,x1.2.1,A.arith .add .i64 x1.2.2.1 (A.lit 1),x1.2.2.2.1,()))<|
 A.inr _<|A.rb (A.cmp .leq (A.len .atom (A.fL .tab 0 .atom x1.2.2.2.1)) (A.lit 200))) (A.fL .tab 0 .atom x.1,A.len .atom (A.fL .tab 0 .atom x.1),A.lit 0,x.1,())
def Qt (A:Alg) (gu:Pt A dA) (gy:Ft A dA) (x:Tup A.ah [.x .iop]):Ot A Ap:=
 A.l1 .b (A.bl false) fun x0=>
 A.l1 .b (A.bl false) fun x1=>
 A.l1 .b (A.bl false) fun x2=>
 A.l1 .b (A.bl false) fun x3=>
 A.l1 .b (A.au (A.au (A.cmp .neq (A.fI .iop 0 x.1) (A.lit 1)) (A.cmp .neq (A.fI .iop 0 x.1) (A.lit 2)) (A.bl false)) (A.cmp .neq (A.fI .iop 0 x.1) (A.lit 6)) (A.bl false)) fun x4=>
 A.l1 .b (A.au (A.cmp .eql (A.fI .iop 0 x.1) (A.lit 3)) (A.bl true) (A.cmp .eql (A.fI .iop 0 x.1) (A.lit 5))) fun x5=>
 A.l1 .b (A.au (A.au (A.au (A.cmp .eql (A.fI .iop 0 x.1) (A.lit 1)) (A.bl true) (A.cmp .eql (A.fI .iop 0 x.1) (A.lit 2))) (A.bl true) (A.cmp .eql (A.fI .iop 0 x.1) (A.lit 3))) (A.bl true) (A.cmp .eql (A.fI .iop 0 x.1) (A.lit 8))) fun x6=>
 A.cl gu gy (A.fI .iop 0 x.1,A.lit 4,A.lit 7,()) fun x7=>
 A.l1 .b x7.1 fun x8=>
 A.l1 .b x4.1 fun x9=>
 A.l1 .b x5.1 fun x10=>
 A.l1 .b x6.1 fun x11=>
 A.l1 .b x8.1 fun x12=>
 A.ret _ (x9.1,x10.1,x11.1,x12.1,())
def Qu (A:Alg) (gu:Pt A dA) (gy:Ft A dA) (x:Tup A.ah [.x .iop]):Ot A Ku:=
 A.l1 .b (A.bl false) fun x0=>
 A.cl gu gy (A.fI .iop 0 x.1,A.lit 1,A.lit 4,()) fun x1=>
 A.rb (A.au x1.1 (A.bl true) (A.cmp .eql (A.fI .iop 0 x.1) (A.lit 6)))
def Qv (A:Alg) (an0:Pt A Ku) (an1:Ft A Ku) (gu:Pt A dA) (gy:Ft A dA) (x:Tup A.ah [.x .blk,.i,.i]):Ot A Aq:=
 A.l1 .b (A.bl false) fun x0=>
 A.cl gu gy (x.2.1,A.lit 0,A.arith .sub .i64 x.2.2.1 (A.lit 1),()) fun x1=>
 A.chk (A.orB (A.aA x1.1) (A.cmp .leq (A.lit 0) x.2.1))<|
 A.chk (A.orB (A.aA x1.1) (A.cmp .lss x.2.1 (A.len .iop (A.fL .blk 2 .iop x.1))))<|
 A.cg x1.1 an0 an1 (A.get .iop (A.fL .blk 2 .iop x.1) x.2.1,()) fun x2=>
 A.rb (A.au x1.1 x2.1 (A.bl false))
def Qw (A:Alg) (Qx:Pt A Aq) (Qy:Ft A Aq) (ZB:Pt A Ap) (ZE:Ft A Ap) (sS:Pt A jI) (sU:Ft A jI) (gu:Pt A dA) (gy:Ft A dA) (Zv:Pt A Ak) (Zw:Ft A Ak) (VT:Pt A Al) (VU:Ft A Al) (x:Tup A.ah [.x .blk,.i]):Ot A Kv:=
 A.l1 .b (A.bl false) fun x0=>
 A.bd .iop (A.fL .blk 2 .iop x.1) x.2.1<|
 A.l1 (.x .iop) (A.get .iop (A.fL .blk 2 .iop x.1) x.2.1) fun x1=>
 A.cl gu gy (A.fI .iop 0 x1.1,A.lit 1,A.lit 8,()) fun x2=>
 A.cond (A.aA x2.1) (A.rb (A.bl false))<|
 A.cl ZB ZE (x1.1,()) fun x3=>
 A.l1 .b x3.1 fun x4=>
 A.l1 .b x3.2.1 fun x5=>
 A.l1 .b x3.2.2.1 fun x6=>
 A.l1 .b x3.2.2.2.1 fun x7=>
 A.cl sS sU (A.fI .iop 3 x1.1,()) fun x8=>
 A.cl VT VU (A.fI .iop 3 x1.1,()) fun x9=>
 A.cl Zv Zw (A.fI .iop 3 x1.1,()) fun x10=>
 A.cl VT VU (A.fI .iop 3 x1.1,()) fun x11=>
 A.l1 .b (A.au (A.cmp .eql (A.fI .iop 0 x1.1) (A.lit 1)) x8.1 (A.au (A.cmp .eql (A.fI .iop 0 x1.1) (A.lit 2)) x9.1 (A.au (A.cmp .eql (A.fI .iop 0 x1.1) (A.lit 3)) x10.1 (A.au (A.cmp .eql (A.fI .iop 0 x1.1) (A.lit 8)) x11.1 (A.bl false))))) fun x12=>
 A.cg x4.1 Qx Qy (x.1,A.fI .iop 1 x1.1,x.2.1,()) fun x13=>
 A.cg (A.jH (A.au (A.au x4.1 x13.1 (A.bl false)) (A.bl true) (A.au (A.aA x4.1) (A.cmp .eql (A.fI .iop 1 x1.1) (A.lit 0)) (A.bl false))) x5.1) Qx Qy (x.1,A.fI .iop 2 x1.1,x.2.1,()) fun x14=>
 A.cg (A.jH (A.au (A.au (A.au (A.au x4.1 x13.1 (A.bl false)) (A.bl true) (A.au (A.aA x4.1) (A.cmp .eql (A.fI .iop 1 x1.1) (A.lit 0)) (A.bl false))) (A.au (A.au x5.1 x14.1 (A.bl false)) (A.bl true) (A.au (A.aA x5.1) (A.cmp .eql (A.fI .iop 2 x1.1) (A.lit 0)) (A.bl false))) (A.bl false)) (A.au (A.au x6.1 x12.1 (A.bl false)) (A.bl true) (A.au (A.aA x6.1) (A.cmp .eql (A.fI .iop 3 x1.1) (A.lit 0)) (A.bl false))) (A.bl false)) x7.1) gu gy (A.fI .iop 4 x1.1,A.lit 0,A.arith .sub .i64 (A.fI .blk 1 x.1) (A.lit 1),()) fun x15=>
 A.rb (A.au (A.au (A.au (A.au (A.au x4.1 x13.1 (A.bl false)) (A.bl true) (A.au (A.aA x4.1) (A.cmp .eql (A.fI .iop 1 x1.1) (A.lit 0)) (A.bl false))) (A.au (A.au x5.1 x14.1 (A.bl false)) (A.bl true) (A.au (A.aA x5.1) (A.cmp .eql (A.fI .iop 2 x1.1) (A.lit 0)) (A.bl false))) (A.bl false)) (A.au (A.au x6.1 x12.1 (A.bl false)) (A.bl true) (A.au (A.aA x6.1) (A.cmp .eql (A.fI .iop 3 x1.1) (A.lit 0)) (A.bl false))) (A.bl false)) (A.au (A.au x7.1 x15.1 (A.bl false)) (A.bl true) (A.au (A.aA x7.1) (A.cmp .eql (A.fI .iop 4 x1.1) (A.lit 0)) (A.bl false))) (A.bl false))
def Qz (A:Alg) (x:Tup A.ah [.x .blk]):Ot A Ar:=
 A.l1 .b (A.bl false) fun x0=>
 A.l1 .b (A.bl false) fun x1=>
 A.l1 .b (A.bl false) fun x2=>
 A.l1 .b (A.cmp .neq (A.fI .blk 3 x.1) (A.lit 1)) fun x3=>
 A.l1 .b (A.cmp .geq (A.fI .blk 3 x.1) (A.lit 3)) fun x4=>
 A.l1 .b (A.cmp .neq (A.fI .blk 3 x.1) (A.lit 2)) fun x5=>
 A.ret _ (x3.1,x4.1,x5.1,())
def QA (A:Alg) (ZF:Pt A Ar) (ZG:Ft A Ar) (Qx:Pt A Aq) (Qy:Ft A Aq) (sS:Pt A jI) (sU:Ft A jI) (gu:Pt A dA) (gy:Ft A dA) (x:Tup A.ah [.x .blk]):Ot A Kw:=
 A.l1 .b (A.bl false) fun x0=>
 A.cl ZF ZG (x.1,()) fun x1=>
 A.l1 .b x1.1 fun x2=>
 A.l1 .b x1.2.1 fun x3=>
 A.l1 .b x1.2.2.1 fun x4=>
 A.cl gu gy (A.fI .blk 3 x.1,A.lit 1,A.lit 4,()) fun x5=>
 A.cg (A.jH x5.1 x2.1) Qx Qy (x.1,A.fI .blk 4 x.1,A.len .iop (A.fL .blk 2 .iop x.1),()) fun x6=>
 A.cg (A.jH (A.au x5.1 (A.au (A.au x2.1 x6.1 (A.bl false)) (A.bl true) (A.au (A.aA x2.1) (A.cmp .eql (A.fI .blk 4 x.1) (A.lit 0)) (A.bl false))) (A.bl false)) x3.1) Qx Qy (x.1,A.fI .blk 5 x.1,A.len .iop (A.fL .blk 2 .iop x.1),()) fun x7=>
 A.cg (A.jH (A.au (A.au x5.1 (A.au (A.au x2.1 x6.1 (A.bl false)) (A.bl true) (A.au (A.aA x2.1) (A.cmp .eql (A.fI .blk 4 x.1) (A.lit 0)) (A.bl false))) (A.bl false)) (A.au (A.au x3.1 x7.1 (A.bl false)) (A.bl true) (A.au (A.aA x3.1) (A.cmp .eql (A.fI .blk 5 x.1) (A.lit 0)) (A.bl false))) (A.bl false)) x4.1) sS sU (A.fI .blk 6 x.1,()) fun x8=>
 A.rb (A.au (A.au (A.au x5.1 (A.au (A.au x2.1 x6.1 (A.bl false)) (A.bl true) (A.au (A.aA x2.1) (A.cmp .eql (A.fI .blk 4 x.1) (A.lit 0)) (A.bl false))) (A.bl false)) (A.au (A.au x3.1 x7.1 (A.bl false)) (A.bl true) (A.au (A.aA x3.1) (A.cmp .eql (A.fI .blk 5 x.1) (A.lit 0)) (A.bl false))) (A.bl false)) (A.au (A.au x4.1 x8.1 (A.bl false)) (A.bl true) (A.au (A.aA x4.1) (A.cmp .eql (A.fI .blk 6 x.1) (A.lit 0)) (A.bl false))) (A.bl false))
def QB (A:Alg) (an2:Pt A Kw) (an3:Ft A Kw) (an4:Pt A Kv) (an5:Ft A Kv) (gu:Pt A dA) (gy:Ft A dA) (x:Tup A.ah [.x .blk]):Ot A Ky:=
 A.l1 .b (A.bl false) fun x0=>
 A.cl gu gy (A.fI .blk 1 x.1,A.lit 1,A.lit 8,()) fun x1=>
 A.cg (A.aA (A.aA x1.1)) gu gy (A.fI .blk 0 x.1,A.lit 0,A.arith .sub .i64 (A.lit 64) (A.fI .blk 1 x.1),()) fun x2=>
 A.cond (A.au (A.au (A.aA x1.1) (A.bl true) (A.aA x2.1)) (A.bl true) (A.cmp .gtr (A.len .iop (A.fL .blk 2 .iop x.1)) (A.lit 48))) (A.rb (A.bl false))<|
 A.iter [.i,.i,.x .blk] (fun x3=>
 A.cond (A.cmp .lss x3.2.1 x3.1) (A.l1 .i x3.2.1 fun x4=>
 A.cl an4 an5 (x3.2.2.1,x4.1,()) fun x5=>
 A.cond (A.aA x5.1) (A.l1 .b (A.bl false) fun x6=>
 A.inr _<|A.ret _ (x6.1,()))<|
 A.inl _ (x3.1,A.arith .add .i64 x3.2.1 (A.lit 1),x3.2.2.1,()))<|
 A.inr _<|A.cl an2 an3 (x3.2.2.1,()) fun x4=>
 A.rb x4.1) (A.len .iop (A.fL .blk 2 .iop x.1),A.lit 0,x.1,())
def QC (A:Alg) (x:Tup A.ah [.l .atom]):Ot A Kz:=
 A.chk (A.cmp .leq (A.lit 0) (A.lit 0))<|
 A.chk (A.cmp .leq (A.lit 0) (A.len .atom x.1))<|
 A.chk (A.cmp .leq (A.len .atom x.1) (A.len .atom x.1))<|
 A.chk (A.cmp .eql (A.len .atom x.1) (A.len .atom x.1))<|
 A.ret _ (A.sub .atom x.1 (A.lit 0) (A.len .atom x.1),())
def QD (A:Alg) (Zx:Pt A Am) (Zy:Ft A Am) (Zz:Pt A Ao) (ZA:Ft A Ao) (an6:Pt A Kz) (an7:Ft A Kz) (x:Tup A.ah [.x .tab,.x .atom]):Ot A Au:=
 A.l1 .i (A.lit 0) fun x0=>
 A.cl Zz ZA (x.1,x.2.1,()) fun x1=>
 A.l1 .i x1.1 fun x2=>
 A.cond (A.cmp .geq x2.1 (A.lit 0)) (A.l1 (.x .tab) x.1 fun x3=>
 A.l1 .i x2.1 fun x4=>
 A.ret _ (x3.1,x4.1,()))<|
 A.cl Zx Zy (x.2.1,A.len .atom (A.fL .tab 0 .atom x.1),()) fun x3=>
 A.cond (A.au (A.aA x3.1) (A.bl true) (A.cmp .eql (A.len .atom (A.fL .tab 0 .atom x.1)) (A.lit 200))) (A.l1 (.x .tab) x.1 fun x4=>
 A.l1 .i (A.lit (-1)) fun x5=>
 A.ret _ (x4.1,x5.1,()))<|
 A.cl an6 an7 (A.fL .tab 0 .atom x.1,()) fun x4=>
 A.chk (A.orB (A.cmp .lss (A.lit 0) (A.len .atom (A.lst .atom [x.2.1]))) (A.cmp .eql (A.len .atom x4.1) (A.lit 0)))<|
 A.chk (A.cmp .leq (A.addN (A.len .atom x4.1) (A.len .atom (A.lst .atom [x.2.1]))) (A.lit 1073741824))<|
 A.l1 (.l .atom) (A.app .atom x4.1 (A.lst .atom [x.2.1])) fun x5=>
 A.l1 .i (A.len .atom (A.fL .tab 0 .atom x.1)) fun x6=>
 A.ret _ (A.mkX .tab (x5.1,()),x6.1,())
def QE (A:Alg) (gu:Pt A dA) (gy:Ft A dA) (x:Tup A.ah [.i]):Ot A Av:=
 A.cl gu gy (x.1,A.lit 0,A.lit 199,()) fun x0=>
 A.cond (A.aA x0.1) (A.ret _ (A.bC .mono,()))<|
 A.l1 (.l .i64) (A.lst .i64 [A.mkX .i64 (x.1,())]) fun x1=>
 A.l1 (.l .mono) (A.lst .mono [A.mkX .mono (A.lit 1,x1.1,())]) fun x2=>
 A.ret _ (x2.1,())
def QF (A:Alg) (ZH:Pt A Av) (ZI:Ft A Av) (ZJ:Pt A Au) (ZK:Ft A Au) (x:Tup A.ah [.i,.i,.l .atom,.b]):Ot A Aw:=
 A.cl ZJ ZK (A.mkX .tab (x.2.2.1,()),A.mkX .atom (x.1,x.2.1,A.bC .mono,A.bC .mono,()),()) fun x0=>
 A.l1 (.x .tab) x0.1 fun x1=>
 A.l1 .i x0.2.1 fun x2=>
 A.cond (A.cmp .lss x2.1 (A.lit 0)) (A.l1 .b (A.bl true) fun x3=>
 A.ret _ (A.mkX .poly (A.bC .mono,()),x.2.2.1,x3.1,()))<|
 A.l1 (.x .tab) x1.1 fun x3=>
 A.cl ZH ZI (x2.1,()) fun x4=>
 A.ret _ (A.mkX .poly (x4.1,()),A.fL .tab 0 .atom x3.1,x.2.2.2.1,())
def QG (A:Alg) (VW:Pt A Aw) (VX:Ft A Aw) (x:Tup A.ah [.l .atom,.b]):Ot A KA:=
 A.iter [.i,.l .atom,.b,.l .poly] (fun x0=>
 A.cond (A.cmp .lss x0.1 (A.lit 4)) (A.l1 .i x0.1 fun x1=>
 A.cl VW VX (A.lit 1,x1.1,x0.2.1,x0.2.2.1,()) fun x2=>
 A.l1 (.l .poly) (A.lst .poly [x2.1]) fun x3=>
 A.chk (A.cmp .leq (A.addN (A.len .poly x0.2.2.2.1) (A.len .poly x3.1)) (A.lit 1073741824))<|
 A.l1 (.l .poly) (A.app .poly x0.2.2.2.1 x3.1) fun x4=>
 A.inl _ (A.arith .add .i64 x0.1 (A.lit 1),x2.2.1,x2.2.2.1,x4.1,()))<|
 A.inr _<|A.ret _ (x0.2.1,x0.2.2.1,x0.2.2.2.1,())) (A.lit 0,x.1,x.2.1,A.bC .poly,())
def QH (A:Alg) (gu:Pt A dA) (gy:Ft A dA) (x:Tup A.ah [.x .iop]):Ot A KC:=
 A.l1 .b (A.bl false) fun x0=>
 A.cl gu gy (A.fI .iop 0 x.1,A.lit 4,A.lit 7,()) fun x1=>
 A.rb x1.1
def QI (A:Alg) (x:Tup A.ah [.l .poly]):Ot A KD:=
 A.chk (A.cmp .neq (A.len .poly x.1) (A.lit 0))<|
 A.cond (A.bl false) (A.ret _ (x.1,A.bC .poly,()))<|
 A.l1 (.l .poly) (A.lst .poly []) fun x0=>
 A.chk (A.cmp .leq (A.addN (A.len .poly x0.1) (A.len .poly x.1)) (A.lit 1073741824))<|
 A.l1 (.l .poly) (A.app .poly x0.1 x.1) fun x1=>
 A.ret _ (x.1,x1.1,())
def QJ (A:Alg) (gu:Pt A dA) (gy:Ft A dA) (x:Tup A.ah [.i]):Ot A vM:=
 A.cl gu gy (x.1,A.lit 1,A.lit 65535,()) fun x0=>
 A.cond (A.aA x0.1) (A.ret _ (A.bC .mono,()))<|
 A.l1 (.l .mono) (A.lst .mono [A.mkX .mono (x.1,A.bC .i64,())]) fun x1=>
 A.ret _ (x1.1,())
def QK (A:Alg) (x:Tup A.ah [.i]):Ot A vN:=
 A.l1 .i (A.lit 0) fun x0=>
 A.l1 .i (A.arith .and .i64 x.1 (A.lit 65535)) fun x1=>
 A.ret _ (x1.1,())
def QL (A:Alg) (sS:Pt A jI) (sU:Ft A jI) (IX:Pt A vN) (IY:Ft A vN) (x:Tup A.ah [.i,.i,.i]):Ot A KE:=
 A.l1 .i (A.lit 0) fun x0=>
 A.cl sS sU (x.2.1,()) fun x1=>
 A.cg (A.aA (A.aA x1.1)) sS sU (x.2.2.1,()) fun x2=>
 A.cond (A.au (A.aA x1.1) (A.bl true) (A.aA x2.1)) (A.l1 .i (A.lit 0) fun x3=>
 A.ret _ (x3.1,()))<|
 A.l1 .b (A.cmp .eql x.1 (A.lit 1)) fun x3=>
 A.cond x3.1 (A.cl IX IY (A.arith .add .i64 x.2.1 x.2.2.1,()) fun x4=>
 A.l1 .i x4.1 fun x5=>
 A.ret _ (x5.1,()))<|
 A.l1 .b (A.cmp .eql x.1 (A.lit 2)) fun x4=>
 A.cond x4.1 (A.cl IX IY (A.arith .sub .i64 x.2.1 x.2.2.1,()) fun x5=>
 A.l1 .i x5.1 fun x6=>
 A.ret _ (x6.1,()))<|
 A.l1 .b (A.cmp .eql x.1 (A.lit 3)) fun x5=>
 A.cond x5.1 (A.cl IX IY (A.arith .mul .i64 x.2.1 x.2.2.1,()) fun x6=>
 A.l1 .i x6.1 fun x7=>
 A.ret _ (x7.1,()))<|
 A.l1 .b (A.cmp .eql x.1 (A.lit 4)) fun x6=>
 A.cond x6.1 (A.l1 .i (A.arith .and .i64 x.2.1 x.2.2.1) fun x7=>
 A.ret _ (x7.1,()))<|
 A.l1 .b (A.cmp .eql x.1 (A.lit 5)) fun x7=>
 A.cond x7.1 (A.l1 .i (A.arith .xor .i64 x.2.1 x.2.2.1) fun x8=>
 A.ret _ (x8.1,()))<|
 A.l1 .i (A.lit 0) fun x8=>
 A.ret _ (x8.1,())
def QM (A:Alg) (IQ:Pt A nY) (IU:Ft A nY) (x:Tup A.ah [.x .mono,.x .mono]):Ot A Ay:=
 A.l1 .i (A.lit 0) fun x0=>
 A.cl IQ IU (A.fL .mono 1 .i64 x.1,A.fL .mono 1 .i64 x.2.1,()) fun x1=>
 A.l1 .i x1.1 fun x2=>
 A.ret _ (x2.1,())
def IZ (A:Alg) (QN:Pt A Ay) (QO:Ft A Ay) (x:Tup A.ah [.i,.i,.l .mono]):Ot A CP:=
 A.l1 .i (A.arith .add .i64 x.1 (A.lit 1)) fun x0=>
 A.iter [.i,.i,.i,.l .mono] (fun x1=>
 A.cond (A.cmp .lss x1.2.2.1 x1.2.1) (A.l1 .i x1.2.2.1 fun x2=>
 A.iter [.i,.i,.i,.i,.l .mono] (fun x3=>
 A.chk (A.orB (A.aA (A.cmp .gtr x3.2.2.2.1 x3.1)) (A.cmp .leq (A.lit 0) x3.2.2.2.1))<|
 A.chk (A.orB (A.aA (A.cmp .gtr x3.2.2.2.1 x3.1)) (A.cmp .lss x3.2.2.2.1 (A.len .mono x3.q.1)))<|
 A.chk (A.orB (A.aA (A.cmp .gtr x3.2.2.2.1 x3.1)) (A.cmp .leq (A.lit 0) x3.2.2.2.1))<|
 A.chk (A.orB (A.aA (A.cmp .gtr x3.2.2.2.1 x3.1)) (A.cmp .lss x3.2.2.2.1 (A.len .mono x3.q.1)))<|
 A.chk (A.orB (A.aA (A.cmp .gtr x3.2.2.2.1 x3.1)) (A.cmp .leq (A.lit 0) (A.arith .sub .i64 x3.2.2.2.1 (A.lit 1))))<|
 A.chk (A.orB (A.aA (A.cmp .gtr x3.2.2.2.1 x3.1)) (A.cmp .lss (A.arith .sub .i64 x3.2.2.2.1 (A.lit 1)) (A.len .mono x3.q.1)))<|
 A.chk (A.orB (A.aA (A.cmp .gtr x3.2.2.2.1 x3.1)) (A.cmp .leq (A.lit 0) (A.arith .sub .i64 x3.2.2.2.1 (A.lit 1))))<|
 A.chk (A.orB (A.aA (A.cmp .gtr x3.2.2.2.1 x3.1)) (A.cmp .lss (A.arith .sub .i64 x3.2.2.2.1 (A.lit 1)) (A.len .mono x3.q.1)))<|
 A.cg (A.cmp .gtr x3.2.2.2.1 x3.1) QN QO (A.get .mono x3.q.1 x3.2.2.2.1,A.get .mono x3.q.1 (A.arith .sub .i64 x3.2.2.2.1 (A.lit 1)),()) fun x4=>
 A.cond (A.au (A.cmp .gtr x3.2.2.2.1 x3.1) (A.cmp .lss x4.1 (A.lit 0)) (A.bl false)) (A.bd .mono x3.q.1 (A.arith .sub .i64 x3.2.2.2.1 (A.lit 1))<|
 A.bd .mono x3.q.1 (A.arith .sub .i64 x3.2.2.2.1 (A.lit 1))<|
 A.bd .mono x3.q.1 x3.2.2.2.1<|
 A.bd .mono x3.q.1 x3.2.2.2.1<|
 A.bd .mono x3.q.1 x3.2.2.2.1<|
 A.bd .mono x3.q.1 x3.2.2.2.1<|
 A.l1 (.x .mono) (A.get .mono x3.q.1 (A.arith .sub .i64 x3.2.2.2.1 (A.lit 1))) fun x5=>
 A.bd .mono (A.set .mono x3.q.1 x3.2.2.2.1 x5.1) (A.arith .sub .i64 x3.2.2.2.1 (A.lit 1))<|
 A.bd .mono (A.set .mono x3.q.1 x3.2.2.2.1 x5.1) (A.arith .sub .i64 x3.2.2.2.1 (A.lit 1))<|
 A.l1 (.x .mono) (A.get .mono x3.q.1 x3.2.2.2.1) fun x6=>
 A.l1 .i (A.arith .sub .i64 x3.2.2.2.1 (A.lit 1)) fun x7=>
 A.inl _ (x3.1,x3.2.1,x3.2.2.1,x7.1,A.set .mono (A.set .mono x3.q.1 x3.2.2.2.1 x5.1) (A.arith .sub .i64 x3.2.2.2.1 (A.lit 1)) x6.1,()))<|
 A.inr _<|A.l1 .i (A.arith .add .i64 x3.2.2.1 (A.lit 1)) fun x5=>
 A.inl _ (x3.1,x3.2.1,x5.1,x3.q.1,())) (x1.1,x1.2.1,x1.2.2.1,x2.1,x1.2.2.2.1,()))<|
 A.inr _<|A.ret _ (x1.2.2.2.1,())) (x.1,x.2.1,x0.1,x.2.2.1,())
def I4 (A:Alg) (x:Tup A.ah [.i,.i,.i,.l .mono]):Ot A CQ:=
 A.l1 .i (A.lit 0) fun x0=>
 A.iter [.i,.i,.i,.i,.l .mono] (fun x1=>
 A.cond (A.cmp .lss x1.2.2.2.1 x1.2.2.1) (A.bd .mono x1.q.1 (A.arith .add .i64 x1.2.1 x1.2.2.2.1)<|
 A.bd .mono x1.q.1 (A.arith .add .i64 x1.2.1 x1.2.2.2.1)<|
 A.bd .mono x1.q.1 (A.arith .add .i64 x1.1 x1.2.2.2.1)<|
 A.bd .mono x1.q.1 (A.arith .add .i64 x1.1 x1.2.2.2.1)<|
 A.bd .mono x1.q.1 (A.arith .add .i64 x1.1 x1.2.2.2.1)<|
 A.bd .mono x1.q.1 (A.arith .add .i64 x1.1 x1.2.2.2.1)<|
 A.l1 (.x .mono) (A.get .mono x1.q.1 (A.arith .add .i64 x1.2.1 x1.2.2.2.1)) fun x2=>
 A.bd .mono (A.set .mono x1.q.1 (A.arith .add .i64 x1.1 x1.2.2.2.1) x2.1) (A.arith .add .i64 x1.2.1 x1.2.2.2.1)<|
 A.bd .mono (A.set .mono x1.q.1 (A.arith .add .i64 x1.1 x1.2.2.2.1) x2.1) (A.arith .add .i64 x1.2.1 x1.2.2.2.1)<|
 A.l1 (.x .mono) (A.get .mono x1.q.1 (A.arith .add .i64 x1.1 x1.2.2.2.1)) fun x3=>
 A.l1 .i (A.arith .add .i64 x1.2.2.2.1 (A.lit 1)) fun x4=>
 A.inl _ (x1.1,x1.2.1,x1.2.2.1,x4.1,A.set .mono (A.set .mono x1.q.1 (A.arith .add .i64 x1.1 x1.2.2.2.1) x2.1) (A.arith .add .i64 x1.2.1 x1.2.2.2.1) x3.1,()))<|
 A.inr _<|A.ret _ (x1.q.1,())) (x.1,x.2.1,x.2.2.1,x0.1,x.2.2.2.1,())
def I5 (A:Alg) (TF:Pt A CQ) (TG:Ft A CQ) (x:Tup A.ah [.i,.i,.i,.l .mono]):Ot A CS:=
 A.l1 .i (A.arith .sub .i64 x.2.1 x.1) fun x0=>
 A.l1 .i (A.arith .sub .i64 x.2.2.1 x.2.1) fun x1=>
 A.iter [.i,.i,.i,.l .mono] (fun x2=>
 A.cond (A.cmp .neq x2.2.1 x2.2.2.1) (A.bind [.i,.i,.i,.l .mono] (A.cond (A.cmp .gtr x2.2.1 x2.2.2.1) (A.cl TF TG (A.arith .sub .i64 x2.1 x2.2.1,x2.1,x2.2.2.1,x2.2.2.2.1,()) fun x3=>
 A.l1 .i (A.arith .sub .i64 x2.2.1 x2.2.2.1) fun x4=>
 A.ret _ (x2.1,x4.1,x2.2.2.1,x3.1,()))<|
 A.cl TF TG (A.arith .sub .i64 x2.1 x2.2.1,A.arith .sub .i64 (A.arith .add .i64 x2.1 x2.2.2.1) x2.2.1,x2.2.1,x2.2.2.2.1,()) fun x3=>
 A.l1 .i (A.arith .sub .i64 x2.2.2.1 x2.2.1) fun x4=>
 A.ret _ (x2.1,x2.2.1,x4.1,x3.1,())) fun x3=>
 A.inl _ (x3.1,x3.2.1,x3.2.2.1,x3.2.2.2.1,()))<|
 A.inr _<|A.cl TF TG (A.arith .sub .i64 x2.1 x2.2.1,x2.1,x2.2.1,x2.2.2.2.1,()) fun x3=>
 A.ret _ (x3.1,())) (x.2.1,x0.1,x1.1,x.2.2.2.1,())
def I6 (A:Alg) (QN:Pt A Ay) (QO:Ft A Ay) (ajP:Pt A CS) (ajQ:Ft A CS) (I7:Pt A nZ) (I8:Ft A nZ) (x:Tup A.ah [.i,.i,.i,.l .mono]):Ot A nZ:=
 A.cond (A.cmp .eql (A.arith .sub .i64 x.2.1 x.1) (A.lit 1)) (A.l1 .i x.2.1 fun x0=>
 A.l1 .i x.2.2.1 fun x1=>
 A.iter [.i,.i,.i,.l .mono] (fun x2=>
 A.cond (A.cmp .lss x2.2.1 x2.2.2.1) (A.chk (A.cmp .leq (A.lit 0) (A.lit 1))<|
 A.l1 .i (A.conv .i64 (A.arith .shr .u64 (A.conv .u64 (A.arith .add .i64 x2.2.1 x2.2.2.1)) (A.lit 1))) fun x3=>
 A.bd .mono x2.2.2.2.1 x3.1<|
 A.bd .mono x2.2.2.2.1 x3.1<|
 A.bd .mono x2.2.2.2.1 x2.1<|
 A.bd .mono x2.2.2.2.1 x2.1<|
 A.cl QN QO (A.get .mono x2.2.2.2.1 x3.1,A.get .mono x2.2.2.2.1 x2.1,()) fun x4=>
 A.bind [.i,.i,.i,.l .mono] (A.cond (A.cmp .lss x4.1 (A.lit 0)) (A.l1 .i (A.arith .add .i64 x3.1 (A.lit 1)) fun x5=>
 A.ret _ (x2.1,x5.1,x2.2.2.1,x2.2.2.2.1,()))<|
 A.l1 .i x3.1 fun x5=>
 A.ret _ (x2.1,x2.2.1,x5.1,x2.2.2.2.1,())) fun x5=>
 A.inl _ (x5.1,x5.2.1,x5.2.2.1,x5.2.2.2.1,()))<|
 A.inr _<|A.l1 .i x2.1 fun x3=>
 A.iter [.i,.i,.l .mono] (fun x4=>
 A.cond (A.cmp .lss x4.2.1 (A.arith .sub .i64 x4.1 (A.lit 1))) (A.bd .mono x4.2.2.1 (A.arith .add .i64 x4.2.1 (A.lit 1))<|
 A.bd .mono x4.2.2.1 (A.arith .add .i64 x4.2.1 (A.lit 1))<|
 A.bd .mono x4.2.2.1 x4.2.1<|
 A.bd .mono x4.2.2.1 x4.2.1<|
 A.bd .mono x4.2.2.1 x4.2.1<|
 A.bd .mono x4.2.2.1 x4.2.1<|
 A.l1 (.x .mono) (A.get .mono x4.2.2.1 (A.arith .add .i64 x4.2.1 (A.lit 1))) fun x5=>
 A.bd .mono (A.set .mono x4.2.2.1 x4.2.1 x5.1) (A.arith .add .i64 x4.2.1 (A.lit 1))<|
 A.bd .mono (A.set .mono x4.2.2.1 x4.2.1 x5.1) (A.arith .add .i64 x4.2.1 (A.lit 1))<|
 A.l1 (.x .mono) (A.get .mono x4.2.2.1 x4.2.1) fun x6=>
 A.l1 .i (A.arith .add .i64 x4.2.1 (A.lit 1)) fun x7=>
 A.inl _ (x4.1,x7.1,A.set .mono (A.set .mono x4.2.2.1 x4.2.1 x5.1) (A.arith .add .i64 x4.2.1 (A.lit 1)) x6.1,()))<|
 A.inr _<|A.ret _ (x4.2.2.1,())) (x2.2.1,x3.1,x2.2.2.2.1,())) (x.1,x0.1,x1.1,x.2.2.2.1,()))<|
 A.cond (A.cmp .eql (A.arith .sub .i64 x.2.2.1 x.2.1) (A.lit 1)) (A.l1 .i x.1 fun x0=>
 A.l1 .i x.2.1 fun x1=>
 A.iter [.i,.i,.i,.l .mono] (fun x2=>
 A.cond (A.cmp .lss x2.2.1 x2.2.2.1) (A.chk (A.cmp .leq (A.lit 0) (A.lit 1))<|
 A.l1 .i (A.conv .i64 (A.arith .shr .u64 (A.conv .u64 (A.arith .add .i64 x2.2.1 x2.2.2.1)) (A.lit 1))) fun x3=>
 A.bd .mono x2.2.2.2.1 x2.1<|
 A.bd .mono x2.2.2.2.1 x2.1<|
 A.bd .mono x2.2.2.2.1 x3.1<|
 A.bd .mono x2.2.2.2.1 x3.1<|
 A.cl QN QO (A.get .mono x2.2.2.2.1 x2.1,A.get .mono x2.2.2.2.1 x3.1,()) fun x4=>
 A.bind [.i,.i,.i,.l .mono] (A.cond (A.aA (A.cmp .lss x4.1 (A.lit 0))) (A.l1 .i (A.arith .add .i64 x3.1 (A.lit 1)) fun x5=>
 A.ret _ (x2.1,x5.1,x2.2.2.1,x2.2.2.2.1,()))<|
 A.l1 .i x3.1 fun x5=>
 A.ret _ (x2.1,x2.2.1,x5.1,x2.2.2.2.1,())) fun x5=>
 A.inl _ (x5.1,x5.2.1,x5.2.2.1,x5.2.2.2.1,()))<|
 A.inr _<|A.l1 .i x2.1 fun x3=>
 A.iter [.i,.i,.l .mono] (fun x4=>
 A.cond (A.cmp .gtr x4.2.1 x4.1) (A.bd .mono x4.2.2.1 (A.arith .sub .i64 x4.2.1 (A.lit 1))<|
 A.bd .mono x4.2.2.1 (A.arith .sub .i64 x4.2.1 (A.lit 1))<|
 A.bd .mono x4.2.2.1 x4.2.1<|
 A.bd .mono x4.2.2.1 x4.2.1<|
 A.bd .mono x4.2.2.1 x4.2.1<|
 A.bd .mono x4.2.2.1 x4.2.1<|
 A.l1 (.x .mono) (A.get .mono x4.2.2.1 (A.arith .sub .i64 x4.2.1 (A.lit 1))) fun x5=>
 A.bd .mono (A.set .mono x4.2.2.1 x4.2.1 x5.1) (A.arith .sub .i64 x4.2.1 (A.lit 1))<|
 A.bd .mono (A.set .mono x4.2.2.1 x4.2.1 x5.1) (A.arith .sub .i64 x4.2.1 (A.lit 1))<|
 A.l1 (.x .mono) (A.get .mono x4.2.2.1 x4.2.1) fun x6=>
 A.l1 .i (A.arith .sub .i64 x4.2.1 (A.lit 1)) fun x7=>
 A.inl _ (x4.1,x7.1,A.set .mono (A.set .mono x4.2.2.1 x4.2.1 x5.1) (A.arith .sub .i64 x4.2.1 (A.lit 1)) x6.1,()))<|
 A.inr _<|A.ret _ (x4.2.2.1,())) (x2.2.1,x3.1,x2.2.2.2.1,())) (x.2.1,x0.1,x1.1,x.2.2.2.1,()))<|
 A.chk (A.cmp .leq (A.lit 0) (A.lit 1))<|
 A.l1 .i (A.conv .i64 (A.arith .shr .u64 (A.conv .u64 (A.arith .add .i64 x.1 x.2.2.1)) (A.lit 1))) fun x0=>
 A.l1 .i (A.arith .add .i64 x0.1 x.2.1) fun x1=>
 A.l1 .i (A.lit 0) fun x2=>
 A.l1 .i (A.lit 0) fun x3=>
 A.bind [.i,.i,.i,.i,.i,.i,.i,.l .mono] (A.cond (A.cmp .gtr x.2.1 x0.1) (A.l1 .i (A.arith .sub .i64 x1.1 x.2.2.1) fun x4=>
 A.l1 .i x0.1 fun x5=>
 A.ret _ (x.1,x.2.1,x.2.2.1,x0.1,x1.1,x4.1,x5.1,x.2.2.2.1,()))<|
 A.l1 .i x.1 fun x4=>
 A.l1 .i x.2.1 fun x5=>
 A.ret _ (x.1,x.2.1,x.2.2.1,x0.1,x1.1,x4.1,x5.1,x.2.2.2.1,())) fun x4=>
 A.l1 .i (A.arith .sub .i64 x4.q.1 (A.lit 1)) fun x5=>
 A.iter [.i,.i,.i,.i,.i,.i,.i,.i,.l .mono] (fun x6=>
 A.cond (A.cmp .lss x6.q.2.1 x6.q.2.2.1) (A.chk (A.cmp .leq (A.lit 0) (A.lit 1))<|
 A.l1 .i (A.conv .i64 (A.arith .shr .u64 (A.conv .u64 (A.arith .add .i64 x6.q.2.1 x6.q.2.2.1)) (A.lit 1))) fun x7=>
 A.bd .mono x6.o.1 (A.arith .sub .i64 x6.q.2.2.2.1 x7.1)<|
 A.bd .mono x6.o.1 (A.arith .sub .i64 x6.q.2.2.2.1 x7.1)<|
 A.bd .mono x6.o.1 x7.1<|
 A.bd .mono x6.o.1 x7.1<|
 A.cl QN QO (A.get .mono x6.o.1 (A.arith .sub .i64 x6.q.2.2.2.1 x7.1),A.get .mono x6.o.1 x7.1,()) fun x8=>
 A.bind [.i,.i,.i,.i,.i,.i,.i,.i,.l .mono] (A.cond (A.aA (A.cmp .lss x8.1 (A.lit 0))) (A.l1 .i (A.arith .add .i64 x7.1 (A.lit 1)) fun x9=>
 A.ret _ (x6.1,x6.2.1,x6.2.2.1,x6.2.2.2.1,x6.q.1,x9.1,x6.q.2.2.1,x6.q.2.2.2.1,x6.o.1,()))<|
 A.l1 .i x7.1 fun x9=>
 A.ret _ (x6.1,x6.2.1,x6.2.2.1,x6.2.2.2.1,x6.q.1,x6.q.2.1,x9.1,x6.q.2.2.2.1,x6.o.1,())) fun x9=>
 A.inl _ (x9.1,x9.2.1,x9.2.2.1,x9.2.2.2.1,x9.q.1,x9.q.2.1,x9.q.2.2.1,x9.q.2.2.2.1,x9.o.1,()))<|
 A.inr _<|A.l1 .i (A.arith .sub .i64 x6.q.1 x6.q.2.1) fun x7=>
 A.bind [.i,.i,.i,.i,.i,.l .mono] (A.cond (A.au (A.cmp .lss x6.q.2.1 x6.2.1) (A.cmp .lss x6.2.1 x7.1) (A.bl false)) (A.cl ajP ajQ (x6.q.2.1,x6.2.1,x7.1,x6.o.1,()) fun x8=>
 A.ret _ (x6.1,x6.2.2.1,x6.2.2.2.1,x6.q.2.1,x7.1,x8.1,()))<|
 A.ret _ (x6.1,x6.2.2.1,x6.2.2.2.1,x6.q.2.1,x7.1,x6.o.1,())) fun x8=>
 A.bind [.i,.i,.i,.l .mono] (A.cond (A.au (A.cmp .lss x8.1 x8.2.2.2.1) (A.cmp .lss x8.2.2.2.1 x8.2.2.1) (A.bl false)) (A.cl I7 I8 (x8.1,x8.2.2.2.1,x8.2.2.1,x8.q.2.1,()) fun x9=>
 A.ret _ (x8.2.1,x8.2.2.1,x8.q.1,x9.1,()))<|
 A.ret _ (x8.2.1,x8.2.2.1,x8.q.1,x8.q.2.1,())) fun x9=>
 A.bind [.l .mono] (A.cond (A.au (A.cmp .lss x9.2.1 x9.2.2.1) (A.cmp .lss x9.2.2.1 x9.1) (A.bl false)) (A.cl I7 I8 (x9.2.1,x9.2.2.1,x9.1,x9.2.2.2.1,()) fun x10=>
 A.ret _ (x10.1,()))<|
 A.ret _ (x9.2.2.2.1,())) fun x10=>
 A.ret _ (x10.1,())) (x4.1,x4.2.1,x4.2.2.1,x4.2.2.2.1,x4.q.1,x4.q.2.1,x4.q.2.2.1,x5.1,x4.q.2.2.2.1,())
def I9 (A:Alg) (ZL:Pt A CP) (ZM:Ft A CP) (I7:Pt A nZ) (I8:Ft A nZ) (x:Tup A.ah [.i,.l .mono]):Ot A CU:=
 A.l1 .i (A.lit 20) fun x0=>
 A.l1 .i (A.lit 0) fun x1=>
 A.l1 .i x0.1 fun x2=>
 A.iter [.i,.i,.i,.i,.l .mono] (fun x3=>
 A.cond (A.cmp .leq x3.2.2.2.1 x3.1) (A.cl ZL ZM (x3.2.2.1,x3.2.2.2.1,x3.q.1,()) fun x4=>
 A.l1 .i x3.2.2.2.1 fun x5=>
 A.l1 .i (A.arith .add .i64 x3.2.2.2.1 x3.2.1) fun x6=>
 A.inl _ (x3.1,x3.2.1,x5.1,x6.1,x4.1,()))<|
 A.inr _<|A.cl ZL ZM (x3.2.2.1,x3.1,x3.q.1,()) fun x4=>
 A.iter [.i,.i,.l .mono] (fun x5=>
 A.cond (A.cmp .lss x5.2.1 x5.1) (A.l1 .i (A.lit 0) fun x6=>
 A.l1 .i (A.arith .mul .i64 (A.lit 2) x5.2.1) fun x7=>
 A.iter [.i,.i,.i,.i,.l .mono] (fun x8=>
 A.cond (A.cmp .leq x8.2.2.2.1 x8.1) (A.cl I7 I8 (x8.2.2.1,A.arith .add .i64 x8.2.2.1 x8.2.1,x8.2.2.2.1,x8.q.1,()) fun x9=>
 A.l1 .i x8.2.2.2.1 fun x10=>
 A.l1 .i (A.arith .add .i64 x8.2.2.2.1 (A.arith .mul .i64 (A.lit 2) x8.2.1)) fun x11=>
 A.inl _ (x8.1,x8.2.1,x10.1,x11.1,x9.1,()))<|
 A.inr _<|A.l1 .i (A.arith .add .i64 x8.2.2.1 x8.2.1) fun x9=>
 A.bind [.i,.i,.l .mono] (A.cond (A.cmp .lss x9.1 x8.1) (A.cl I7 I8 (x8.2.2.1,x9.1,x8.1,x8.q.1,()) fun x10=>
 A.ret _ (x8.1,x8.2.1,x10.1,()))<|
 A.ret _ (x8.1,x8.2.1,x8.q.1,())) fun x10=>
 A.l1 .i (A.arith .mul .i64 x10.2.1 (A.lit 2)) fun x11=>
 A.inl _ (x10.1,x11.1,x10.2.2.1,())) (x5.1,x5.2.1,x6.1,x7.1,x5.2.2.1,()))<|
 A.inr _<|A.ret _ (x5.2.2.1,())) (x3.1,x3.2.1,x4.1,())) (x.1,x0.1,x1.1,x2.1,x.2.1,())
def Ja (A:Alg) (ajR:Pt A CU) (ajS:Ft A CU) (x:Tup A.ah [.l .mono]):Ot A CV:=
 A.cl ajR ajS (A.len .mono x.1,x.1,()) fun x0=>
 A.ret _ (x0.1,())
def QS (A:Alg) (IQ:Pt A nY) (IU:Ft A nY) (mM:Pt A jk) (mO:Ft A jk) (IX:Pt A vN) (IY:Ft A vN) (Zt:Pt A Aj) (Zu:Ft A Aj) (ajT:Pt A CV) (ajU:Ft A CV) (x:Tup A.ah [.l .mono]):Ot A Az:=
 A.l1 .b (A.bl false) fun x0=>
 A.cl ajT ajU (x.1,()) fun x1=>
 A.l1 .i (A.lit 0) fun x2=>
 A.iter [.i,.l .mono,.l .mono] (fun x3=>
 A.cond (A.cmp .lss x3.1 (A.len .mono x3.2.1)) (A.bd .mono x3.2.1 x3.1<|
 A.bd .mono x3.2.1 x3.1<|
 A.l1 .i (A.lit 0) fun x4=>
 A.l1 (.x .mono) (A.get .mono x3.2.1 x3.1) fun x5=>
 A.iter [.i,.i,.l .mono,.x .mono,.l .mono] (fun x6=>
 A.chk (A.orB (A.aA (A.cmp .lss x6.1 (A.len .mono x6.2.2.1))) (A.cmp .leq (A.lit 0) x6.1))<|
 A.chk (A.orB (A.aA (A.cmp .lss x6.1 (A.len .mono x6.2.2.1))) (A.cmp .lss x6.1 (A.len .mono x6.2.2.1)))<|
 A.chk (A.orB (A.aA (A.cmp .lss x6.1 (A.len .mono x6.2.2.1))) (A.cmp .leq (A.lit 0) x6.1))<|
 A.chk (A.orB (A.aA (A.cmp .lss x6.1 (A.len .mono x6.2.2.1))) (A.cmp .lss x6.1 (A.len .mono x6.2.2.1)))<|
 A.cg (A.cmp .lss x6.1 (A.len .mono x6.2.2.1)) IQ IU (A.fL .mono 1 .i64 x6.2.2.2.1,A.fL .mono 1 .i64 (A.get .mono x6.2.2.1 x6.1),()) fun x7=>
 A.cond (A.au (A.cmp .lss x6.1 (A.len .mono x6.2.2.1)) (A.cmp .eql x7.1 (A.lit 0)) (A.bl false)) (A.bd .mono x6.2.2.1 x6.1<|
 A.bd .mono x6.2.2.1 x6.1<|
 A.cl IX IY (A.arith .add .i64 x6.2.1 (A.fI .mono 0 (A.get .mono x6.2.2.1 x6.1)),()) fun x8=>
 A.l1 .i x8.1 fun x9=>
 A.l1 .i (A.arith .add .i64 x6.1 (A.lit 1)) fun x10=>
 A.inl _ (x10.1,x9.1,x6.2.2.1,x6.2.2.2.1,x6.q.1,()))<|
 A.inr _<|A.bind [.i,.l .mono,.l .mono] (A.cond (A.cmp .gtr x6.2.1 (A.lit 0)) (A.cl Zt Zu (A.fL .mono 1 .i64 x6.2.2.2.1,()) fun x8=>
 A.l1 (.l .mono) (A.lst .mono [A.mkX .mono (x6.2.1,x8.1,())]) fun x9=>
 A.chk (A.cmp .leq (A.addN (A.len .mono x6.q.1) (A.len .mono x9.1)) (A.lit 1073741824))<|
 A.l1 (.l .mono) (A.app .mono x6.q.1 x9.1) fun x10=>
 A.ret _ (x6.1,x6.2.2.1,x10.1,()))<|
 A.ret _ (x6.1,x6.2.2.1,x6.q.1,())) fun x8=>
 A.inl _ (x8.1,x8.2.1,x8.2.2.1,())) (x3.1,x4.1,x3.2.1,x5.1,x3.2.2.1,()))<|
 A.inr _<|A.cl mM mO (A.mkX .poly (x3.2.2.1,()),()) fun x4=>
 A.cond (A.aA x4.1) (A.l1 .b (A.bl false) fun x5=>
 A.ret _ (x5.1,x3.2.1,A.bC .mono,()))<|
 A.l1 .b (A.bl true) fun x5=>
 A.ret _ (x5.1,x3.2.1,x3.2.2.1,())) (x2.1,x1.1,A.bC .mono,())
def Jb (A:Alg) (x:Tup A.ah [.i]):Ot A CW:=
 A.cond (A.cmp .lss x.1 (A.lit 0)) (A.fail)<|
 A.l1 .i (A.arith .sub .i64 x.1 (A.arith .sub .i64 (A.lit 0) (A.lit 0))) fun x0=>
 A.bind [.l .mono] (A.cond (A.cmp .gtr x0.1 (A.lit 0)) (A.chk (A.cmp .eql (A.lit 0) (A.lit 0))<|
 A.chk (A.cmp .eql (A.lit 0) (A.lit 0))<|
 A.chk (A.cmp .leq (A.lit 0) x0.1)<|
 A.chk (A.cmp .leq x0.1 (A.lit 1073741824))<|
 A.chk (A.cmp .leq (A.len .mono (A.rep .mono x0.1 (A.mkX .mono (A.lit 0,A.bC .i64,())))) (A.lit 1073741824))<|
 A.l1 (.l .mono) (A.rep .mono x0.1 (A.mkX .mono (A.lit 0,A.bC .i64,()))) fun x1=>
 A.chk (A.cmp .leq (A.lit 0) (A.lit 0))<|
 A.chk (A.cmp .leq (A.lit 0) (A.lit 0))<|
 A.chk (A.cmp .leq (A.lit 0) (A.len .mono x1.1))<|
 A.chk (A.cmp .eql (A.lit 0) (A.lit 0))<|
 A.chk (A.cmp .leq (A.lit 0) (A.Ei (A.lit 0) (A.lit 0)))<|
 A.chk (A.cmp .leq (A.Ei (A.lit 0) (A.lit 0)) (A.len .mono x1.1))<|
 A.ret _ (A.sub .mono x1.1 (A.lit 0) (A.Ei (A.lit 0) (A.lit 0)),()))<|
 A.ret _ (A.bC .mono,())) fun x1=>
 A.ret _ (x1.1,())
def QT (A:Alg) (ajV:Pt A CW) (ajW:Ft A CW) (x:Tup A.ah [.l .poly]):Ot A KF:=
 A.l1 .i (A.lit 0) fun x0=>
 A.iter [.l .poly,.i,.l .poly,.i,.i] (fun x1=>
 A.cond (A.cmp .lss x1.q.1 x1.2.2.2.1) (A.bd .poly x1.2.2.1 x1.q.1<|
 A.l1 (.l .mono) (A.fL .poly 0 .mono (A.get .poly x1.2.2.1 x1.q.1)) fun x2=>
 A.l1 .i (A.arith .add .i64 x1.2.1 (A.len .mono x2.1)) fun x3=>
 A.cond (A.cmp .lss x3.1 (A.lit 0)) (A.fail)<|
 A.inl _ (x1.1,x3.1,x1.2.2.1,x1.2.2.2.1,A.arith .add .i64 x1.q.1 (A.lit 1),()))<|
 A.inr _<|A.cl ajV ajW (x1.2.1,()) fun x2=>
 A.iter [.l .poly,.i,.i,.l .mono] (fun x3=>
 A.cond (A.cmp .lss x3.2.2.1 x3.2.1) (A.bd .poly x3.1 x3.2.2.1<|
 A.l1 (.l .mono) (A.fL .poly 0 .mono (A.get .poly x3.1 x3.2.2.1)) fun x4=>
 A.chk (A.cmp .leq (A.addN (A.len .mono x3.2.2.2.1) (A.len .mono x4.1)) (A.lit 1073741824))<|
 A.l1 (.l .mono) (A.app .mono x3.2.2.2.1 x4.1) fun x5=>
 A.inl _ (x3.1,x3.2.1,A.arith .add .i64 x3.2.2.1 (A.lit 1),x5.1,()))<|
 A.inr _<|A.ret _ (x3.2.2.2.1,())) (x1.1,A.len .poly x1.1,A.lit 0,x2.1,())) (x.1,x0.1,x.1,A.len .poly x.1,A.lit 0,())
def QU (A:Alg) (mM:Pt A jk) (mO:Ft A jk) (ZN:Pt A Az) (ZO:Ft A Az) (an8:Pt A KF) (an9:Ft A KF) (x:Tup A.ah [.x .poly,.x .poly]):Ot A KG:=
 A.l1 .b (A.bl false) fun x0=>
 A.cl mM mO (x.1,()) fun x1=>
 A.cg (A.aA (A.aA x1.1)) mM mO (x.2.1,()) fun x2=>
 A.cond (A.au (A.aA x1.1) (A.bl true) (A.aA x2.1)) (A.l1 .b (A.bl false) fun x3=>
 A.ret _ (x3.1,A.bC .mono,()))<|
 A.l1 (.l .poly) (A.lst .poly [A.mkX .poly (A.fL .poly 0 .mono x.1,()),A.mkX .poly (A.fL .poly 0 .mono x.2.1,())]) fun x3=>
 A.cl an8 an9 (x3.1,()) fun x4=>
 A.cl ZN ZO (x4.1,()) fun x5=>
 A.l1 .b x5.1 fun x6=>
 A.ret _ (x6.1,x5.2.2.1,())
def Jc (A:Alg) (x:Tup A.ah [.i]):Ot A CX:=
 A.cond (A.cmp .lss x.1 (A.lit 0)) (A.fail)<|
 A.l1 .i (A.arith .sub .i64 x.1 (A.arith .sub .i64 (A.lit 0) (A.lit 0))) fun x0=>
 A.bind [.l .i64] (A.cond (A.cmp .gtr x0.1 (A.lit 0)) (A.chk (A.cmp .eql (A.lit 0) (A.lit 0))<|
 A.chk (A.cmp .eql (A.lit 0) (A.lit 0))<|
 A.chk (A.cmp .leq (A.lit 0) x0.1)<|
 A.chk (A.cmp .leq x0.1 (A.lit 1073741824))<|
 A.chk (A.cmp .leq (A.len .i64 (A.rep .i64 x0.1 (A.mkX .i64 (A.lit 0,())))) (A.lit 1073741824))<|
 A.l1 (.l .i64) (A.rep .i64 x0.1 (A.mkX .i64 (A.lit 0,()))) fun x1=>
 A.chk (A.cmp .leq (A.lit 0) (A.lit 0))<|
 A.chk (A.cmp .leq (A.lit 0) (A.lit 0))<|
 A.chk (A.cmp .leq (A.lit 0) (A.len .i64 x1.1))<|
 A.chk (A.cmp .eql (A.lit 0) (A.lit 0))<|
 A.chk (A.cmp .leq (A.lit 0) (A.Ei (A.lit 0) (A.lit 0)))<|
 A.chk (A.cmp .leq (A.Ei (A.lit 0) (A.lit 0)) (A.len .i64 x1.1))<|
 A.ret _ (A.sub .i64 x1.1 (A.lit 0) (A.Ei (A.lit 0) (A.lit 0)),()))<|
 A.ret _ (A.bC .i64,())) fun x1=>
 A.ret _ (x1.1,())
def QV (A:Alg) (ajX:Pt A CX) (ajY:Ft A CX) (x:Tup A.ah [.l .ints]):Ot A KH:=
 A.l1 .i (A.lit 0) fun x0=>
 A.iter [.l .ints,.i,.l .ints,.i,.i] (fun x1=>
 A.cond (A.cmp .lss x1.q.1 x1.2.2.2.1) (A.bd .ints x1.2.2.1 x1.q.1<|
 A.l1 (.l .i64) (A.fL .ints 0 .i64 (A.get .ints x1.2.2.1 x1.q.1)) fun x2=>
 A.l1 .i (A.arith .add .i64 x1.2.1 (A.len .i64 x2.1)) fun x3=>
 A.cond (A.cmp .lss x3.1 (A.lit 0)) (A.fail)<|
 A.inl _ (x1.1,x3.1,x1.2.2.1,x1.2.2.2.1,A.arith .add .i64 x1.q.1 (A.lit 1),()))<|
 A.inr _<|A.cl ajX ajY (x1.2.1,()) fun x2=>
 A.iter [.l .ints,.i,.i,.l .i64] (fun x3=>
 A.cond (A.cmp .lss x3.2.2.1 x3.2.1) (A.bd .ints x3.1 x3.2.2.1<|
 A.l1 (.l .i64) (A.fL .ints 0 .i64 (A.get .ints x3.1 x3.2.2.1)) fun x4=>
 A.chk (A.cmp .leq (A.addN (A.len .i64 x3.2.2.2.1) (A.len .i64 x4.1)) (A.lit 1073741824))<|
 A.l1 (.l .i64) (A.app .i64 x3.2.2.2.1 x4.1) fun x5=>
 A.inl _ (x3.1,x3.2.1,A.arith .add .i64 x3.2.2.1 (A.lit 1),x5.1,()))<|
 A.inr _<|A.ret _ (x3.2.2.2.1,())) (x1.1,A.len .ints x1.1,A.lit 0,x2.1,())) (x.1,x0.1,x.1,A.len .ints x.1,A.lit 0,())
def Jd (A:Alg) (Zq:Pt A En) (Zr:Ft A En) (x:Tup A.ah [.i,.i,.l .i64]):Ot A CY:=
 A.l1 .i (A.arith .add .i64 x.1 (A.lit 1)) fun x0=>
 A.iter [.i,.i,.i,.l .i64] (fun x1=>
 A.cond (A.cmp .lss x1.2.2.1 x1.2.1) (A.l1 .i x1.2.2.1 fun x2=>
 A.iter [.i,.i,.i,.i,.l .i64] (fun x3=>
 A.chk (A.orB (A.aA (A.cmp .gtr x3.2.2.2.1 x3.1)) (A.cmp .leq (A.lit 0) x3.2.2.2.1))<|
 A.chk (A.orB (A.aA (A.cmp .gtr x3.2.2.2.1 x3.1)) (A.cmp .lss x3.2.2.2.1 (A.len .i64 x3.q.1)))<|
 A.chk (A.orB (A.aA (A.cmp .gtr x3.2.2.2.1 x3.1)) (A.cmp .leq (A.lit 0) x3.2.2.2.1))<|
 A.chk (A.orB (A.aA (A.cmp .gtr x3.2.2.2.1 x3.1)) (A.cmp .lss x3.2.2.2.1 (A.len .i64 x3.q.1)))<|
 A.chk (A.orB (A.aA (A.cmp .gtr x3.2.2.2.1 x3.1)) (A.cmp .leq (A.lit 0) (A.arith .sub .i64 x3.2.2.2.1 (A.lit 1))))<|
 A.chk (A.orB (A.aA (A.cmp .gtr x3.2.2.2.1 x3.1)) (A.cmp .lss (A.arith .sub .i64 x3.2.2.2.1 (A.lit 1)) (A.len .i64 x3.q.1)))<|
 A.chk (A.orB (A.aA (A.cmp .gtr x3.2.2.2.1 x3.1)) (A.cmp .leq (A.lit 0) (A.arith .sub .i64 x3.2.2.2.1 (A.lit 1))))<|
 A.chk (A.orB (A.aA (A.cmp .gtr x3.2.2.2.1 x3.1)) (A.cmp .lss (A.arith .sub .i64 x3.2.2.2.1 (A.lit 1)) (A.len .i64 x3.q.1)))<|
 A.cg (A.cmp .gtr x3.2.2.2.1 x3.1) Zq Zr (A.fI .i64 0 (A.get .i64 x3.q.1 x3.2.2.2.1),A.fI .i64 0 (A.get .i64 x3.q.1 (A.arith .sub .i64 x3.2.2.2.1 (A.lit 1))),()) fun x4=>
 A.cond (A.au (A.cmp .gtr x3.2.2.2.1 x3.1) x4.1 (A.bl false)) (A.bd .i64 x3.q.1 (A.arith .sub .i64 x3.2.2.2.1 (A.lit 1))<|
 A.bd .i64 x3.q.1 (A.arith .sub .i64 x3.2.2.2.1 (A.lit 1))<|
 A.bd .i64 x3.q.1 x3.2.2.2.1<|
 A.bd .i64 x3.q.1 x3.2.2.2.1<|
 A.bd .i64 x3.q.1 x3.2.2.2.1<|
 A.bd .i64 x3.q.1 x3.2.2.2.1<|
 A.l1 .i (A.fI .i64 0 (A.get .i64 x3.q.1 (A.arith .sub .i64 x3.2.2.2.1 (A.lit 1)))) fun x5=>
 A.bd .i64 (A.set .i64 x3.q.1 x3.2.2.2.1 (A.mkX .i64 (x5.1,()))) (A.arith .sub .i64 x3.2.2.2.1 (A.lit 1))<|
 A.bd .i64 (A.set .i64 x3.q.1 x3.2.2.2.1 (A.mkX .i64 (x5.1,()))) (A.arith .sub .i64 x3.2.2.2.1 (A.lit 1))<|
 A.l1 .i (A.fI .i64 0 (A.get .i64 x3.q.1 x3.2.2.2.1)) fun x6=>
 A.l1 .i (A.arith .sub .i64 x3.2.2.2.1 (A.lit 1)) fun x7=>
 A.inl _ (x3.1,x3.2.1,x3.2.2.1,x7.1,A.set .i64 (A.set .i64 x3.q.1 x3.2.2.2.1 (A.mkX .i64 (x5.1,()))) (A.arith .sub .i64 x3.2.2.2.1 (A.lit 1)) (A.mkX .i64 (x6.1,())),()))<|
 A.inr _<|A.l1 .i (A.arith .add .i64 x3.2.2.1 (A.lit 1)) fun x5=>
 A.inl _ (x3.1,x3.2.1,x5.1,x3.q.1,())) (x1.1,x1.2.1,x1.2.2.1,x2.1,x1.2.2.2.1,()))<|
 A.inr _<|A.ret _ (x1.2.2.2.1,())) (x.1,x.2.1,x0.1,x.2.2.1,())
def Je (A:Alg) (Zq:Pt A En) (Zr:Ft A En) (ajZ:Pt A CY) (aj0:Ft A CY) (aj1:Pt A F3) (aj2:Ft A F3) (aj3:Pt A F4) (aj4:Ft A F4) (aj5:Pt A F5) (aj6:Ft A F5) (aj7:Pt A F6) (aj8:Ft A F6) (aj9:Pt A F7) (akb:Ft A F7) (akc:Pt A F8) (akd:Ft A F8) (ake:Pt A F9) (akf:Ft A F9) (Mx:Pt A og) (MB:Ft A og) (x:Tup A.ah [.i,.i,.i,.l .i64]):Ot A og:=
 A.l1 .b (A.bl true) fun x0=>
 A.l1 .b (A.bl true) fun x1=>
 A.iter [.i,.i,.i,.b,.b,.l .i64] (fun x2=>
 A.lS [.i,.i,.i,.b,.b,.l .i64] (A.l1 .i (A.arith .sub .i64 x2.2.1 x2.1) fun x3=>
 A.cond (A.cmp .leq x3.1 (A.lit 12)) (A.cl ajZ aj0 (x2.1,x2.2.1,x2.q.2.1,()) fun x4=>
 A.inr _<|A.inr _<|A.ret _ (x4.1,()))<|
 A.cond (A.cmp .eql x2.2.2.1 (A.lit 0)) (A.cl aj1 aj2 (x2.1,x2.2.1,x2.q.2.1,()) fun x4=>
 A.inr _<|A.inr _<|A.ret _ (x4.1,()))<|
 A.bind [.i,.i,.i,.b,.b,.i,.l .i64] (A.cond (A.aA x2.2.2.2.1) (A.cl aj3 aj4 (x2.1,x2.2.1,x2.q.2.1,()) fun x4=>
 A.l1 .i (A.arith .sub .i64 x2.2.2.1 (A.lit 1)) fun x5=>
 A.ret _ (x2.1,x2.2.1,x5.1,x2.2.2.2.1,x2.q.1,x3.1,x4.1,()))<|
 A.ret _ (x2.1,x2.2.1,x2.2.2.1,x2.2.2.2.1,x2.q.1,x3.1,x2.q.2.1,())) fun x4=>
 A.cl aj5 aj6 (x4.1,x4.2.1,x4.q.2.2.1,()) fun x5=>
 A.l1 .i x5.1 fun x6=>
 A.l1 .i x5.2.1 fun x7=>
 A.bind [.i,.i,.i,.b,.b,.i,.i,.i,.l .i64] (A.cond (A.cmp .eql x7.1 (A.lit 2)) (A.cl aj7 aj8 (x4.1,x4.2.1,x5.2.2.1,()) fun x8=>
 A.l1 .i (A.arith .sub .i64 (A.arith .sub .i64 x4.2.1 (A.lit 1)) (A.arith .sub .i64 x6.1 x4.1)) fun x9=>
 A.l1 .i (A.lit 1) fun x10=>
 A.ret _ (x4.1,x4.2.1,x4.2.2.1,x4.2.2.2.1,x4.q.1,x4.q.2.1,x9.1,x10.1,x8.1,()))<|
 A.ret _ (x4.1,x4.2.1,x4.2.2.1,x4.2.2.2.1,x4.q.1,x4.q.2.1,x6.1,x7.1,x5.2.2.1,())) fun x8=>
 A.lS [.i,.i,.i,.b,.b,.i,.i,.l .i64] (A.cond (A.au (A.au x8.2.2.2.1 x8.q.1 (A.bl false)) (A.cmp .eql x8.q.2.2.2.1 (A.lit 1)) (A.bl false)) (A.cl aj9 akb (x8.1,x8.2.1,x8.o.1,()) fun x9=>
 A.cond x9.1 (A.inr _<|A.inr _<|A.inr _<|A.ret _ (x9.2.1,()))<|
 A.inl _ (x8.1,x8.2.1,x8.2.2.1,x8.2.2.2.1,x8.q.1,x8.q.2.1,x8.q.2.2.1,x9.2.1,()))<|
 A.inl _ (x8.1,x8.2.1,x8.2.2.1,x8.2.2.2.1,x8.q.1,x8.q.2.1,x8.q.2.2.1,x8.o.1,())) fun x9=>
 A.chk (A.orB (A.aA (A.cmp .gtr x9.1 (A.lit 0))) (A.cmp .leq (A.lit 0) (A.arith .sub .i64 x9.1 (A.lit 1))))<|
 A.chk (A.orB (A.aA (A.cmp .gtr x9.1 (A.lit 0))) (A.cmp .lss (A.arith .sub .i64 x9.1 (A.lit 1)) (A.len .i64 x9.q.2.2.2.1)))<|
 A.chk (A.orB (A.aA (A.cmp .gtr x9.1 (A.lit 0))) (A.cmp .leq (A.lit 0) (A.arith .sub .i64 x9.1 (A.lit 1))))<|
 A.chk (A.orB (A.aA (A.cmp .gtr x9.1 (A.lit 0))) (A.cmp .lss (A.arith .sub .i64 x9.1 (A.lit 1)) (A.len .i64 x9.q.2.2.2.1)))<|
 A.chk (A.orB (A.aA (A.cmp .gtr x9.1 (A.lit 0))) (A.cmp .leq (A.lit 0) x9.q.2.2.1))<|
 A.chk (A.orB (A.aA (A.cmp .gtr x9.1 (A.lit 0))) (A.cmp .lss x9.q.2.2.1 (A.len .i64 x9.q.2.2.2.1)))<|
 A.chk (A.orB (A.aA (A.cmp .gtr x9.1 (A.lit 0))) (A.cmp .leq (A.lit 0) x9.q.2.2.1))<|
 A.chk (A.orB (A.aA (A.cmp .gtr x9.1 (A.lit 0))) (A.cmp .lss x9.q.2.2.1 (A.len .i64 x9.q.2.2.2.1)))<|
 A.cg (A.cmp .gtr x9.1 (A.lit 0)) Zq Zr (A.fI .i64 0 (A.get .i64 x9.q.2.2.2.1 (A.arith .sub .i64 x9.1 (A.lit 1))),A.fI .i64 0 (A.get .i64 x9.q.2.2.2.1 x9.q.2.2.1),()) fun x10=>
 A.cond (A.au (A.cmp .gtr x9.1 (A.lit 0)) (A.aA x10.1) (A.bl false)) (A.cl akc akd (x9.1,x9.2.1,x9.q.2.2.1,x9.q.2.2.2.1,()) fun x11=>
 A.l1 .i x11.1 fun x12=>
 A.l1 .i x12.1 fun x13=>
 A.inl _ (x13.1,x9.2.1,x9.2.2.1,x9.2.2.2.1,x9.q.1,x11.2.1,()))<|
 A.cl ake akf (x9.1,x9.2.1,x9.q.2.2.1,x9.q.2.2.2.1,()) fun x11=>
 A.l1 .i x11.1 fun x12=>
 A.l1 .b x11.2.1 fun x13=>
 A.l1 .b x13.1 fun x14=>
 A.l1 .i (A.arith .sub .i64 x12.1 x9.1) fun x15=>
 A.l1 .i (A.arith .sub .i64 x9.2.1 x12.1) fun x16=>
 A.chk (A.cmp .neq (A.lit 8) (A.lit 0))<|
 A.l1 .i (A.arith .quo .i64 x9.q.2.1 (A.lit 8)) fun x17=>
 A.bind [.i,.i,.i,.b,.b,.l .i64] (A.cond (A.cmp .lss x15.1 x16.1) (A.l1 .b (A.cmp .geq x15.1 x17.1) fun x18=>
 A.cl Mx MB (x9.1,x12.1,x9.2.2.1,x11.2.2.1,()) fun x19=>
 A.l1 .i (A.arith .add .i64 x12.1 (A.lit 1)) fun x20=>
 A.ret _ (x20.1,x9.2.1,x9.2.2.1,x18.1,x14.1,x19.1,()))<|
 A.l1 .b (A.cmp .geq x16.1 x17.1) fun x18=>
 A.cl Mx MB (A.arith .add .i64 x12.1 (A.lit 1),x9.2.1,x9.2.2.1,x11.2.2.1,()) fun x19=>
 A.l1 .i x12.1 fun x20=>
 A.ret _ (x9.1,x20.1,x9.2.2.1,x18.1,x14.1,x19.1,())) fun x18=>
 A.inl _ (x18.1,x18.2.1,x18.2.2.1,x18.2.2.2.1,x18.q.1,x18.q.2.1,())) fun x3=>
 A.inl _ (x3.1,x3.2.1,x3.2.2.1,x3.2.2.2.1,x3.q.1,x3.q.2.1,())) (x.1,x.2.1,x.2.2.1,x0.1,x1.1,x.2.2.2.1,())
def Jf (A:Alg) (Mx:Pt A og) (MB:Ft A og) (aoa:Pt A VP) (aob:Ft A VP) (x:Tup A.ah [.l .i64]):Ot A CZ:=
 A.l1 .i (A.len .i64 x.1) fun x0=>
 A.cl aoa aob (A.conv .u64 x0.1,()) fun x1=>
 A.cl Mx MB (A.lit 0,x0.1,x1.1,x.1,()) fun x2=>
 A.ret _ (x2.1,())
def QW (A:Alg) (mM:Pt A jk) (mO:Ft A jk) (IX:Pt A vN) (IY:Ft A vN) (ZN:Pt A Az) (ZO:Ft A Az) (aoc:Pt A KH) (aod:Ft A KH) (akg:Pt A CZ) (akh:Ft A CZ) (x:Tup A.ah [.x .poly,.x .poly]):Ot A AA:=
 A.l1 .b (A.bl false) fun x0=>
 A.cl mM mO (x.1,()) fun x1=>
 A.cg (A.aA (A.aA x1.1)) mM mO (x.2.1,()) fun x2=>
 A.cond (A.au (A.aA x1.1) (A.bl true) (A.aA x2.1)) (A.l1 .b (A.bl false) fun x3=>
 A.ret _ (x3.1,A.bC .mono,()))<|
 A.iter [.l .mono,.i,.i,.x .poly,.l .mono] (fun x3=>
 A.cond (A.cmp .lss x3.2.2.1 x3.2.1) (A.bd .mono x3.1 x3.2.2.1<|
 A.l1 (.x .mono) (A.get .mono x3.1 x3.2.2.1) fun x4=>
 A.iter [.l .mono,.i,.i,.l .mono,.i,.i,.x .poly,.l .mono,.x .mono] (fun x5=>
 A.cond (A.cmp .lss x5.q.2.1 x5.q.1) (A.bd .mono x5.2.2.2.1 x5.q.2.1<|
 A.l1 (.x .mono) (A.get .mono x5.2.2.2.1 x5.q.2.1) fun x6=>
 A.l1 (.l .ints) (A.lst .ints [A.mkX .ints (A.fL .mono 1 .i64 x5.o.1,()),A.mkX .ints (A.fL .mono 1 .i64 x6.1,())]) fun x7=>
 A.cl aoc aod (x7.1,()) fun x8=>
 A.cl akg akh (x8.1,()) fun x9=>
 A.cl IX IY (A.arith .mul .i64 (A.fI .mono 0 x5.o.1) (A.fI .mono 0 x6.1),()) fun x10=>
 A.l1 (.l .mono) (A.lst .mono [A.mkX .mono (x10.1,x9.1,())]) fun x11=>
 A.chk (A.cmp .leq (A.addN (A.len .mono x5.q.2.2.2.1) (A.len .mono x11.1)) (A.lit 1073741824))<|
 A.l1 (.l .mono) (A.app .mono x5.q.2.2.2.1 x11.1) fun x12=>
 A.inl _ (x5.1,x5.2.1,x5.2.2.1,x5.2.2.2.1,x5.q.1,A.arith .add .i64 x5.q.2.1 (A.lit 1),x5.q.2.2.1,x12.1,x5.o.1,()))<|
 A.inr _<|A.inl _ (x5.1,x5.2.1,A.arith .add .i64 x5.2.2.1 (A.lit 1),x5.q.2.2.1,x5.q.2.2.2.1,())) (x3.1,x3.2.1,x3.2.2.1,A.fL .poly 0 .mono x3.2.2.2.1,A.len .mono (A.fL .poly 0 .mono x3.2.2.2.1),A.lit 0,x3.2.2.2.1,x3.q.1,x4.1,()))<|
 A.inr _<|A.cl ZN ZO (x3.q.1,()) fun x4=>
 A.l1 .b x4.1 fun x5=>
 A.ret _ (x5.1,x4.2.2.1,())) (A.fL .poly 0 .mono x.1,A.len .mono (A.fL .poly 0 .mono x.1),A.lit 0,x.2.1,A.bC .mono,())
def QX (A:Alg) (mM:Pt A jk) (mO:Ft A jk) (QY:Pt A vM) (QZ:Ft A vM) (sS:Pt A jI) (sU:Ft A jI) (ZP:Pt A AA) (ZQ:Ft A AA) (x:Tup A.ah [.x .poly,.i]):Ot A KI:=
 A.cl mM mO (x.1,()) fun x0=>
 A.cg (A.aA (A.aA x0.1)) sS sU (x.2.1,()) fun x1=>
 A.cond (A.au (A.aA x0.1) (A.bl true) (A.aA x1.1)) (A.ret _ (A.bC .mono,()))<|
 A.cl QY QZ (x.2.1,()) fun x2=>
 A.cl ZP ZQ (x.1,A.mkX .poly (x2.1,()),()) fun x3=>
 A.l1 .b x3.1 fun x4=>
 A.ret _ (x3.2.1,())
def Q0 (A:Alg) (D8:Pt A vK) (D9:Ft A vK) (QY:Pt A vM) (QZ:Ft A vM) (aoe:Pt A KE) (aof:Ft A KE) (afV:Pt A KG) (afW:Ft A KG) (ZP:Pt A AA) (ZQ:Ft A AA) (aog:Pt A KI) (aoh:Ft A KI) (Qf:Pt A Ai) (Qg:Ft A Ai) (x:Tup A.ah [.i,.x .poly,.x .poly]):Ot A KJ:=
 A.l1 .b (A.bl false) fun x0=>
 A.l1 .b (A.cmp .eql x.1 (A.lit 1)) fun x1=>
 A.cond x1.1 (A.cl afV afW (x.2.1,x.2.2.1,()) fun x2=>
 A.l1 .b x2.1 fun x3=>
 A.ret _ (A.mkX .poly (x2.2.1,()),x3.1,()))<|
 A.l1 .b (A.cmp .eql x.1 (A.lit 2)) fun x2=>
 A.cond x2.1 (A.cl aog aoh (x.2.2.1,A.lit 65535,()) fun x3=>
 A.cl afV afW (x.2.1,A.mkX .poly (x3.1,()),()) fun x4=>
 A.l1 .b x4.1 fun x5=>
 A.ret _ (A.mkX .poly (x4.2.1,()),x5.1,()))<|
 A.l1 .b (A.cmp .eql x.1 (A.lit 3)) fun x3=>
 A.cond x3.1 (A.cl ZP ZQ (x.2.1,x.2.2.1,()) fun x4=>
 A.l1 .b x4.1 fun x5=>
 A.ret _ (A.mkX .poly (x4.2.1,()),x5.1,()))<|
 A.cl Qf Qg (x.2.1,()) fun x4=>
 A.l1 .i x4.1 fun x5=>
 A.l1 .b x4.2.1 fun x6=>
 A.cl Qf Qg (x.2.2.1,()) fun x7=>
 A.l1 .i x7.1 fun x8=>
 A.l1 .b x7.2.1 fun x9=>
 A.l1 .b (A.au x6.1 x9.1 (A.bl false)) fun x10=>
 A.cond x10.1 (A.cl aoe aof (x.1,x5.1,x8.1,()) fun x11=>
 A.cl QY QZ (x11.1,()) fun x12=>
 A.l1 .b (A.bl true) fun x13=>
 A.ret _ (A.mkX .poly (x12.1,()),x13.1,()))<|
 A.cl D8 D9 (x.2.1,x.2.2.1,()) fun x11=>
 A.l1 .b (A.au x11.1 (A.cmp .eql x.1 (A.lit 4)) (A.bl false)) fun x12=>
 A.cond x12.1 (A.l1 (.x .poly) x.2.1 fun x13=>
 A.l1 .b (A.bl true) fun x14=>
 A.ret _ (x13.1,x14.1,()))<|
 A.cl D8 D9 (x.2.1,x.2.2.1,()) fun x13=>
 A.l1 .b x13.1 fun x14=>
 A.cond x14.1 (A.l1 .b (A.bl true) fun x15=>
 A.ret _ (A.mkX .poly (A.bC .mono,()),x15.1,()))<|
 A.bind [.i,.i,.b,.x .poly] (A.cond x6.1 (A.l1 (.x .poly) x.2.2.1 fun x15=>
 A.l1 .i x5.1 fun x16=>
 A.l1 .b (A.bl true) fun x17=>
 A.ret _ (x.1,x16.1,x17.1,x15.1,()))<|
 A.ret _ (x.1,x8.1,x9.1,x.2.1,())) fun x15=>
 A.l1 .b (A.au (A.au x15.2.2.1 (A.cmp .eql x15.1 (A.lit 4)) (A.bl false)) (A.cmp .eql x15.2.1 (A.lit 0)) (A.bl false)) fun x16=>
 A.cond x16.1 (A.l1 .b (A.bl true) fun x17=>
 A.ret _ (A.mkX .poly (A.bC .mono,()),x17.1,()))<|
 A.l1 .b (A.au x15.2.2.1 (A.au (A.au (A.cmp .eql x15.1 (A.lit 4)) (A.cmp .eql x15.2.1 (A.lit 65535)) (A.bl false)) (A.bl true) (A.au (A.cmp .eql x15.1 (A.lit 5)) (A.cmp .eql x15.2.1 (A.lit 0)) (A.bl false))) (A.bl false)) fun x17=>
 A.cond x17.1 (A.l1 (.x .poly) x15.2.2.2.1 fun x18=>
 A.l1 .b (A.bl true) fun x19=>
 A.ret _ (x18.1,x19.1,()))<|
 A.l1 .b (A.bl false) fun x18=>
 A.ret _ (A.mkX .poly (A.bC .mono,()),x18.1,())
def Q5 (A:Alg) (Qa:Pt A vI) (Qb:Ft A vI) (aoi:Pt A KJ) (aoj:Ft A KJ) (ZJ:Pt A Au) (ZK:Ft A Au) (ZH:Pt A Av) (ZI:Ft A Av) (x:Tup A.ah [.x .tab,.i,.x .poly,.x .poly]):Ot A KL:=
 A.l1 .b (A.bl false) fun x0=>
 A.cl aoi aoj (x.2.1,x.2.2.1,x.2.2.2.1,()) fun x1=>
 A.l1 (.x .poly) x1.1 fun x2=>
 A.l1 .b x1.2.1 fun x3=>
 A.cond x3.1 (A.l1 (.x .tab) x.1 fun x4=>
 A.l1 (.x .poly) x2.1 fun x5=>
 A.l1 .b (A.bl true) fun x6=>
 A.ret _ (x4.1,x5.1,x6.1,()))<|
 A.cg (A.cmp .neq x.2.1 (A.lit 2)) Qa Qb (x.2.2.1,x.2.2.2.1,()) fun x4=>
 A.bind [.i,.x .tab,.x .poly,.x .poly] (A.cond (A.au (A.cmp .neq x.2.1 (A.lit 2)) (A.cmp .gtr x4.1 (A.lit 0)) (A.bl false)) (A.l1 (.x .poly) x.2.2.2.1 fun x5=>
 A.l1 (.x .poly) x.2.2.1 fun x6=>
 A.ret _ (x.2.1,x.1,x5.1,x6.1,()))<|
 A.ret _ (x.2.1,x.1,x.2.2.1,x.2.2.2.1,())) fun x5=>
 A.cl ZJ ZK (x5.2.1,A.mkX .atom (A.lit 4,x5.1,A.fL .poly 0 .mono x5.2.2.1,A.fL .poly 0 .mono x5.2.2.2.1,()),()) fun x6=>
 A.l1 (.x .tab) x6.1 fun x7=>
 A.l1 .i x6.2.1 fun x8=>
 A.cond (A.cmp .lss x8.1 (A.lit 0)) (A.l1 .b (A.bl false) fun x9=>
 A.ret _ (A.mkX .tab (A.bC .atom,()),A.mkX .poly (A.bC .mono,()),x9.1,()))<|
 A.cl ZH ZI (x8.1,()) fun x9=>
 A.l1 (.x .tab) x7.1 fun x10=>
 A.l1 .b (A.bl true) fun x11=>
 A.ret _ (x10.1,A.mkX .poly (x9.1,()),x11.1,())
def Q6 (A:Alg) (AB:Pt A vJ) (AJ:Ft A vJ) (x:Tup A.ah [.x .tab]):Ot A KM:=
 A.iter [.l .atom,.i,.i,.l .atom] (fun x0=>
 A.cond (A.cmp .lss x0.2.2.1 x0.2.1) (A.bd .atom x0.1 x0.2.2.1<|
 A.l1 (.x .atom) (A.get .atom x0.1 x0.2.2.1) fun x1=>
 A.cl AB AJ (A.mkX .poly (A.fL .atom 2 .mono x1.1,()),()) fun x2=>
 A.cl AB AJ (A.mkX .poly (A.fL .atom 3 .mono x1.1,()),()) fun x3=>
 A.l1 (.l .atom) (A.lst .atom [A.mkX .atom (A.fI .atom 0 x1.1,A.fI .atom 1 x1.1,x2.1,x3.1,())]) fun x4=>
 A.chk (A.cmp .leq (A.addN (A.len .atom x0.2.2.2.1) (A.len .atom x4.1)) (A.lit 1073741824))<|
 A.l1 (.l .atom) (A.app .atom x0.2.2.2.1 x4.1) fun x5=>
 A.inl _ (x0.1,x0.2.1,A.arith .add .i64 x0.2.2.1 (A.lit 1),x5.1,()))<|
 A.inr _<|A.ret _ (x0.2.2.2.1,())) (A.fL .tab 0 .atom x.1,A.len .atom (A.fL .tab 0 .atom x.1),A.lit 0,A.bC .atom,())
def Q7 (A:Alg) (ZF:Pt A Ar) (ZG:Ft A Ar) (aol:Pt A Ky) (aom:Ft A Ky) (aon:Pt A KC) (aoo:Ft A KC) (ZB:Pt A Ap) (ZE:Ft A Ap) (QY:Pt A vM) (QZ:Ft A vM) (aop:Pt A Kk) (aoq:Ft A Kk) (aor:Pt A Kt) (aos:Ft A Kt) (aot:Pt A KM) (aou:Ft A KM) (aov:Pt A KL) (aow:Ft A KL) (VW:Pt A Aw) (VX:Ft A Aw) (aox:Pt A KA) (aoy:Ft A KA) (aoz:Pt A KD) (aoA:Ft A KD) (x:Tup A.ah [.x .tab,.x .blk]):Ot A KN:=
 A.cl aor aos (x.1,()) fun x0=>
 A.cg (A.aA (A.au (A.aA x0.1) (A.bl true) (A.cmp .gtr (A.len .atom (A.fL .tab 0 .atom x.1)) (A.lit 100)))) aol aom (x.2.1,()) fun x1=>
 A.cond (A.au (A.au (A.aA x0.1) (A.bl true) (A.cmp .gtr (A.len .atom (A.fL .tab 0 .atom x.1)) (A.lit 100))) (A.bl true) (A.aA x1.1)) (A.ret _ (A.mkX .tab (A.bC .atom,()),A.mkX .sym (A.bC .ev,A.bC .poly,A.lit 0,A.bC .mono,A.bC .mono,A.lit 0,()),()))<|
 A.cl aox aoy (A.fL .tab 0 .atom x.1,A.bl false,()) fun x2=>
 A.chk (A.cmp .eql (A.len .iop (A.fL .blk 2 .iop x.2.1)) (A.len .iop (A.fL .blk 2 .iop x.2.1)))<|
 A.chk (A.cmp .leq (A.lit 0) (A.len .iop (A.fL .blk 2 .iop x.2.1)))<|
 A.chk (A.cmp .leq (A.len .iop (A.fL .blk 2 .iop x.2.1)) (A.lit 1073741824))<|
 A.l1 (.l .poly) (A.rep .poly (A.len .iop (A.fL .blk 2 .iop x.2.1)) (A.mkX .poly (A.bC .mono,()))) fun x3=>
 A.l1 .i (A.lit 0) fun x4=>
 A.l1 .i (A.lit 0) fun x5=>
 A.iter [.i,.i,.l .iop,.i,.i,.x .blk,.i,.i,.l .atom,.b,.i,.i,.l .poly,.l .ev,.l .poly] (fun x6=>
 A.cond (A.cmp .lss x6.q.1 x6.2.2.2.1) (A.bd .iop x6.2.2.1 x6.q.1<|
 A.l1 .i x6.q.1 fun x7=>
 A.l1 (.x .iop) (A.get .iop x6.2.2.1 x6.q.1) fun x8=>
 A.cl ZB ZE (x8.1,()) fun x9=>
 A.l1 .b x9.1 fun x10=>
 A.l1 .b x9.2.1 fun x11=>
 A.l1 .b x9.2.2.1 fun x12=>
 A.l1 .b x9.2.2.2.1 fun x13=>
 A.bind [.i,.i,.i,.b,.l .iop,.i,.i,.x .blk,.i,.i,.l .atom,.b,.i,.i,.l .poly,.x .iop,.x .poly,.l .ev,.l .poly] (A.cond x10.1 (A.bd .poly x6.o.q.1 (A.fI .iop 1 x8.1)<|
 A.bd .poly x6.o.q.1 (A.fI .iop 1 x8.1)<|
 A.l1 (.x .poly) (A.get .poly x6.o.q.1 (A.fI .iop 1 x8.1)) fun x14=>
 A.ret _ (x6.1,x6.2.1,x7.1,x11.1,x6.2.2.1,x6.2.2.2.1,x6.q.1,x6.q.2.1,x6.q.2.2.1,x6.q.2.2.2.1,x6.o.1,x6.o.2.1,x6.o.2.2.1,x6.o.2.2.2.1,x6.o.q.1,x8.1,x14.1,x6.o.q.2.1,x6.o.q.2.2.1,()))<|
 A.ret _ (x6.1,x6.2.1,x7.1,x11.1,x6.2.2.1,x6.2.2.2.1,x6.q.1,x6.q.2.1,x6.q.2.2.1,x6.q.2.2.2.1,x6.o.1,x6.o.2.1,x6.o.2.2.1,x6.o.2.2.2.1,x6.o.q.1,x8.1,A.mkX .poly (A.bC .mono,()),x6.o.q.2.1,x6.o.q.2.2.1,())) fun x14=>
 A.bind [.i,.i,.i,.l .iop,.i,.i,.x .blk,.i,.i,.l .atom,.b,.i,.i,.l .poly,.x .iop,.x .poly,.x .poly,.l .ev,.l .poly] (A.cond x14.2.2.2.1 (A.bd .poly x14.o.q.2.2.1 (A.fI .iop 2 x14.o.q.2.2.2.1)<|
 A.bd .poly x14.o.q.2.2.1 (A.fI .iop 2 x14.o.q.2.2.2.1)<|
 A.l1 (.x .poly) (A.get .poly x14.o.q.2.2.1 (A.fI .iop 2 x14.o.q.2.2.2.1)) fun x15=>
 A.ret _ (x14.1,x14.2.1,x14.2.2.1,x14.q.1,x14.q.2.1,x14.q.2.2.1,x14.q.2.2.2.1,x14.o.1,x14.o.2.1,x14.o.2.2.1,x14.o.2.2.2.1,x14.o.q.1,x14.o.q.2.1,x14.o.q.2.2.1,x14.o.q.2.2.2.1,x14.o.o.1,x15.1,x14.o.o.2.1,x14.o.o.2.2.1,()))<|
 A.ret _ (x14.1,x14.2.1,x14.2.2.1,x14.q.1,x14.q.2.1,x14.q.2.2.1,x14.q.2.2.2.1,x14.o.1,x14.o.2.1,x14.o.2.2.1,x14.o.2.2.2.1,x14.o.q.1,x14.o.q.2.1,x14.o.q.2.2.1,x14.o.q.2.2.2.1,x14.o.o.1,A.mkX .poly (A.bC .mono,()),x14.o.o.2.1,x14.o.o.2.2.1,())) fun x15=>
 A.cl aon aoo (x15.o.q.2.2.1,()) fun x16=>
 A.bind [.i,.i,.i,.l .iop,.i,.i,.x .blk,.i,.i,.l .atom,.b,.i,.i,.l .poly,.x .iop,.x .poly,.x .poly,.l .ev,.l .poly] (A.cond x16.1 (A.bind [.i,.i,.i,.l .iop,.i,.i,.x .blk,.i,.i,.l .atom,.b,.i,.i,.l .poly,.x .iop,.x .poly,.x .poly,.i,.i,.l .mono,.l .mono,.l .ev,.l .poly,.l .poly] (A.cond (A.au (A.cmp .eql (A.fI .iop 0 x15.o.q.2.2.1) (A.lit 4)) (A.bl true) (A.cmp .eql (A.fI .iop 0 x15.o.q.2.2.1) (A.lit 5))) (A.cl aoz aoA (x15.o.o.2.2.1,()) fun x17=>
 A.ret _ (x15.1,x15.2.1,x15.2.2.1,x15.2.2.2.1,x15.q.1,x15.q.2.1,x15.q.2.2.1,x15.q.2.2.2.1,x15.o.1,x15.o.2.1,x15.o.2.2.1,x15.o.2.2.2.1,x15.o.q.1,x15.o.q.2.1,x15.o.q.2.2.1,x15.o.q.2.2.2.1,x15.o.o.1,A.fI .iop 0 x15.o.q.2.2.1,A.fI .iop 4 x15.o.q.2.2.1,A.fL .poly 0 .mono x15.o.q.2.2.2.1,A.fL .poly 0 .mono x15.o.o.1,x15.o.o.2.1,x17.1,x17.2.1,()))<|
 A.ret _ (x15.1,x15.2.1,x15.2.2.1,x15.2.2.2.1,x15.q.1,x15.q.2.1,x15.q.2.2.1,x15.q.2.2.2.1,x15.o.1,x15.o.2.1,x15.o.2.2.1,x15.o.2.2.2.1,x15.o.q.1,x15.o.q.2.1,x15.o.q.2.2.1,x15.o.q.2.2.2.1,x15.o.o.1,A.fI .iop 0 x15.o.q.2.2.1,A.fI .iop 4 x15.o.q.2.2.1,A.fL .poly 0 .mono x15.o.q.2.2.2.1,A.fL .poly 0 .mono x15.o.o.1,x15.o.o.2.1,x15.o.o.2.2.1,A.bC .poly,())) fun x17=>
 A.l1 (.l .ev) (A.lst .ev [A.mkX .ev (x17.o.o.2.1,x17.o.o.2.2.1,x17.o.o.2.2.2.1,x17.o.o.q.1,x17.o.o.q.2.2.2.1,())]) fun x18=>
 A.chk (A.cmp .leq (A.addN (A.len .ev x17.o.o.q.2.1) (A.len .ev x18.1)) (A.lit 1073741824))<|
 A.l1 (.l .ev) (A.app .ev x17.o.o.q.2.1 x18.1) fun x19=>
 A.ret _ (x17.1,x17.2.1,x17.2.2.1,x17.2.2.2.1,x17.q.1,x17.q.2.1,x17.q.2.2.1,x17.q.2.2.2.1,x17.o.1,x17.o.2.1,x17.o.2.2.1,x17.o.2.2.2.1,x17.o.q.1,x17.o.q.2.1,x17.o.q.2.2.1,x17.o.q.2.2.2.1,x17.o.o.1,x19.1,x17.o.o.q.2.2.1,()))<|
 A.ret _ (x15.1,x15.2.1,x15.2.2.1,x15.2.2.2.1,x15.q.1,x15.q.2.1,x15.q.2.2.1,x15.q.2.2.2.1,x15.o.1,x15.o.2.1,x15.o.2.2.1,x15.o.2.2.2.1,x15.o.q.1,x15.o.q.2.1,x15.o.q.2.2.1,x15.o.q.2.2.2.1,x15.o.o.1,x15.o.o.2.1,x15.o.o.2.2.1,())) fun x17=>
 A.l1 .b (A.cmp .eql (A.fI .iop 0 x17.o.q.2.2.1) (A.lit 1)) fun x18=>
 A.lS [.i,.i,.l .iop,.i,.i,.x .blk,.i,.i,.l .atom,.b,.i,.i,.l .poly,.l .ev,.l .poly] (A.cond x18.1 (A.cl QY QZ (A.fI .iop 3 x17.o.q.2.2.1,()) fun x19=>
 A.bd .poly x17.o.q.2.1 x17.2.2.1<|
 A.bd .poly x17.o.q.2.1 x17.2.2.1<|
 A.inl _ (x17.1,x17.2.1,x17.2.2.2.1,x17.q.1,x17.q.2.1,x17.q.2.2.1,x17.q.2.2.2.1,x17.o.1,x17.o.2.1,x17.o.2.2.1,x17.o.2.2.2.1,x17.o.q.1,A.set .poly x17.o.q.2.1 x17.2.2.1 (A.mkX .poly (x19.1,())),x17.o.o.2.1,x17.o.o.2.2.1,()))<|
 A.l1 .b (A.cmp .eql (A.fI .iop 0 x17.o.q.2.2.1) (A.lit 2)) fun x19=>
 A.lS [.i,.i,.l .iop,.i,.i,.x .blk,.i,.i,.l .atom,.b,.i,.i,.l .poly,.l .ev,.l .poly] (A.cond x19.1 (A.bd .poly x17.o.o.2.2.1 (A.fI .iop 3 x17.o.q.2.2.1)<|
 A.bd .poly x17.o.o.2.2.1 (A.fI .iop 3 x17.o.q.2.2.1)<|
 A.bd .poly x17.o.q.2.1 x17.2.2.1<|
 A.bd .poly x17.o.q.2.1 x17.2.2.1<|
 A.l1 (.x .poly) (A.get .poly x17.o.o.2.2.1 (A.fI .iop 3 x17.o.q.2.2.1)) fun x20=>
 A.inl _ (x17.1,x17.2.1,x17.2.2.2.1,x17.q.1,x17.q.2.1,x17.q.2.2.1,x17.q.2.2.2.1,x17.o.1,x17.o.2.1,x17.o.2.2.1,x17.o.2.2.2.1,x17.o.q.1,A.set .poly x17.o.q.2.1 x17.2.2.1 x20.1,x17.o.o.2.1,x17.o.o.2.2.1,()))<|
 A.l1 .b (A.cmp .eql (A.fI .iop 0 x17.o.q.2.2.1) (A.lit 3)) fun x20=>
 A.lS [.i,.i,.l .iop,.i,.i,.x .blk,.i,.i,.l .atom,.b,.i,.i,.l .poly,.l .ev,.l .poly] (A.cond x20.1 (A.cl aov aow (A.mkX .tab (x17.o.2.1,()),A.fI .iop 3 x17.o.q.2.2.1,x17.o.q.2.2.2.1,x17.o.o.1,()) fun x21=>
 A.l1 (.x .tab) x21.1 fun x22=>
 A.l1 (.x .poly) x21.2.1 fun x23=>
 A.l1 .b x21.2.2.1 fun x24=>
 A.cond (A.aA x24.1) (A.inr _<|A.inr _<|A.inr _<|A.inr _<|A.ret _ (A.mkX .tab (A.bC .atom,()),A.mkX .sym (A.bC .ev,A.bC .poly,A.lit 0,A.bC .mono,A.bC .mono,A.lit 0,()),()))<|
 A.l1 (.x .tab) x22.1 fun x25=>
 A.bd .poly x17.o.q.2.1 x17.2.2.1<|
 A.bd .poly x17.o.q.2.1 x17.2.2.1<|
 A.l1 (.x .poly) x23.1 fun x26=>
 A.inl _ (x17.1,x17.2.1,x17.2.2.2.1,x17.q.1,x17.q.2.1,x17.q.2.2.1,x17.q.2.2.2.1,x17.o.1,A.fL .tab 0 .atom x25.1,x17.o.2.2.1,x17.o.2.2.2.1,x17.o.q.1,A.set .poly x17.o.q.2.1 x17.2.2.1 x26.1,x17.o.o.2.1,x17.o.o.2.2.1,()))<|
 A.l1 .b (A.cmp .eql (A.fI .iop 0 x17.o.q.2.2.1) (A.lit 4)) fun x21=>
 A.bind [.i,.i,.l .iop,.i,.i,.x .blk,.i,.i,.l .atom,.b,.i,.i,.l .poly,.l .ev,.l .poly] (A.cond x21.1 (A.cl VW VX (A.lit 2,x17.1,x17.o.2.1,x17.o.2.2.1,()) fun x22=>
 A.bd .poly x17.o.q.2.1 x17.2.2.1<|
 A.bd .poly x17.o.q.2.1 x17.2.2.1<|
 A.l1 (.x .poly) x22.1 fun x23=>
 A.l1 .i (A.arith .add .i64 x17.1 (A.lit 1)) fun x24=>
 A.ret _ (x24.1,x17.2.1,x17.2.2.2.1,x17.q.1,x17.q.2.1,x17.q.2.2.1,x17.q.2.2.2.1,x17.o.1,x22.2.1,x22.2.2.1,x17.o.2.2.2.1,x17.o.q.1,A.set .poly x17.o.q.2.1 x17.2.2.1 x23.1,x17.o.o.2.1,x17.o.o.2.2.1,()))<|
 A.l1 .b (A.cmp .eql (A.fI .iop 0 x17.o.q.2.2.1) (A.lit 6)) fun x22=>
 A.bind [.i,.i,.l .iop,.i,.i,.x .blk,.i,.i,.l .atom,.b,.i,.i,.l .poly,.l .ev,.l .poly] (A.cond x22.1 (A.cl VW VX (A.lit 3,x17.2.1,x17.o.2.1,x17.o.2.2.1,()) fun x23=>
 A.bd .poly x17.o.q.2.1 x17.2.2.1<|
 A.bd .poly x17.o.q.2.1 x17.2.2.1<|
 A.l1 (.x .poly) x23.1 fun x24=>
 A.l1 .i (A.arith .add .i64 x17.2.1 (A.lit 1)) fun x25=>
 A.ret _ (x17.1,x25.1,x17.2.2.2.1,x17.q.1,x17.q.2.1,x17.q.2.2.1,x17.q.2.2.2.1,x17.o.1,x23.2.1,x23.2.2.1,x17.o.2.2.2.1,x17.o.q.1,A.set .poly x17.o.q.2.1 x17.2.2.1 x24.1,x17.o.o.2.1,x17.o.o.2.2.1,()))<|
 A.l1 .b (A.cmp .eql (A.fI .iop 0 x17.o.q.2.2.1) (A.lit 8)) fun x23=>
 A.bind [.i,.i,.l .iop,.i,.i,.x .blk,.i,.i,.l .atom,.b,.i,.i,.l .poly,.l .ev,.l .poly] (A.cond x23.1 (A.bd .poly x17.o.o.2.2.1 (A.fI .iop 3 x17.o.q.2.2.1)<|
 A.bd .poly x17.o.o.2.2.1 (A.fI .iop 3 x17.o.q.2.2.1)<|
 A.l1 (.x .poly) x17.o.q.2.2.2.1 fun x24=>
 A.ret _ (x17.1,x17.2.1,x17.2.2.2.1,x17.q.1,x17.q.2.1,x17.q.2.2.1,x17.q.2.2.2.1,x17.o.1,x17.o.2.1,x17.o.2.2.1,x17.o.2.2.2.1,x17.o.q.1,x17.o.q.2.1,x17.o.o.2.1,A.set .poly x17.o.o.2.2.1 (A.fI .iop 3 x17.o.q.2.2.1) x24.1,()))<|
 A.ret _ (x17.1,x17.2.1,x17.2.2.2.1,x17.q.1,x17.q.2.1,x17.q.2.2.1,x17.q.2.2.2.1,x17.o.1,x17.o.2.1,x17.o.2.2.1,x17.o.2.2.2.1,x17.o.q.1,x17.o.q.2.1,x17.o.o.2.1,x17.o.o.2.2.1,())) fun x24=>
 A.ret _ (x24.1,x24.2.1,x24.2.2.1,x24.2.2.2.1,x24.q.1,x24.q.2.1,x24.q.2.2.1,x24.q.2.2.2.1,x24.o.1,x24.o.2.1,x24.o.2.2.1,x24.o.2.2.2.1,x24.o.q.1,x24.o.q.2.1,x24.o.q.2.2.1,())) fun x23=>
 A.ret _ (x23.1,x23.2.1,x23.2.2.1,x23.2.2.2.1,x23.q.1,x23.q.2.1,x23.q.2.2.1,x23.q.2.2.2.1,x23.o.1,x23.o.2.1,x23.o.2.2.1,x23.o.2.2.2.1,x23.o.q.1,x23.o.q.2.1,x23.o.q.2.2.1,())) fun x22=>
 A.inl _ (x22.1,x22.2.1,x22.2.2.1,x22.2.2.2.1,x22.q.1,x22.q.2.1,x22.q.2.2.1,x22.q.2.2.2.1,x22.o.1,x22.o.2.1,x22.o.2.2.1,x22.o.2.2.2.1,x22.o.q.1,x22.o.q.2.1,x22.o.q.2.2.1,())) fun x21=>
 A.inl _ (x21.1,x21.2.1,x21.2.2.1,x21.2.2.2.1,x21.q.1,x21.q.2.1,x21.q.2.2.1,x21.q.2.2.2.1,x21.o.1,x21.o.2.1,x21.o.2.2.1,x21.o.2.2.2.1,x21.o.q.1,x21.o.q.2.1,x21.o.q.2.2.1,())) fun x20=>
 A.inl _ (x20.1,x20.2.1,x20.2.2.1,x20.2.2.2.1,x20.q.1,x20.q.2.1,x20.q.2.2.1,x20.q.2.2.2.1,x20.o.1,x20.o.2.1,x20.o.2.2.1,x20.o.2.2.2.1,x20.o.q.1,x20.o.q.2.1,x20.o.q.2.2.1,())) fun x19=>
 A.inl _ (x19.1,x19.2.1,x19.2.2.1,x19.2.2.2.1,A.arith .add .i64 x19.q.1 (A.lit 1),x19.q.2.1,x19.q.2.2.1,x19.q.2.2.2.1,x19.o.1,x19.o.2.1,x19.o.2.2.1,x19.o.2.2.2.1,x19.o.q.1,x19.o.q.2.1,x19.o.q.2.2.1,()))<|
 A.inr _<|A.cl ZF ZG (x6.q.2.1,()) fun x7=>
 A.l1 .b x7.1 fun x8=>
 A.l1 .b x7.2.1 fun x9=>
 A.l1 .b x7.2.2.1 fun x10=>
 A.bind [.b,.x .blk,.i,.i,.l .atom,.b,.i,.l .mono,.i,.l .poly,.l .ev,.l .poly] (A.cond x8.1 (A.bd .poly x6.o.q.1 (A.fI .blk 4 x6.q.2.1)<|
 A.bd .poly x6.o.q.1 (A.fI .blk 4 x6.q.2.1)<|
 A.l1 (.x .poly) (A.get .poly x6.o.q.1 (A.fI .blk 4 x6.q.2.1)) fun x11=>
 A.ret _ (x9.1,x6.q.2.1,x6.q.2.2.1,x6.q.2.2.2.1,x6.o.1,x6.o.2.1,x6.o.2.2.1,A.fL .poly 0 .mono x11.1,x6.o.2.2.2.1,x6.o.q.1,x6.o.q.2.1,x6.o.q.2.2.1,()))<|
 A.ret _ (x9.1,x6.q.2.1,x6.q.2.2.1,x6.q.2.2.2.1,x6.o.1,x6.o.2.1,x6.o.2.2.1,A.bC .mono,x6.o.2.2.2.1,x6.o.q.1,x6.o.q.2.1,x6.o.q.2.2.1,())) fun x11=>
 A.bind [.x .blk,.i,.i,.l .atom,.b,.i,.l .mono,.l .mono,.i,.l .ev,.l .poly] (A.cond x11.1 (A.bd .poly x11.o.2.1 (A.fI .blk 5 x11.2.1)<|
 A.bd .poly x11.o.2.1 (A.fI .blk 5 x11.2.1)<|
 A.l1 (.x .poly) (A.get .poly x11.o.2.1 (A.fI .blk 5 x11.2.1)) fun x12=>
 A.ret _ (x11.2.1,x11.2.2.1,x11.2.2.2.1,x11.q.1,x11.q.2.1,x11.q.2.2.1,x11.q.2.2.2.1,A.fL .poly 0 .mono x12.1,x11.o.1,x11.o.2.2.1,x11.o.2.2.2.1,()))<|
 A.ret _ (x11.2.1,x11.2.2.1,x11.2.2.2.1,x11.q.1,x11.q.2.1,x11.q.2.2.1,x11.q.2.2.2.1,A.bC .mono,x11.o.1,x11.o.2.2.1,x11.o.2.2.2.1,())) fun x12=>
 A.cond x12.q.1 (A.ret _ (A.mkX .tab (A.bC .atom,()),A.mkX .sym (A.bC .ev,A.bC .poly,A.lit 0,A.bC .mono,A.bC .mono,A.lit 0,()),()))<|
 A.cl aot aou (A.mkX .tab (x12.2.2.2.1,()),()) fun x13=>
 A.cl aop aoq (A.mkX .sym (x12.o.2.1,x12.o.2.2.1,x12.q.2.1,x12.q.2.2.1,x12.q.2.2.2.1,x12.o.1,()),A.arith .add .i64 (A.fI .blk 0 x12.1) (A.fI .blk 1 x12.1),()) fun x14=>
 A.l1 (.x .sym) x14.1 fun x15=>
 A.ret _ (A.mkX .tab (x13.1,()),x15.1,())) (x4.1,x5.1,A.fL .blk 2 .iop x.2.1,A.len .iop (A.fL .blk 2 .iop x.2.1),A.lit 0,x.2.1,A.lit 0,A.lit 0,x2.1,x2.2.1,A.fI .blk 3 x.2.1,A.fI .blk 6 x.2.1,x3.1,A.bC .ev,x2.2.2.1,())
def Jg (A:Alg) (jT:Pt A gB) (jU:Ft A gB) (GY:Pt A uD) (GZ:Ft A uD) (x:Tup A.ah [.x .poly,.x .poly,.i]):Ot A C8:=
 A.l1 .b (A.bl false) fun x0=>
 A.cl jT jU (x.1,()) fun x1=>
 A.cg x1.1 jT jU (x.2.1,()) fun x2=>
 A.cg (A.au x1.1 x2.1 (A.bl false)) GY GZ (x.1,x.2.2.1,()) fun x3=>
 A.cg (A.au (A.au x1.1 x2.1 (A.bl false)) x3.1 (A.bl false)) GY GZ (x.2.1,x.2.2.1,()) fun x4=>
 A.rb (A.au (A.au (A.au x1.1 x2.1 (A.bl false)) x3.1 (A.bl false)) x4.1 (A.bl false))
def Jh (A:Alg) (bZ:Pt A bR) (cu:Ft A bR) (TH:Pt A uG) (TI:Ft A uG) (aki:Pt A C8) (akj:Ft A C8) (akk:Pt A BS) (akl:Ft A BS) (TJ:Pt A uI) (TK:Ft A uI) (x:Tup A.ah [.x .tab,.i,.x .poly,.x .poly]):Ot A C9:=
 A.cl TH TI (x.1,()) fun x0=>
 A.cg (A.aA (A.aA x0.1)) bZ cu (x.2.1,A.lit 1,A.lit 5,()) fun x1=>
 A.cg (A.aA (A.au (A.aA x0.1) (A.bl true) (A.aA x1.1))) aki akj (x.2.2.1,x.2.2.2.1,A.len .atom (A.fL .tab 0 .atom x.1),()) fun x2=>
 A.cond (A.au (A.au (A.aA x0.1) (A.bl true) (A.aA x1.1)) (A.bl true) (A.aA x2.1)) (A.ret _ (A.bC .atom,A.bC .mono,()))<|
 A.cl TJ TK (x.1,()) fun x3=>
 A.cl akk akl (x.2.1,x.2.2.1,x.2.2.2.1,x3.1,()) fun x4=>
 A.ret _ (x4.1,x4.2.1,())
def Ji (A:Alg) (TH:Pt A uG) (TI:Ft A uG) (Te:Pt A uJ) (Tf:Ft A uJ) (TJ:Pt A uI) (TK:Ft A uI) (x:Tup A.ah [.x .tab,.x .atom]):Ot A Da:=
 A.l1 .i (A.lit 0) fun x0=>
 A.cl TH TI (x.1,()) fun x1=>
 A.cond (A.aA x1.1) (A.l1 .i (A.lit (-1)) fun x2=>
 A.ret _ (x2.1,A.bC .atom,()))<|
 A.cl TJ TK (x.1,()) fun x2=>
 A.cl Te Tf (x.2.1,x2.1,()) fun x3=>
 A.l1 .i x3.1 fun x4=>
 A.ret _ (x4.1,x3.2.1,())
def Jj (A:Alg) (aO:Pt A bY) (aP:Ft A bY) (akm:Pt A C9) (akn:Ft A C9) (ZR:Pt A BH) (ZT:Ft A BH) (ako:Pt A BJ) (akp:Ft A BJ) (akq:Pt A Da) (akr:Ft A Da) (x:Tup A.ah [.l .u8,.i]):Ot A Db:=
 A.cl ako akp () fun x0=>
 A.cl aO aP (A.lit 7,x.1,x.2.1,()) fun x1=>
 A.l1 .i x1.1 fun x2=>
 A.iter [.i,.l .u8,.i,.l .atom] (fun x3=>
 A.cond (A.cmp .gtr x3.1 (A.lit 0)) (A.l1 .i (A.len .atom x3.2.2.2.1) fun x4=>
 A.cl aO aP (A.lit 5,x3.2.1,x3.2.2.1,()) fun x5=>
 A.cl ZR ZT (x4.1,x5.2.1,x5.2.2.1,()) fun x6=>
 A.cl ZR ZT (x4.1,x6.1,x6.2.1,()) fun x7=>
 A.cl akm akn (A.mkX .tab (x3.2.2.2.1,()),A.arith .add .i64 (A.lit 1) x5.1,A.mkX .poly (x6.2.2.1,()),A.mkX .poly (x7.2.2.1,()),()) fun x8=>
 A.l1 .i (A.arith .sub .i64 x3.1 (A.lit 1)) fun x9=>
 A.inl _ (x9.1,x7.1,x7.2.1,x8.1,()))<|
 A.inr _<|A.cl aO aP (A.lit 3,x3.2.1,x3.2.2.1,()) fun x4=>
 A.bind [.l .u8,.i,.l .atom] (A.cond (A.cmp .eql x4.1 (A.lit 0)) (A.cl aO aP (A.lit 2,x4.2.1,x4.2.2.1,()) fun x5=>
 A.bd .i64 (A.lst .i64 [A.mkX .i64 (A.lit 2,()),A.mkX .i64 (A.lit 3,())]) x5.1<|
 A.cl aO aP (A.lit 3,x5.2.1,x5.2.2.1,()) fun x6=>
 A.cl akq akr (A.mkX .tab (x3.2.2.2.1,()),A.mkX .atom (A.fI .i64 0 (A.get .i64 (A.lst .i64 [A.mkX .i64 (A.lit 2,()),A.mkX .i64 (A.lit 3,())]) x5.1),x6.1,A.bC .mono,A.bC .mono,()),()) fun x7=>
 A.l1 .i x7.1 fun x8=>
 A.ret _ (x6.2.1,x6.2.2.1,x7.2.1,()))<|
 A.ret _ (x4.2.1,x4.2.2.1,x3.2.2.2.1,())) fun x5=>
 A.ret _ (x5.1,x5.2.1,x5.2.2.1,())) (x2.1,x1.2.1,x1.2.2.1,x0.1,())
def Jk (A:Alg) (aO:Pt A bY) (aP:Ft A bY) (TB:Pt A uh) (TD:Ft A uh) (zm:Pt A jQ) (zn:Ft A jQ) (aks:Pt A Db) (akt:Ft A Db) (x:Tup A.ah [.i,.l .u8,.i]):Ot A Dc:=
 A.cl aks akt (x.2.1,x.2.2.1,()) fun x0=>
 A.cl TB TD (x.1,x0.1,x0.2.1,()) fun x1=>
 A.lS [.l .u8,.i,.l .atom] (A.cond x1.1 (A.cl aO aP (A.lit 4,x1.2.1,x1.2.2.1,()) fun x2=>
 A.l1 .b (A.cmp .eql x2.1 (A.lit 0)) fun x3=>
 A.bind [.l .u8,.i,.l .atom] (A.cond x3.1 (A.bd .atom x0.2.2.1 (A.lit 0)<|
 A.bd .atom x0.2.2.1 (A.lit 0)<|
 A.l1 (.l .atom) (A.lst .atom [A.get .atom x0.2.2.1 (A.lit 0)]) fun x4=>
 A.chk (A.cmp .leq (A.addN (A.len .atom x0.2.2.1) (A.len .atom x4.1)) (A.lit 1073741824))<|
 A.l1 (.l .atom) (A.app .atom x0.2.2.1 x4.1) fun x5=>
 A.ret _ (x2.2.1,x2.2.2.1,x5.1,()))<|
 A.l1 .b (A.cmp .eql x2.1 (A.lit 1)) fun x4=>
 A.bind [.l .u8,.i,.l .atom] (A.cond x4.1 (A.cl zm zn (A.lit 50,()) fun x5=>
 A.l1 (.l .atom) (A.lst .atom [A.mkX .atom (A.lit 4,A.lit 4,x5.1,A.bC .mono,())]) fun x6=>
 A.chk (A.cmp .leq (A.addN (A.len .atom x0.2.2.1) (A.len .atom x6.1)) (A.lit 1073741824))<|
 A.l1 (.l .atom) (A.app .atom x0.2.2.1 x6.1) fun x7=>
 A.ret _ (x2.2.1,x2.2.2.1,x7.1,()))<|
 A.l1 .b (A.cmp .eql x2.1 (A.lit 2)) fun x5=>
 A.bind [.l .u8,.i,.l .atom] (A.cond x5.1 (A.cl aO aP (A.lit 3,x2.2.1,x2.2.2.1,()) fun x6=>
 A.bd .i64 (A.lst .i64 [A.mkX .i64 (A.lit 0,()),A.mkX .i64 (A.lit 5,()),A.mkX .i64 (A.lit 2,())]) x6.1<|
 A.bd .atom x0.2.2.1 (A.lit 0)<|
 A.bd .atom x0.2.2.1 (A.lit 0)<|
 A.l1 .i (A.fI .i64 0 (A.get .i64 (A.lst .i64 [A.mkX .i64 (A.lit 0,()),A.mkX .i64 (A.lit 5,()),A.mkX .i64 (A.lit 2,())]) x6.1)) fun x7=>
 A.ret _ (x6.2.1,x6.2.2.1,A.set .atom x0.2.2.1 (A.lit 0) (A.mkX .atom (x7.1,A.fI .atom 1 (A.get .atom x0.2.2.1 (A.lit 0)),A.fL .atom 2 .mono (A.get .atom x0.2.2.1 (A.lit 0)),A.fL .atom 3 .mono (A.get .atom x0.2.2.1 (A.lit 0)),())),()))<|
 A.l1 (.l .atom) (A.lst .atom [A.mkX .atom (A.lit 1,A.lit 9,A.bC .mono,A.bC .mono,())]) fun x6=>
 A.chk (A.cmp .leq (A.addN (A.len .atom x0.2.2.1) (A.len .atom x6.1)) (A.lit 1073741824))<|
 A.l1 (.l .atom) (A.app .atom x0.2.2.1 x6.1) fun x7=>
 A.ret _ (x2.2.1,x2.2.2.1,x7.1,())) fun x6=>
 A.ret _ (x6.1,x6.2.1,x6.2.2.1,())) fun x5=>
 A.ret _ (x5.1,x5.2.1,x5.2.2.1,())) fun x4=>
 A.inl _ (x4.1,x4.2.1,x4.2.2.1,()))<|
 A.inl _ (x1.2.1,x1.2.2.1,x0.2.2.1,())) fun x2=>
 A.ret _ (x2.1,x2.2.1,x2.2.2.1,())
def Jl (A:Alg) (aku:Pt A BA) (akv:Ft A BA) (akw:Pt A CK) (akx:Ft A CK) (aky:Pt A Dc) (akz:Ft A Dc) (x:Tup A.ah [.l .u8]):Ot A Df:=
 A.cl aku akv (x.1,()) fun x0=>
 A.cl aky akz (A.lit 20,x0.1,x0.2.1,()) fun x1=>
 A.cl akw akx (A.lit 14,x1.1,x1.2.1,()) fun x2=>
 A.l1 (.x .blk) x2.1 fun x3=>
 A.ret _ (A.mkX .tab (x1.2.2.1,()),x3.1,())
def Q8 (A:Alg) (AL:Pt A vL) (AO:Ft A vL) (x:Tup A.ah [.x .tab,.x .tab]):Ot A KO:=
 A.l1 .b (A.bl false) fun x0=>
 A.cond (A.cmp .neq (A.len .atom (A.fL .tab 0 .atom x.1)) (A.len .atom (A.fL .tab 0 .atom x.2.1))) (A.rb (A.bl false))<|
 A.l1 .i (A.lit 0) fun x1=>
 A.iter [.i,.x .tab,.x .tab] (fun x2=>
 A.cond (A.cmp .lss x2.1 (A.len .atom (A.fL .tab 0 .atom x2.2.1))) (A.bd .atom (A.fL .tab 0 .atom x2.2.1) x2.1<|
 A.l1 (.x .atom) (A.get .atom (A.fL .tab 0 .atom x2.2.1) x2.1) fun x3=>
 A.bd .atom (A.fL .tab 0 .atom x2.2.2.1) x2.1<|
 A.l1 (.x .atom) (A.get .atom (A.fL .tab 0 .atom x2.2.2.1) x2.1) fun x4=>
 A.cg (A.aA (A.au (A.cmp .neq (A.fI .atom 0 x3.1) (A.fI .atom 0 x4.1)) (A.bl true) (A.cmp .neq (A.fI .atom 1 x3.1) (A.fI .atom 1 x4.1)))) AL AO (A.mkX .poly (A.fL .atom 2 .mono x3.1,()),A.mkX .poly (A.fL .atom 2 .mono x4.1,()),()) fun x5=>
 A.cg (A.aA (A.au (A.au (A.cmp .neq (A.fI .atom 0 x3.1) (A.fI .atom 0 x4.1)) (A.bl true) (A.cmp .neq (A.fI .atom 1 x3.1) (A.fI .atom 1 x4.1))) (A.bl true) (A.aA x5.1))) AL AO (A.mkX .poly (A.fL .atom 3 .mono x3.1,()),A.mkX .poly (A.fL .atom 3 .mono x4.1,()),()) fun x6=>
 A.cond (A.au (A.au (A.au (A.cmp .neq (A.fI .atom 0 x3.1) (A.fI .atom 0 x4.1)) (A.bl true) (A.cmp .neq (A.fI .atom 1 x3.1) (A.fI .atom 1 x4.1))) (A.bl true) (A.aA x5.1)) (A.bl true) (A.aA x6.1)) (A.l1 .b (A.bl false) fun x7=>
 A.inr _<|A.ret _ (x7.1,()))<|
 A.l1 .i (A.arith .add .i64 x2.1 (A.lit 1)) fun x7=>
 A.inl _ (x7.1,x2.2.1,x2.2.2.1,()))<|
 A.inr _<|A.rb (A.bl true)) (x1.1,x.1,x.2.1,())
def Q9 (A:Alg) (afX:Pt A KN) (afY:Ft A KN) (afZ:Pt A Ko) (af0:Ft A Ko) (aoB:Pt A Kn) (aoC:Ft A Kn) (af2:Pt A KO) (af3:Ft A KO) (akA:Pt A Df) (akB:Ft A Df) (x:Tup A.ah [.l .u8]):Ot A Y7:=
 A.l1 .b (A.bl false) fun x0=>
 A.cond (A.cmp .gtr (A.len .u8 x.1) (A.lit 1048576)) (A.rb (A.bl true))<|
 A.cl akA akB (x.1,()) fun x1=>
 A.l1 (.x .tab) x1.1 fun x2=>
 A.l1 (.x .blk) x1.2.1 fun x3=>
 A.cl afX afY (x2.1,x3.1,()) fun x4=>
 A.l1 (.x .tab) x4.1 fun x5=>
 A.l1 (.x .sym) x4.2.1 fun x6=>
 A.cond (A.cmp .eql (A.len .atom (A.fL .tab 0 .atom x5.1)) (A.lit 0)) (A.cl afZ af0 () fun x7=>
 A.rb x7.1)<|
 A.l1 .i (A.len .atom (A.fL .tab 0 .atom x2.1)) fun x7=>
 A.chk (A.orB (A.aA (A.aA (A.au (A.cmp .lss (A.len .atom (A.fL .tab 0 .atom x5.1)) x7.1) (A.bl true) (A.cmp .gtr (A.len .atom (A.fL .tab 0 .atom x5.1)) (A.arith .add .i64 (A.arith .add .i64 x7.1 (A.len .iop (A.fL .blk 2 .iop x3.1))) (A.lit 4)))))) (A.cmp .leq (A.lit 0) (A.lit 0)))<|
 A.chk (A.orB (A.aA (A.aA (A.au (A.cmp .lss (A.len .atom (A.fL .tab 0 .atom x5.1)) x7.1) (A.bl true) (A.cmp .gtr (A.len .atom (A.fL .tab 0 .atom x5.1)) (A.arith .add .i64 (A.arith .add .i64 x7.1 (A.len .iop (A.fL .blk 2 .iop x3.1))) (A.lit 4)))))) (A.cmp .leq (A.lit 0) x7.1))<|
 A.chk (A.orB (A.aA (A.aA (A.au (A.cmp .lss (A.len .atom (A.fL .tab 0 .atom x5.1)) x7.1) (A.bl true) (A.cmp .gtr (A.len .atom (A.fL .tab 0 .atom x5.1)) (A.arith .add .i64 (A.arith .add .i64 x7.1 (A.len .iop (A.fL .blk 2 .iop x3.1))) (A.lit 4)))))) (A.cmp .leq x7.1 (A.len .atom (A.fL .tab 0 .atom x5.1))))<|
 A.cg (A.aA (A.au (A.cmp .lss (A.len .atom (A.fL .tab 0 .atom x5.1)) x7.1) (A.bl true) (A.cmp .gtr (A.len .atom (A.fL .tab 0 .atom x5.1)) (A.arith .add .i64 (A.arith .add .i64 x7.1 (A.len .iop (A.fL .blk 2 .iop x3.1))) (A.lit 4))))) af2 af3 (A.mkX .tab (A.sub .atom (A.fL .tab 0 .atom x5.1) (A.lit 0) x7.1,()),x2.1,()) fun x8=>
 A.cond (A.au (A.au (A.cmp .lss (A.len .atom (A.fL .tab 0 .atom x5.1)) x7.1) (A.bl true) (A.cmp .gtr (A.len .atom (A.fL .tab 0 .atom x5.1)) (A.arith .add .i64 (A.arith .add .i64 x7.1 (A.len .iop (A.fL .blk 2 .iop x3.1))) (A.lit 4)))) (A.bl true) (A.aA x8.1)) (A.rb (A.bl false))<|
 A.cond (A.cmp .gtr (A.len .atom (A.fL .tab 0 .atom x5.1)) (A.lit 100)) (A.cl afZ af0 () fun x9=>
 A.rb x9.1)<|
 A.cl afX afY (x5.1,x3.1,()) fun x9=>
 A.l1 (.x .tab) x9.1 fun x10=>
 A.l1 (.x .sym) x9.2.1 fun x11=>
 A.cl af2 af3 (x10.1,x5.1,()) fun x12=>
 A.cg x12.1 aoB aoC (x11.1,x6.1,()) fun x13=>
 A.rb (A.au x12.1 x13.1 (A.bl false))
end Go.TX.F
namespace Go.TX.Seat
open Go Go.AE Go.TX Go.Proofs
set_option maxRecDepth 100000
def ty:TypeId→Option TY
  | 2=>some ⟨(.int .i64),1,8,[.d true (.int .i64 0)]⟩
  | 3=>some ⟨(.int .i64),1,8,[.d true (.int .i64 0)]⟩
  | 4=>some ⟨.bool,1,1,[.d true (.bool false)]⟩
  | 5=>some ⟨(.int .u8),1,1,[.d true (.int .u8 0)]⟩
  | 6=>some ⟨(.int .u8),1,1,[.d true (.int .u8 0)]⟩
  | 7=>some ⟨(.struct [(0,2),(1,3),(2,4),(3,6)]),4,24,[.d true (.int .i64 0),.d true (.int .i64 0),.d true (.bool false),.d true (.int .u8 0)]⟩
  | 8=>some ⟨(.struct [(0,2),(1,3),(2,4),(3,6)]),4,24,[.d true (.int .i64 0),.d true (.int .i64 0),.d true (.bool false),.d true (.int .u8 0)]⟩
  | 9=>some ⟨.scalar,1,16,[.d true (.str ⟨#[]⟩)]⟩
  | 10=>some ⟨.scalar,1,16,[.d true (.str ⟨#[]⟩)]⟩
  | 11=>some ⟨.scalar,1,16,[.d true (.str ⟨#[]⟩)]⟩
  | 12=>some ⟨(.int .u64),1,8,[.d true (.int .u64 0)]⟩
  | 13=>some ⟨(.struct [(0,9),(1,12)]),2,24,[.d true (.str ⟨#[]⟩),.d true (.int .u64 0)]⟩
  | 14=>some ⟨(.struct [(0,9),(1,12)]),2,24,[.d true (.str ⟨#[]⟩),.d true (.int .u64 0)]⟩
  | 15=>some ⟨.scalar,1,8,[.np]⟩
  | 16=>some ⟨.scalar,1,8,[.np]⟩
  | 17=>some ⟨.scalar,1,8,[.np]⟩
  | 18=>some ⟨(.struct [(0,17)]),1,8,[.np]⟩
  | 19=>some ⟨(.struct [(0,17)]),1,8,[.np]⟩
  | 21=>some ⟨(.int .i32),1,4,[.d true (.int .i32 0)]⟩
  | 22=>some ⟨(.slice 5),1,24,[.nil]⟩
  | 23=>some ⟨(.slice 70),1,24,[.nil]⟩
  | 24=>some ⟨(.slice 27),1,24,[.nil]⟩
  | 25=>some ⟨(.slice 95),1,24,[.nil]⟩
  | 26=>some ⟨(.struct [(0,25)]),1,24,[.nil]⟩
  | 27=>some ⟨(.struct [(0,25)]),1,24,[.nil]⟩
  | 28=>some ⟨(.struct [(0,23),(1,24),(2,3),(3,27),(4,27),(5,3)]),6,112,[.nil,.nil,.d true (.int .i64 0),.nil,.nil,.d true (.int .i64 0)]⟩
  | 29=>some ⟨(.struct [(0,23),(1,24),(2,3),(3,27),(4,27),(5,3)]),6,112,[.nil,.nil,.d true (.int .i64 0),.nil,.nil,.d true (.int .i64 0)]⟩
  | 42=>some ⟨(.slice 68),1,24,[.nil]⟩
  | 43=>some ⟨(.struct [(0,3),(1,3),(2,42),(3,3),(4,3),(5,3),(6,3)]),7,72,[.d true (.int .i64 0),.d true (.int .i64 0),.nil,.d true (.int .i64 0),.d true (.int .i64 0),.d true (.int .i64 0),.d true (.int .i64 0)]⟩
  | 44=>some ⟨(.struct [(0,3),(1,3),(2,42),(3,3),(4,3),(5,3),(6,3)]),7,72,[.d true (.int .i64 0),.d true (.int .i64 0),.nil,.d true (.int .i64 0),.d true (.int .i64 0),.d true (.int .i64 0),.d true (.int .i64 0)]⟩
  | 53=>some ⟨(.slice 58),1,24,[.nil]⟩
  | 57=>some ⟨(.struct [(0,44),(7,44)]),14,144,[.d true (.int .i64 0),.d true (.int .i64 0),.nil,.d true (.int .i64 0),.d true (.int .i64 0),.d true (.int .i64 0),.d true (.int .i64 0),.d true (.int .i64 0),.d true (.int .i64 0),.nil,.d true (.int .i64 0),.d true (.int .i64 0),.d true (.int .i64 0),.d true (.int .i64 0)]⟩
  | 58=>some ⟨(.struct [(0,44),(7,44)]),14,144,[.d true (.int .i64 0),.d true (.int .i64 0),.nil,.d true (.int .i64 0),.d true (.int .i64 0),.d true (.int .i64 0),.d true (.int .i64 0),.d true (.int .i64 0),.d true (.int .i64 0),.nil,.d true (.int .i64 0),.d true (.int .i64 0),.d true (.int .i64 0),.d true (.int .i64 0)]⟩
  | 60=>some ⟨(.slice 124),1,24,[.nil]⟩
  | 61=>some ⟨(.struct [(0,60)]),1,24,[.nil]⟩
  | 62=>some ⟨(.struct [(0,60)]),1,24,[.nil]⟩
  | 67=>some ⟨(.struct [(0,3),(1,3),(2,3),(3,3),(4,3)]),5,40,[.d true (.int .i64 0),.d true (.int .i64 0),.d true (.int .i64 0),.d true (.int .i64 0),.d true (.int .i64 0)]⟩
  | 68=>some ⟨(.struct [(0,3),(1,3),(2,3),(3,3),(4,3)]),5,40,[.d true (.int .i64 0),.d true (.int .i64 0),.d true (.int .i64 0),.d true (.int .i64 0),.d true (.int .i64 0)]⟩
  | 69=>some ⟨(.struct [(0,3),(1,3),(2,27),(3,27),(4,24)]),5,88,[.d true (.int .i64 0),.d true (.int .i64 0),.nil,.nil,.nil]⟩
  | 70=>some ⟨(.struct [(0,3),(1,3),(2,27),(3,27),(4,24)]),5,88,[.d true (.int .i64 0),.d true (.int .i64 0),.nil,.nil,.nil]⟩
  | 75=>some ⟨(.slice 4),1,24,[.nil]⟩
  | 78=>some ⟨.scalar,1,8,[.np]⟩
  | 93=>some ⟨(.slice 3),1,24,[.nil]⟩
  | 94=>some ⟨(.struct [(0,3),(1,93)]),2,32,[.d true (.int .i64 0),.nil]⟩
  | 95=>some ⟨(.struct [(0,3),(1,93)]),2,32,[.d true (.int .i64 0),.nil]⟩
  | 102=>some ⟨(.int .u64),1,8,[.d true (.int .u64 0)]⟩
  | 111=>some ⟨.scalar,1,8,[.np]⟩
  | 112=>some ⟨(.struct [(0,62),(1,4)]),2,32,[.nil,.d true (.bool false)]⟩
  | 113=>some ⟨(.struct [(0,62),(1,4)]),2,32,[.nil,.d true (.bool false)]⟩
  | 123=>some ⟨(.struct [(0,3),(1,3),(2,27),(3,27)]),4,64,[.d true (.int .i64 0),.d true (.int .i64 0),.nil,.nil]⟩
  | 124=>some ⟨(.struct [(0,3),(1,3),(2,27),(3,27)]),4,64,[.d true (.int .i64 0),.d true (.int .i64 0),.nil,.nil]⟩
  | 135=>some ⟨(.struct [(0,22),(1,3)]),2,32,[.nil,.d true (.int .i64 0)]⟩
  | 136=>some ⟨(.struct [(0,22),(1,3)]),2,32,[.nil,.d true (.int .i64 0)]⟩
  | 149=>some ⟨(.slice 177),1,24,[.nil]⟩
  | 169=>some ⟨.scalar,1,8,[.np]⟩
  | 176=>some ⟨(.struct [(0,3),(1,3),(2,3),(3,3)]),4,32,[.d true (.int .i64 0),.d true (.int .i64 0),.d true (.int .i64 0),.d true (.int .i64 0)]⟩
  | 177=>some ⟨(.struct [(0,3),(1,3),(2,3),(3,3)]),4,32,[.d true (.int .i64 0),.d true (.int .i64 0),.d true (.int .i64 0),.d true (.int .i64 0)]⟩
  | 201=>some ⟨(.slice 25),1,24,[.nil]⟩
  | 203=>some ⟨(.slice 93),1,24,[.nil]⟩
  | 209=>some ⟨(.int .i64),1,8,[.d true (.int .i64 0)]⟩
  | 216=>some ⟨(.int .u32),1,4,[.d true (.int .u32 0)]⟩
  | 218=>some ⟨(.int .u64),1,8,[.d true (.int .u64 0)]⟩
  | 221=>some ⟨(.int .u64),1,8,[.d true (.int .u64 0)]⟩
  | 225=>some ⟨.scalar,1,8,[.np]⟩
  | 227=>some ⟨.scalar,1,8,[.np]⟩
  | 231=>some ⟨(.struct [(0,17),(1,17),(2,17),(3,9)]),4,40,[.np,.np,.np,.d true (.str ⟨#[]⟩)]⟩
  | 232=>some ⟨(.struct [(0,17),(1,17),(2,17),(3,9)]),4,40,[.np,.np,.np,.d true (.str ⟨#[]⟩)]⟩
  | 237=>some ⟨(.int .u8),1,1,[.d true (.int .u8 0)]⟩
  | 238=>some ⟨(.int .u8),1,1,[.d true (.int .u8 0)]⟩
  | 240=>some ⟨.scalar,1,8,[.np]⟩
  | 241=>some ⟨(.int .i32),1,4,[.d true (.int .i32 0)]⟩
  | 242=>some ⟨(.int .i32),1,4,[.d true (.int .i32 0)]⟩
  | _=>none
theorem ok2:bW Tryz.prog 2 ⟨(.int .i64),1,8,[.d true (.int .i64 0)]⟩:=⟨⟨Tryz.t2,by kernel_rfl,rfl,rfl,_,rfl,fun c w=>aH (by rfl)⟩,Tryz.underlying2,rfl⟩
theorem ok3:bW Tryz.prog 3 ⟨(.int .i64),1,8,[.d true (.int .i64 0)]⟩:=⟨⟨Tryz.t3,by kernel_rfl,rfl,rfl,_,rfl,fun c w=>aH (by rfl)⟩,Tryz.underlying3,rfl⟩
theorem ok4:bW Tryz.prog 4 ⟨.bool,1,1,[.d true (.bool false)]⟩:=⟨⟨Tryz.t4,by kernel_rfl,rfl,rfl,_,rfl,fun c w=>aH (by rfl)⟩,Tryz.underlying4,rfl⟩
theorem ok5:bW Tryz.prog 5 ⟨(.int .u8),1,1,[.d true (.int .u8 0)]⟩:=⟨⟨Tryz.t5,by kernel_rfl,rfl,rfl,_,rfl,fun c w=>aH (by rfl)⟩,Tryz.underlying5,rfl⟩
theorem ok6:bW Tryz.prog 6 ⟨(.int .u8),1,1,[.d true (.int .u8 0)]⟩:=⟨⟨Tryz.t6,by kernel_rfl,rfl,rfl,_,rfl,fun c w=>aH (by rfl)⟩,Tryz.underlying6,rfl⟩
theorem ok7:bW Tryz.prog 7 ⟨(.struct [(0,2),(1,3),(2,4),(3,6)]),4,24,[.d true (.int .i64 0),.d true (.int .i64 0),.d true (.bool false),.d true (.int .u8 0)]⟩:=⟨⟨Tryz.t7,by kernel_rfl,rfl,rfl,_,rfl,fun c w=>aH (by rfl)⟩,⟨_,Tryz.underlying7,by rfl⟩,rfl⟩
theorem ok8:bW Tryz.prog 8 ⟨(.struct [(0,2),(1,3),(2,4),(3,6)]),4,24,[.d true (.int .i64 0),.d true (.int .i64 0),.d true (.bool false),.d true (.int .u8 0)]⟩:=⟨⟨Tryz.t8,by kernel_rfl,rfl,rfl,_,rfl,fun c w=>aH (by rfl)⟩,⟨_,Tryz.underlying8,by rfl⟩,rfl⟩
theorem ok9:bW Tryz.prog 9 ⟨.scalar,1,16,[.d true (.str ⟨#[]⟩)]⟩:=⟨⟨Tryz.t9,by kernel_rfl,rfl,rfl,_,rfl,fun c w=>aH (by rfl)⟩,⟨_,Tryz.underlying9,(fun _ h=>by cases h),(fun _ _ h=>by cases h)⟩,rfl⟩
theorem aqV:bW Tryz.prog 10 ⟨.scalar,1,16,[.d true (.str ⟨#[]⟩)]⟩:=⟨⟨Tryz.t10,by kernel_rfl,rfl,rfl,_,rfl,fun c w=>aH (by rfl)⟩,⟨_,Tryz.underlying10,(fun _ h=>by cases h),(fun _ _ h=>by cases h)⟩,rfl⟩
theorem aqW:bW Tryz.prog 11 ⟨.scalar,1,16,[.d true (.str ⟨#[]⟩)]⟩:=⟨⟨Tryz.t11,by kernel_rfl,rfl,rfl,_,rfl,fun c w=>aH (by rfl)⟩,⟨_,Tryz.underlying11,(fun _ h=>by cases h),(fun _ _ h=>by cases h)⟩,rfl⟩
theorem aqX:bW Tryz.prog 12 ⟨(.int .u64),1,8,[.d true (.int .u64 0)]⟩:=⟨⟨Tryz.t12,by kernel_rfl,rfl,rfl,_,rfl,fun c w=>aH (by rfl)⟩,Tryz.underlying12,rfl⟩
theorem aqY:bW Tryz.prog 13 ⟨(.struct [(0,9),(1,12)]),2,24,[.d true (.str ⟨#[]⟩),.d true (.int .u64 0)]⟩:=⟨⟨Tryz.t13,by kernel_rfl,rfl,rfl,_,rfl,fun c w=>aH (by rfl)⟩,⟨_,Tryz.underlying13,by rfl⟩,rfl⟩
theorem aqZ:bW Tryz.prog 14 ⟨(.struct [(0,9),(1,12)]),2,24,[.d true (.str ⟨#[]⟩),.d true (.int .u64 0)]⟩:=⟨⟨Tryz.t14,by kernel_rfl,rfl,rfl,_,rfl,fun c w=>aH (by rfl)⟩,⟨_,Tryz.underlying14,by rfl⟩,rfl⟩
theorem aq0:bW Tryz.prog 15 ⟨.scalar,1,8,[.np]⟩:=⟨⟨Tryz.t15,by kernel_rfl,rfl,rfl,_,rfl,fun c w=>aH (by rfl)⟩,⟨_,Tryz.underlying15,(fun _ h=>by cases h),(fun _ _ h=>by cases h)⟩,rfl⟩
theorem ok16:bW Tryz.prog 16 ⟨.scalar,1,8,[.np]⟩:=⟨⟨Tryz.t16,by kernel_rfl,rfl,rfl,_,rfl,fun c w=>aH (by rfl)⟩,⟨_,Tryz.underlying16,(fun _ h=>by cases h),(fun _ _ h=>by cases h)⟩,rfl⟩
theorem aq1:bW Tryz.prog 17 ⟨.scalar,1,8,[.np]⟩:=⟨⟨Tryz.t17,by kernel_rfl,rfl,rfl,_,rfl,fun c w=>aH (by rfl)⟩,⟨_,Tryz.underlying17,(fun _ h=>by cases h),(fun _ _ h=>by cases h)⟩,rfl⟩
theorem aq2:bW Tryz.prog 18 ⟨(.struct [(0,17)]),1,8,[.np]⟩:=⟨⟨Tryz.t18,by kernel_rfl,rfl,rfl,_,rfl,fun c w=>aH (by rfl)⟩,⟨_,Tryz.underlying18,by rfl⟩,rfl⟩
theorem aq3:bW Tryz.prog 19 ⟨(.struct [(0,17)]),1,8,[.np]⟩:=⟨⟨Tryz.t19,by kernel_rfl,rfl,rfl,_,rfl,fun c w=>aH (by rfl)⟩,⟨_,Tryz.underlying19,by rfl⟩,rfl⟩
theorem aq4:bW Tryz.prog 21 ⟨(.int .i32),1,4,[.d true (.int .i32 0)]⟩:=⟨⟨Tryz.t21,by kernel_rfl,rfl,rfl,_,rfl,fun c w=>aH (by rfl)⟩,Tryz.underlying21,rfl⟩
theorem aq5:bW Tryz.prog 22 ⟨(.slice 5),1,24,[.nil]⟩:=⟨⟨Tryz.t22,by kernel_rfl,rfl,rfl,_,rfl,fun c w=>aH (by rfl)⟩,Tryz.underlying22,rfl⟩
theorem aq6:bW Tryz.prog 23 ⟨(.slice 70),1,24,[.nil]⟩:=⟨⟨Tryz.t23,by kernel_rfl,rfl,rfl,_,rfl,fun c w=>aH (by rfl)⟩,Tryz.underlying23,rfl⟩
theorem aq7:bW Tryz.prog 24 ⟨(.slice 27),1,24,[.nil]⟩:=⟨⟨Tryz.t24,by kernel_rfl,rfl,rfl,_,rfl,fun c w=>aH (by rfl)⟩,Tryz.underlying24,rfl⟩
theorem aq8:bW Tryz.prog 25 ⟨(.slice 95),1,24,[.nil]⟩:=⟨⟨Tryz.t25,by kernel_rfl,rfl,rfl,_,rfl,fun c w=>aH (by rfl)⟩,Tryz.underlying25,rfl⟩
theorem aq9:bW Tryz.prog 26 ⟨(.struct [(0,25)]),1,24,[.nil]⟩:=⟨⟨Tryz.t26,by kernel_rfl,rfl,rfl,_,rfl,fun c w=>aH (by rfl)⟩,⟨_,Tryz.underlying26,by rfl⟩,rfl⟩
theorem ara:bW Tryz.prog 27 ⟨(.struct [(0,25)]),1,24,[.nil]⟩:=⟨⟨Tryz.t27,by kernel_rfl,rfl,rfl,_,rfl,fun c w=>aH (by rfl)⟩,⟨_,Tryz.underlying27,by rfl⟩,rfl⟩
theorem arb:bW Tryz.prog 28 ⟨(.struct [(0,23),(1,24),(2,3),(3,27),(4,27),(5,3)]),6,112,[.nil,.nil,.d true (.int .i64 0),.nil,.nil,.d true (.int .i64 0)]⟩:=⟨⟨Tryz.t28,by kernel_rfl,rfl,rfl,_,rfl,fun c w=>aH (by rfl)⟩,⟨_,Tryz.underlying28,by rfl⟩,rfl⟩
theorem ard:bW Tryz.prog 29 ⟨(.struct [(0,23),(1,24),(2,3),(3,27),(4,27),(5,3)]),6,112,[.nil,.nil,.d true (.int .i64 0),.nil,.nil,.d true (.int .i64 0)]⟩:=⟨⟨Tryz.t29,by kernel_rfl,rfl,rfl,_,rfl,fun c w=>aH (by rfl)⟩,⟨_,Tryz.underlying29,by rfl⟩,rfl⟩
theorem arf:bW Tryz.prog 42 ⟨(.slice 68),1,24,[.nil]⟩:=⟨⟨Tryz.t42,by kernel_rfl,rfl,rfl,_,rfl,fun c w=>aH (by rfl)⟩,Tryz.underlying42,rfl⟩
theorem arh:bW Tryz.prog 43 ⟨(.struct [(0,3),(1,3),(2,42),(3,3),(4,3),(5,3),(6,3)]),7,72,[.d true (.int .i64 0),.d true (.int .i64 0),.nil,.d true (.int .i64 0),.d true (.int .i64 0),.d true (.int .i64 0),.d true (.int .i64 0)]⟩:=⟨⟨Tryz.t43,by kernel_rfl,rfl,rfl,_,rfl,fun c w=>aH (by rfl)⟩,⟨_,Tryz.underlying43,by rfl⟩,rfl⟩
theorem ari:bW Tryz.prog 44 ⟨(.struct [(0,3),(1,3),(2,42),(3,3),(4,3),(5,3),(6,3)]),7,72,[.d true (.int .i64 0),.d true (.int .i64 0),.nil,.d true (.int .i64 0),.d true (.int .i64 0),.d true (.int .i64 0),.d true (.int .i64 0)]⟩:=⟨⟨Tryz.t44,by kernel_rfl,rfl,rfl,_,rfl,fun c w=>aH (by rfl)⟩,⟨_,Tryz.underlying44,by rfl⟩,rfl⟩
theorem arj:bW Tryz.prog 53 ⟨(.slice 58),1,24,[.nil]⟩:=⟨⟨Tryz.t53,by kernel_rfl,rfl,rfl,_,rfl,fun c w=>aH (by rfl)⟩,Tryz.underlying53,rfl⟩
theorem ark:bW Tryz.prog 57 ⟨(.struct [(0,44),(7,44)]),14,144,[.d true (.int .i64 0),.d true (.int .i64 0),.nil,.d true (.int .i64 0),.d true (.int .i64 0),.d true (.int .i64 0),.d true (.int .i64 0),.d true (.int .i64 0),.d true (.int .i64 0),.nil,.d true (.int .i64 0),.d true (.int .i64 0),.d true (.int .i64 0),.d true (.int .i64 0)]⟩:=⟨⟨Tryz.t57,by kernel_rfl,rfl,rfl,_,rfl,fun c w=>aH (by rfl)⟩,⟨_,Tryz.underlying57,by rfl⟩,rfl⟩
theorem arl:bW Tryz.prog 58 ⟨(.struct [(0,44),(7,44)]),14,144,[.d true (.int .i64 0),.d true (.int .i64 0),.nil,.d true (.int .i64 0),.d true (.int .i64 0),.d true (.int .i64 0),.d true (.int .i64 0),.d true (.int .i64 0),.d true (.int .i64 0),.nil,.d true (.int .i64 0),.d true (.int .i64 0),.d true (.int .i64 0),.d true (.int .i64 0)]⟩:=⟨⟨Tryz.t58,by kernel_rfl,rfl,rfl,_,rfl,fun c w=>aH (by rfl)⟩,⟨_,Tryz.underlying58,by rfl⟩,rfl⟩
theorem arn:bW Tryz.prog 60 ⟨(.slice 124),1,24,[.nil]⟩:=⟨⟨Tryz.t60,by kernel_rfl,rfl,rfl,_,rfl,fun c w=>aH (by rfl)⟩,Tryz.underlying60,rfl⟩
theorem aro:bW Tryz.prog 61 ⟨(.struct [(0,60)]),1,24,[.nil]⟩:=⟨⟨Tryz.t61,by kernel_rfl,rfl,rfl,_,rfl,fun c w=>aH (by rfl)⟩,⟨_,Tryz.underlying61,by rfl⟩,rfl⟩
theorem arp:bW Tryz.prog 62 ⟨(.struct [(0,60)]),1,24,[.nil]⟩:=⟨⟨Tryz.t62,by kernel_rfl,rfl,rfl,_,rfl,fun c w=>aH (by rfl)⟩,⟨_,Tryz.underlying62,by rfl⟩,rfl⟩
theorem arq:bW Tryz.prog 67 ⟨(.struct [(0,3),(1,3),(2,3),(3,3),(4,3)]),5,40,[.d true (.int .i64 0),.d true (.int .i64 0),.d true (.int .i64 0),.d true (.int .i64 0),.d true (.int .i64 0)]⟩:=⟨⟨Tryz.t67,by kernel_rfl,rfl,rfl,_,rfl,fun c w=>aH (by rfl)⟩,⟨_,Tryz.underlying67,by rfl⟩,rfl⟩
theorem ars:bW Tryz.prog 68 ⟨(.struct [(0,3),(1,3),(2,3),(3,3),(4,3)]),5,40,[.d true (.int .i64 0),.d true (.int .i64 0),.d true (.int .i64 0),.d true (.int .i64 0),.d true (.int .i64 0)]⟩:=⟨⟨Tryz.t68,by kernel_rfl,rfl,rfl,_,rfl,fun c w=>aH (by rfl)⟩,⟨_,Tryz.underlying68,by rfl⟩,rfl⟩
theorem aru:bW Tryz.prog 69 ⟨(.struct [(0,3),(1,3),(2,27),(3,27),(4,24)]),5,88,[.d true (.int .i64 0),.d true (.int .i64 0),.nil,.nil,.nil]⟩:=⟨⟨Tryz.t69,by kernel_rfl,rfl,rfl,_,rfl,fun c w=>aH (by rfl)⟩,⟨_,Tryz.underlying69,by rfl⟩,rfl⟩
theorem arv:bW Tryz.prog 70 ⟨(.struct [(0,3),(1,3),(2,27),(3,27),(4,24)]),5,88,[.d true (.int .i64 0),.d true (.int .i64 0),.nil,.nil,.nil]⟩:=⟨⟨Tryz.t70,by kernel_rfl,rfl,rfl,_,rfl,fun c w=>aH (by rfl)⟩,⟨_,Tryz.underlying70,by rfl⟩,rfl⟩
theorem arw:bW Tryz.prog 75 ⟨(.slice 4),1,24,[.nil]⟩:=⟨⟨Tryz.t75,by kernel_rfl,rfl,rfl,_,rfl,fun c w=>aH (by rfl)⟩,Tryz.underlying75,rfl⟩
theorem arx:bW Tryz.prog 78 ⟨.scalar,1,8,[.np]⟩:=⟨⟨Tryz.t78,by kernel_rfl,rfl,rfl,_,rfl,fun c w=>aH (by rfl)⟩,⟨_,Tryz.underlying78,(fun _ h=>by cases h),(fun _ _ h=>by cases h)⟩,rfl⟩
theorem arz:bW Tryz.prog 93 ⟨(.slice 3),1,24,[.nil]⟩:=⟨⟨Tryz.t93,by kernel_rfl,rfl,rfl,_,rfl,fun c w=>aH (by rfl)⟩,Tryz.underlying93,rfl⟩
theorem arA:bW Tryz.prog 94 ⟨(.struct [(0,3),(1,93)]),2,32,[.d true (.int .i64 0),.nil]⟩:=⟨⟨Tryz.t94,by kernel_rfl,rfl,rfl,_,rfl,fun c w=>aH (by rfl)⟩,⟨_,Tryz.underlying94,by rfl⟩,rfl⟩
theorem arB:bW Tryz.prog 95 ⟨(.struct [(0,3),(1,93)]),2,32,[.d true (.int .i64 0),.nil]⟩:=⟨⟨Tryz.t95,by kernel_rfl,rfl,rfl,_,rfl,fun c w=>aH (by rfl)⟩,⟨_,Tryz.underlying95,by rfl⟩,rfl⟩
theorem aoD:bW Tryz.prog 102 ⟨(.int .u64),1,8,[.d true (.int .u64 0)]⟩:=⟨⟨Tryz.t102,by kernel_rfl,rfl,rfl,_,rfl,fun c w=>aH (by rfl)⟩,Tryz.underlying102,rfl⟩
theorem aoE:bW Tryz.prog 111 ⟨.scalar,1,8,[.np]⟩:=⟨⟨Tryz.t111,by kernel_rfl,rfl,rfl,_,rfl,fun c w=>aH (by rfl)⟩,⟨_,Tryz.underlying111,(fun _ h=>by cases h),(fun _ _ h=>by cases h)⟩,rfl⟩
theorem aoF:bW Tryz.prog 112 ⟨(.struct [(0,62),(1,4)]),2,32,[.nil,.d true (.bool false)]⟩:=⟨⟨Tryz.t112,by kernel_rfl,rfl,rfl,_,rfl,fun c w=>aH (by rfl)⟩,⟨_,Tryz.underlying112,by rfl⟩,rfl⟩
theorem aoG:bW Tryz.prog 113 ⟨(.struct [(0,62),(1,4)]),2,32,[.nil,.d true (.bool false)]⟩:=⟨⟨Tryz.t113,by kernel_rfl,rfl,rfl,_,rfl,fun c w=>aH (by rfl)⟩,⟨_,Tryz.underlying113,by rfl⟩,rfl⟩
theorem aoH:bW Tryz.prog 123 ⟨(.struct [(0,3),(1,3),(2,27),(3,27)]),4,64,[.d true (.int .i64 0),.d true (.int .i64 0),.nil,.nil]⟩:=⟨⟨Tryz.t123,by kernel_rfl,rfl,rfl,_,rfl,fun c w=>aH (by rfl)⟩,⟨_,Tryz.underlying123,by rfl⟩,rfl⟩
theorem aoI:bW Tryz.prog 124 ⟨(.struct [(0,3),(1,3),(2,27),(3,27)]),4,64,[.d true (.int .i64 0),.d true (.int .i64 0),.nil,.nil]⟩:=⟨⟨Tryz.t124,by kernel_rfl,rfl,rfl,_,rfl,fun c w=>aH (by rfl)⟩,⟨_,Tryz.underlying124,by rfl⟩,rfl⟩
theorem aoJ:bW Tryz.prog 135 ⟨(.struct [(0,22),(1,3)]),2,32,[.nil,.d true (.int .i64 0)]⟩:=⟨⟨Tryz.t135,by kernel_rfl,rfl,rfl,_,rfl,fun c w=>aH (by rfl)⟩,⟨_,Tryz.underlying135,by rfl⟩,rfl⟩
theorem aoK:bW Tryz.prog 136 ⟨(.struct [(0,22),(1,3)]),2,32,[.nil,.d true (.int .i64 0)]⟩:=⟨⟨Tryz.t136,by kernel_rfl,rfl,rfl,_,rfl,fun c w=>aH (by rfl)⟩,⟨_,Tryz.underlying136,by rfl⟩,rfl⟩
theorem aoL:bW Tryz.prog 149 ⟨(.slice 177),1,24,[.nil]⟩:=⟨⟨Tryz.t149,by kernel_rfl,rfl,rfl,_,rfl,fun c w=>aH (by rfl)⟩,Tryz.underlying149,rfl⟩
theorem aoM:bW Tryz.prog 169 ⟨.scalar,1,8,[.np]⟩:=⟨⟨Tryz.t169,by kernel_rfl,rfl,rfl,_,rfl,fun c w=>aH (by rfl)⟩,⟨_,Tryz.underlying169,(fun _ h=>by cases h),(fun _ _ h=>by cases h)⟩,rfl⟩
theorem aoN:bW Tryz.prog 176 ⟨(.struct [(0,3),(1,3),(2,3),(3,3)]),4,32,[.d true (.int .i64 0),.d true (.int .i64 0),.d true (.int .i64 0),.d true (.int .i64 0)]⟩:=⟨⟨Tryz.t176,by kernel_rfl,rfl,rfl,_,rfl,fun c w=>aH (by rfl)⟩,⟨_,Tryz.underlying176,by rfl⟩,rfl⟩
theorem aoO:bW Tryz.prog 177 ⟨(.struct [(0,3),(1,3),(2,3),(3,3)]),4,32,[.d true (.int .i64 0),.d true (.int .i64 0),.d true (.int .i64 0),.d true (.int .i64 0)]⟩:=⟨⟨Tryz.t177,by kernel_rfl,rfl,rfl,_,rfl,fun c w=>aH (by rfl)⟩,⟨_,Tryz.underlying177,by rfl⟩,rfl⟩
theorem aoP:bW Tryz.prog 201 ⟨(.slice 25),1,24,[.nil]⟩:=⟨⟨Tryz.t201,by kernel_rfl,rfl,rfl,_,rfl,fun c w=>aH (by rfl)⟩,Tryz.underlying201,rfl⟩
theorem aoQ:bW Tryz.prog 203 ⟨(.slice 93),1,24,[.nil]⟩:=⟨⟨Tryz.t203,by kernel_rfl,rfl,rfl,_,rfl,fun c w=>aH (by rfl)⟩,Tryz.underlying203,rfl⟩
theorem aoR:bW Tryz.prog 209 ⟨(.int .i64),1,8,[.d true (.int .i64 0)]⟩:=⟨⟨Tryz.t209,by kernel_rfl,rfl,rfl,_,rfl,fun c w=>aH (by rfl)⟩,Tryz.underlying209,rfl⟩
theorem aoS:bW Tryz.prog 216 ⟨(.int .u32),1,4,[.d true (.int .u32 0)]⟩:=⟨⟨Tryz.t216,by kernel_rfl,rfl,rfl,_,rfl,fun c w=>aH (by rfl)⟩,Tryz.underlying216,rfl⟩
theorem aoT:bW Tryz.prog 218 ⟨(.int .u64),1,8,[.d true (.int .u64 0)]⟩:=⟨⟨Tryz.t218,by kernel_rfl,rfl,rfl,_,rfl,fun c w=>aH (by rfl)⟩,Tryz.underlying218,rfl⟩
theorem aoU:bW Tryz.prog 221 ⟨(.int .u64),1,8,[.d true (.int .u64 0)]⟩:=⟨⟨Tryz.t221,by kernel_rfl,rfl,rfl,_,rfl,fun c w=>aH (by rfl)⟩,Tryz.underlying221,rfl⟩
theorem aoV:bW Tryz.prog 225 ⟨.scalar,1,8,[.np]⟩:=⟨⟨Tryz.t225,by kernel_rfl,rfl,rfl,_,rfl,fun c w=>aH (by rfl)⟩,⟨_,Tryz.underlying225,(fun _ h=>by cases h),(fun _ _ h=>by cases h)⟩,rfl⟩
theorem aoW:bW Tryz.prog 227 ⟨.scalar,1,8,[.np]⟩:=⟨⟨Tryz.t227,by kernel_rfl,rfl,rfl,_,rfl,fun c w=>aH (by rfl)⟩,⟨_,Tryz.underlying227,(fun _ h=>by cases h),(fun _ _ h=>by cases h)⟩,rfl⟩
theorem aoX:bW Tryz.prog 231 ⟨(.struct [(0,17),(1,17),(2,17),(3,9)]),4,40,[.np,.np,.np,.d true (.str ⟨#[]⟩)]⟩:=⟨⟨Tryz.t231,by kernel_rfl,rfl,rfl,_,rfl,fun c w=>aH (by rfl)⟩,⟨_,Tryz.underlying231,by rfl⟩,rfl⟩
theorem aoY:bW Tryz.prog 232 ⟨(.struct [(0,17),(1,17),(2,17),(3,9)]),4,40,[.np,.np,.np,.d true (.str ⟨#[]⟩)]⟩:=⟨⟨Tryz.t232,by kernel_rfl,rfl,rfl,_,rfl,fun c w=>aH (by rfl)⟩,⟨_,Tryz.underlying232,by rfl⟩,rfl⟩
theorem aoZ:bW Tryz.prog 237 ⟨(.int .u8),1,1,[.d true (.int .u8 0)]⟩:=⟨⟨Tryz.t237,by kernel_rfl,rfl,rfl,_,rfl,fun c w=>aH (by rfl)⟩,Tryz.underlying237,rfl⟩
theorem ao0:bW Tryz.prog 238 ⟨(.int .u8),1,1,[.d true (.int .u8 0)]⟩:=⟨⟨Tryz.t238,by kernel_rfl,rfl,rfl,_,rfl,fun c w=>aH (by rfl)⟩,Tryz.underlying238,rfl⟩
theorem ao1:bW Tryz.prog 240 ⟨.scalar,1,8,[.np]⟩:=⟨⟨Tryz.t240,by kernel_rfl,rfl,rfl,_,rfl,fun c w=>aH (by rfl)⟩,⟨_,Tryz.underlying240,(fun _ h=>by cases h),(fun _ _ h=>by cases h)⟩,rfl⟩
theorem ao2:bW Tryz.prog 241 ⟨(.int .i32),1,4,[.d true (.int .i32 0)]⟩:=⟨⟨Tryz.t241,by kernel_rfl,rfl,rfl,_,rfl,fun c w=>aH (by rfl)⟩,Tryz.underlying241,rfl⟩
theorem ao3:bW Tryz.prog 242 ⟨(.int .i32),1,4,[.d true (.int .i32 0)]⟩:=⟨⟨Tryz.t242,by kernel_rfl,rfl,rfl,_,rfl,fun c w=>aH (by rfl)⟩,Tryz.underlying242,rfl⟩
theorem arC:∀t y,ty t=some y→bW Tryz.prog t y:=by
  intro t y h
  unfold ty at h
  split at h<;>first | (cases h;done) | skip
  · cases h;exact ok2
  · cases h;exact ok3
  · cases h;exact ok4
  · cases h;exact ok5
  · cases h;exact ok6
  · cases h;exact ok7
  · cases h;exact ok8
  · cases h;exact ok9
  · cases h;exact aqV
  · cases h;exact aqW
  · cases h;exact aqX
  · cases h;exact aqY
  · cases h;exact aqZ
  · cases h;exact aq0
  · cases h;exact ok16
  · cases h;exact aq1
  · cases h;exact aq2
  · cases h;exact aq3
  · cases h;exact aq4
  · cases h;exact aq5
  · cases h;exact aq6
  · cases h;exact aq7
  · cases h;exact aq8
  · cases h;exact aq9
  · cases h;exact ara
  · cases h;exact arb
  · cases h;exact ard
  · cases h;exact arf
  · cases h;exact arh
  · cases h;exact ari
  · cases h;exact arj
  · cases h;exact ark
  · cases h;exact arl
  · cases h;exact arn
  · cases h;exact aro
  · cases h;exact arp
  · cases h;exact arq
  · cases h;exact ars
  · cases h;exact aru
  · cases h;exact arv
  · cases h;exact arw
  · cases h;exact arx
  · cases h;exact arz
  · cases h;exact arA
  · cases h;exact arB
  · cases h;exact aoD
  · cases h;exact aoE
  · cases h;exact aoF
  · cases h;exact aoG
  · cases h;exact aoH
  · cases h;exact aoI
  · cases h;exact aoJ
  · cases h;exact aoK
  · cases h;exact aoL
  · cases h;exact aoM
  · cases h;exact aoN
  · cases h;exact aoO
  · cases h;exact aoP
  · cases h;exact aoQ
  · cases h;exact aoR
  · cases h;exact aoS
  · cases h;exact aoT
  · cases h;exact aoU
  · cases h;exact aoV
  · cases h;exact aoW
  · cases h;exact aoX
  · cases h;exact aoY
  · cases h;exact aoZ
  · cases h;exact ao0
  · cases h;exact ao1
  · cases h;exact ao2
  · cases h;exact ao3
def co:TypeId→Option Co
  | 3=>some .i64
  | 4=>some .bool
  | 5=>some .u8
  | 9=>some .str
  | 25=>some .poly
  | 27=>some .poly
  | 29=>some .sym
  | 44=>some .blk
  | 58=>some .cer
  | 62=>some .tab
  | 68=>some .iop
  | 70=>some .ev
  | 93=>some .ints
  | 95=>some .mono
  | 124=>some .atom
  | 177=>some .ins
  | _=>none
def ieq:TypeId→Option Co
  | 68=>some .iop
  | 177=>some .ins
  | _=>none
def X:XT:={ty:=ty,co:=co,glob:=fun g=>none,ieq:=ieq}
noncomputable def E:Tab:={P:=Tryz.prog,ty:=ty,glob:=fun g=>none,ieq:=fun t=>(ieq t).map fun c=>c.size}
end Go.TX.Seat
namespace Go.TX.Seat
open Go Go.AE Go.TX Go.TX.F Go.Proofs
set_option maxRecDepth 100000
theorem akC (A:Alg): @Ru aI.z X E A [] (.seq .u (.seq (.seq .u (.cut ⟨[(0,.c (.rows true .u8))],[]⟩ (.cond .u .u))) .u)) BA Tryz.f59 [] (Ga A):=fun _=>by kernel_rfl
theorem akD (A:Alg): @Ru aI.z X E A [(7,[(0,([0],[])),(1,([47],[])),(2,([48],[])),(3,([49],[])),(4,([5],[])),(5,([0],[])),(6,([52],[])),(7,([53],[])),(8,([54],[])),(9,([55],[])),(10,([51,56],[])),(11,([50,57],[])),(12,([58],[])),(13,([59],[])),(14,([60],[])),(15,([0],[])),(16,([62],[])),(17,([63],[])),(18,([64],[])),(19,([5],[])),(20,([66],[])),(21,([67],[])),(22,([0],[])),(23,([69],[])),(24,([70],[])),(25,([71],[])),(26,([72],[])),(27,([68,73],[])),(28,([65,74],[])),(29,([75],[])),(30,([76],[])),(31,([77],[])),(32,([61,78],[])),(33,([5],[])),(34,([80],[])),(35,([79,81],[])),(36,([5],[])),(37,([0],[])),(38,([84],[])),(39,([85],[])),(40,([86],[])),(41,([87],[])),(42,([83,88],[])),(43,([89],[])),(44,([82,90],[])),(45,([91],[]))])] .u bY Tryz.f61 [] (Gb A):=fun _=>by kernel_rfl
theorem akE (A:Alg): @Ru aI.z X E A [] .u bR Tryz.f89 [] (Gc A):=fun _=>by kernel_rfl
theorem akF (A:Alg) (aC:Ct A.ah bR): @Ru aI.z X E A [] .u ug Tryz.f62 [(89,⟨_,aC⟩)] (Gd A aC.pre aC.fn):=fun _=>by kernel_rfl
theorem akG (A:Alg) (aD:Ct A.ah bY): @Ru aI.z X E A [] .u BD Tryz.f63 [(61,⟨_,aD⟩)] (Gf A aD.pre aD.fn):=fun _=>by kernel_rfl
theorem akH (A:Alg) (aD:Ct A.ah bY): @Ru aI.z X E A [] .u uh Tryz.f158 [(61,⟨_,aD⟩)] (Gg A aD.pre aD.fn):=fun _=>by kernel_rfl
theorem akI (A:Alg) (aC:Ct A.ah bR): @Ru aI.z X E A [(6,[(0,([1],[])),(1,([21],[])),(2,([3],[])),(3,([22,23],[])),(4,([24],[])),(5,([25],[])),(6,([26],[])),(7,([27],[])),(8,([3,28],[])),(9,([28,29],[])),(10,([28,30],[])),(11,([1,31],[])),(12,([31,32],[])),(13,([3,31],[])),(14,([31,34],[])),(15,([31,33,35],[])),(16,([31,36],[])),(17,([1,31],[])),(18,([31,38],[])),(19,([3,31],[])),(20,([31,39,40],[])),(21,([31,41],[])),(22,([31,37,42],[])),(23,([28,31,43],[])),(24,([28,44],[]))])] (.seq .u (.seq .u (.seq (.seq .u (.block (.loop ⟨[(1,.c (.pb 0 2 0)),(3,.c (.int .i64))],[.box (.sv false .mono)]⟩ .u))) .u))) BF Tryz.f76 [(89,⟨_,aC⟩)] (Gh A aC.pre aC.fn):=fun _=>by kernel_rfl
theorem akJ (A:Alg): @Ru aI.z X E A [(8,[(0,([0],[])),(1,([5],[])),(2,([22,23],[])),(3,([24],[])),(4,([1],[])),(5,([5],[])),(6,([26,27],[])),(7,([28],[])),(8,([25,29],[]))]),(10,[(0,([0],[])),(1,([5],[])),(2,([31,32],[])),(3,([33],[])),(4,([1],[])),(5,([5],[])),(6,([35,36],[])),(7,([37],[])),(8,([34,38],[]))])] (.seq .u (.seq .u (.seq (.seq .u (.block (.loop ⟨[(0,.c (.rows false .i64)),(1,.c (.rows false .i64)),(5,.c (.int .i64))],[]⟩ .u))) .u))) mU Tryz.f77 [] (Gi A):=fun _=>by kernel_rfl
theorem akK (A:Alg) (pF:Ct A.ah BF) (dS:Ct A.ah mU): @Ru aI.z X E A [(6,[(0,([1],[])),(1,([15],[])),(2,([3],[])),(3,([16,17],[])),(4,([18],[])),(5,([19],[])),(6,([20],[])),(7,([21],[])),(8,([3,22],[])),(9,([22,23],[])),(10,([22,24],[])),(11,([1,25],[])),(12,([25,26],[])),(13,([3,25],[])),(14,([25,28],[])),(15,([25,27,29],[])),(16,([25,30],[])),(17,([25,31],[])),(18,([1,25],[])),(19,([25,33],[])),(20,([3,25],[])),(21,([25,34,35],[])),(22,([25,36],[])),(23,([25,37],[])),(24,([25,32,38],[])),(25,([25,39],[])),(26,([22,25,40],[])),(27,([22,41],[]))])] (.seq .u (.seq .u (.seq (.seq .u (.block (.loop ⟨[(1,.c (.pb 0 1 0)),(3,.c (.int .i64))],[.box (.sv false .poly)]⟩ .u))) .u))) gB Tryz.f19 [(76,⟨_,pF⟩),(77,⟨_,dS⟩)] (Gj A pF.pre pF.fn dS.pre dS.fn):=fun _=>by kernel_rfl
theorem akL (A:Alg): @Ru aI.z X E A [] (.seq .u (.seq .u (.seq (.seq .u (.cut ⟨[(3,.c (.int .i64))],[]⟩ (.cond .u .u))) .u))) jP Tryz.f170 [] (Gp A):=fun _=>by kernel_rfl
theorem akM (A:Alg) (dS:Ct A.ah mU) (bS:Ct A.ah jP): @Ru aI.z X E A [(6,[(0,([3],[])),(1,([17],[])),(2,([0],[])),(3,([7],[])),(4,([19,20],[])),(5,([21],[])),(6,([22],[])),(7,([18,23],[])),(8,([24],[]))]),(12,[(0,([0],[])),(1,([7],[])),(2,([37,38],[])),(3,([39],[])),(4,([40],[])),(5,([3],[])),(6,([42],[])),(7,([41,43],[])),(8,([44],[])),(9,([45],[]))])] (.seq .u (.seq .u (.seq .u (.seq (.seq .u (.block (.loop ⟨[(0,.c (.rows false .mono)),(3,.c (.pb 0 2 0)),(5,.c (.own 1)),(6,.c (.bool)),(7,.c (.int .i64))],[.box (.sv false .mono),.rows false .mono]⟩ (.seq .u (.seq (.block (.seq .u (.seq (.seq .u (.cut ⟨[(0,.c (.rows false .mono)),(3,.c (.pb 0 2 0)),(5,.c (.own 1)),(6,.c (.bool)),(7,.c (.int .i64)),(8,.c (.int .i64))],[.box (.sv false .mono),.rows false .mono]⟩ (.cond .u .u))) (.seq .u (.cut ⟨[(0,.c (.rows false .mono)),(3,.c (.pb 0 2 0)),(5,.c (.own 1)),(6,.c (.bool)),(7,.c (.int .i64))],[.box (.sv false .mono),.rows false .mono]⟩ (.cond (.seq .u (.seq .u (.seq .u (.cut ⟨[(0,.c (.rows false .mono)),(3,.c (.pb 0 2 0)),(5,.c (.own 1)),(6,.c (.bool)),(7,.c (.int .i64))],[.box (.sv false .mono),.rows false .mono]⟩ (.cond .u .u))))) .u)))))) .u))))) (.seq (.seq .u (.cut ⟨[(5,.c (.own 0))],[.rows false .mono]⟩ (.cond .u .u))) .u))))) uj Tryz.f174 [(77,⟨_,dS⟩),(170,⟨_,bS⟩)] (Gq A dS.pre dS.fn bS.pre bS.fn):=fun _=>by kernel_rfl
theorem akN (A:Alg): @Ru ⟨[26],[]⟩ X E A [(5,[(0,([3],[])),(1,([12],[])),(2,([0],[])),(3,([4],[])),(4,([14,15],[])),(5,([16],[])),(6,([17],[])),(7,([],[])),(8,([0],[])),(9,([4],[])),(10,([20,21],[])),(11,([22],[])),(12,([23],[])),(13,([19,24],[1,6])),(14,([18,25],[])),(15,([26],[1])),(16,([13,27],[])),(17,([3],[])),(18,([28,29],[]))])] (.seq .u (.seq .u (.seq (.seq .u (.block (.loop ⟨[(0,.c (.rows false .mono)),(2,.c (.pb 0 1 0)),(3,.c (.pb 1 1 0)),(4,.c (.int .i64))],[.box (.agg [.nil]),.box (.agg [.own 2]),.rows true .mono]⟩ .u))) .u))) je Tryz.f71 [] (Gr A):=fun _=>by kernel_rfl
theorem akO (A:Alg) (bE:Ct A.ah je): @Ru aI.z X E A [] (.seq .u (.seq .u (.seq (.seq .u (.block (.loop ⟨[(0,.c (.rows false .mono)),(2,.c (.pb 0 1 0)),(4,.c (.int .i64))],[.box (.agg [.nil])]⟩ .u))) .u))) um Tryz.f175 [(71,⟨_,bE⟩)] (Gs A bE.pre bE.fn):=fun _=>by kernel_rfl
theorem akP (A:Alg) (aX:Ct A.ah gB) (iy:Ct A.ah uj) (iA:Ct A.ah um): @Ru aI.z X E A [] (.seq .u (.seq .u (.seq .u (.seq (.seq .u (.block (.loop ⟨[(3,.c (.pb 0 1 0)),(4,.c (.pb 1 1 0)),(6,.c (.rows false .mono)),(7,.c (.int .i64))],[.box (.sv false .poly),.box (.agg [.nil])]⟩ .u))) .u)))) uo Tryz.f128 [(19,⟨_,aX⟩),(174,⟨_,iy⟩),(175,⟨_,iA⟩)] (Gt A aX.pre aX.fn iy.pre iy.fn iA.pre iA.fn):=fun _=>by kernel_rfl
theorem akQ (A:Alg) (aC:Ct A.ah bR): @Ru aI.z X E A [] .u jQ Tryz.f129 [(89,⟨_,aC⟩)] (Gu A aC.pre aC.fn):=fun _=>by kernel_rfl
theorem akR (A:Alg): @Ru aI.z X E A [(6,[(0,([6],[])),(1,([0],[])),(2,([16],[])),(3,([15,17],[])),(4,([18],[])),(5,([0,19],[])),(6,([6,19],[])),(7,([19,20,21],[])),(8,([19,22],[])),(9,([1,19],[])),(10,([7,19],[])),(11,([19,24,25],[])),(12,([19,26],[])),(13,([19,23,27],[])),(14,([19,28],[]))])] (.seq .u (.seq .u (.seq .u (.seq (.seq .u (.block (.loop ⟨[(0,.c (.rows false .i64)),(1,.c (.rows false .i64)),(5,.c (.own 0)),(6,.c (.int .i64)),(7,.c (.int .i64))],[.rows true .i64]⟩ (.seq .u (.seq (.block (.seq (.block (.loop ⟨[(0,.c (.rows false .i64)),(1,.c (.rows false .i64)),(5,.c (.own 0)),(6,.c (.int .i64)),(7,.c (.int .i64))],[.rows true .i64]⟩ .u)) .u)) .u))))) .u)))) BG Tryz.f221 [] (Gw A):=fun _=>by kernel_rfl
theorem akS (A:Alg) (aX:Ct A.ah gB) (bS:Ct A.ah jP) (iy:Ct A.ah uj) (pG:Ct A.ah BG) (iA:Ct A.ah um): @Ru aI.z X E A [(10,[(0,([2],[])),(1,([34],[])),(2,([7],[])),(3,([35,36],[])),(4,([37],[])),(5,([38],[])),(6,([3],[])),(7,([40],[])),(8,([8],[])),(9,([41,42],[])),(10,([43],[])),(11,([44],[])),(12,([39,45],[])),(13,([46],[])),(14,([47],[]))]),(12,[(0,([6],[])),(1,([9],[])),(2,([2],[])),(3,([52],[])),(4,([7],[])),(5,([53,54],[])),(6,([55],[])),(7,([56],[])),(8,([3],[])),(9,([58],[])),(10,([8],[])),(11,([59,60],[])),(12,([61],[])),(13,([62],[])),(14,([57,63],[])),(15,([51,64],[])),(16,([50,65],[])),(17,([66],[]))])] (.seq .u (.seq .u (.seq .u (.seq (.seq .u (.block (.loop ⟨[(2,.c (.pb 0 1 0)),(3,.c (.pb 1 1 0)),(4,.c (.pb 2 1 0)),(6,.c (.own 3)),(7,.c (.int .i64))],[.box (.sv false .poly),.box (.sv false .poly),.box (.agg [.nil]),.rows false .mono]⟩ (.seq .u (.seq (.block (.seq .u (.block (.loop ⟨[(2,.c (.pb 0 1 0)),(3,.c (.pb 1 1 0)),(4,.c (.pb 2 1 0)),(6,.c (.own 3)),(7,.c (.int .i64)),(8,.c (.int .i64))],[.box (.sv false .poly),.box (.sv false .poly),.box (.agg [.nil]),.rows false .mono]⟩ (.seq .u (.seq (.block (.seq .u (.seq .u (.cut ⟨[(2,.c (.pb 0 1 0)),(3,.c (.pb 1 1 0)),(4,.c (.pb 2 1 0)),(6,.c (.own 3)),(7,.c (.int .i64)),(8,.c (.int .i64))],[.box (.sv false .poly),.box (.sv false .poly),.box (.agg [.nil]),.rows false .mono]⟩ (.cond .u .u))))) .u)))))) .u))))) .u)))) uw Tryz.f200 [(19,⟨_,aX⟩),(170,⟨_,bS⟩),(174,⟨_,iy⟩),(221,⟨_,pG⟩),(175,⟨_,iA⟩)] (Gx A aX.pre aX.fn bS.pre bS.fn iy.pre iy.fn pG.pre pG.fn iA.pre iA.fn):=fun _=>by kernel_rfl
theorem akT (A:Alg) (aD:Ct A.ah bY) (bT:Ct A.ah jQ) (iB:Ct A.ah uw) (iC:Ct A.ah uo) (iD:Ct A.ah ug) (pI:Ct A.ah BD): @Ru aI.z X E A [(9,[(0,([7],[])),(1,([0],[])),(2,([1],[])),(3,([49,50],[0])),(4,([51],[0])),(5,([48,52],[])),(6,([53],[])),(7,([47],[])),(8,([47],[])),(9,([],[])),(10,([9,54],[])),(11,([55],[]))])] (.seq .u (.seq .u (.seq (.seq .u (.block (.loop ⟨[(0,.c (.pb 0 2 0)),(1,.c (.int .i64)),(4,.c (.pb 1 1 0)),(5,.c (.pb 2 1 0)),(6,.c (.int .i64))],[.box (.agg [.rows true .u8,.int .i64]),.box (.agg [.nil]),.box (.agg [.own 3]),.rows true .mono]⟩ (.seq .u (.seq (.block (.seq .u (.seq (.seq .u (.block (.loop ⟨[(0,.c (.pb 0 2 0)),(1,.c (.int .i64)),(4,.c (.pb 1 1 0)),(5,.c (.pb 2 1 0)),(6,.c (.int .i64)),(7,.c (.pb 3 1 0)),(8,.c (.int .i64))],[.box (.agg [.rows true .u8,.int .i64]),.box (.agg [.nil]),.box (.agg [.own 4]),.box (.agg [.own 5]),.rows true .mono,.rows true .mono]⟩ (.seq .u (.seq (.block (.seq .u (.seq .u (.cut ⟨[(0,.c (.pb 0 2 0)),(1,.c (.int .i64)),(4,.c (.pb 1 1 0)),(5,.c (.pb 2 1 0)),(6,.c (.int .i64)),(7,.c (.pb 3 1 0)),(8,.c (.int .i64))],[.box (.agg [.rows true .u8,.int .i64]),.box (.agg [.nil]),.box (.agg [.own 4]),.box (.agg [.own 5]),.rows true .mono,.rows true .mono]⟩ (.cond .u .u))))) .u))))) (.seq .u (.seq .u (.cut ⟨[(0,.c (.pb 0 2 0)),(1,.c (.int .i64)),(4,.c (.pb 1 1 0)),(5,.c (.pb 2 1 0)),(6,.c (.int .i64))],[.box (.agg [.rows true .u8,.int .i64]),.box (.agg [.nil]),.box (.agg [.own 3]),.rows true .mono]⟩ (.cond .u .u))))))) .u))))) .u))) BH Tryz.f173 [(61,⟨_,aD⟩),(129,⟨_,bT⟩),(200,⟨_,iB⟩),(128,⟨_,iC⟩),(62,⟨_,iD⟩),(63,⟨_,pI⟩)] (Gy A aD.pre aD.fn bT.pre bT.fn iB.pre iB.fn iC.pre iC.fn iD.pre iD.fn pI.pre pI.fn):=fun _=>by kernel_rfl
theorem akU (A:Alg): @Ru aI.z X E A [] .u jR Tryz.f156 [] (Gz A):=fun _=>by kernel_rfl
theorem akV (A:Alg) (aX:Ct A.ah gB) (bS:Ct A.ah jP) (bE:Ct A.ah je) (bU:Ct A.ah jR): @Ru aI.z X E A [] (.seq .u (.seq .u (.seq .u (.seq (.seq .u (.block (.loop ⟨[(1,.c (.int .i64)),(2,.c (.pb 0 1 0)),(4,.c (.pb 1 1 0)),(5,.c (.own 2)),(6,.c (.int .i64))],[.box (.sv false .poly),.box (.agg [.nil]),.rows false .mono]⟩ (.seq .u (.seq (.block (.seq .u (.seq .u (.cut ⟨[(1,.c (.int .i64)),(2,.c (.pb 0 1 0)),(4,.c (.pb 1 1 0)),(5,.c (.own 2)),(6,.c (.int .i64))],[.box (.sv false .poly),.box (.agg [.nil]),.rows false .mono]⟩ (.cond .u .u))))) .u))))) .u)))) BI Tryz.f127 [(19,⟨_,aX⟩),(170,⟨_,bS⟩),(71,⟨_,bE⟩),(156,⟨_,bU⟩)] (GA A aX.pre aX.fn bS.pre bS.fn bE.pre bE.fn bU.pre bU.fn):=fun _=>by kernel_rfl
theorem akW (A:Alg) (bT:Ct A.ah jQ): @Ru aI.z X E A [] (.seq .u (.seq .u (.seq .u (.seq (.seq .u (.block (.loop ⟨[(0,.c (.pb 0 1 0)),(2,.c (.pb 1 1 0)),(3,.c (.own 2)),(4,.c (.int .i64))],[.box (.agg [.nil]),.box (.agg [.own 3]),.rows true .poly,.rows true .atom]⟩ .u))) .u)))) BJ Tryz.f64 [(129,⟨_,bT⟩)] (GD A bT.pre bT.fn):=fun _=>by kernel_rfl
theorem akX (A:Alg) (aX:Ct A.ah gB): @Ru aI.z X E A [] .u BK Tryz.f73 [(19,⟨_,aX⟩)] (GH A aX.pre aX.fn):=fun _=>by kernel_rfl
theorem akY (A:Alg) (dS:Ct A.ah mU): @Ru aI.z X E A [(8,[(0,([2],[])),(1,([28],[])),(2,([5],[])),(3,([29,30],[])),(4,([31],[])),(5,([32],[])),(6,([3],[])),(7,([34],[])),(8,([5],[])),(9,([35,36],[])),(10,([37],[])),(11,([38],[])),(12,([33,39],[])),(13,([40],[]))]),(11,[(0,([2],[])),(1,([44],[])),(2,([5],[])),(3,([45,46],[])),(4,([47],[])),(5,([48],[])),(6,([3],[])),(7,([50],[])),(8,([5],[])),(9,([51,52],[])),(10,([53],[])),(11,([54],[])),(12,([49,55],[]))]),(12,[(0,([2],[])),(1,([57],[])),(2,([5],[])),(3,([58,59],[])),(4,([60],[])),(5,([61],[])),(6,([3],[])),(7,([63],[])),(8,([5],[])),(9,([64,65],[])),(10,([66],[])),(11,([67],[])),(12,([62,68],[]))])] (.seq .u (.seq .u (.seq (.seq .u (.block (.loop ⟨[(2,.c (.pb 0 1 0)),(3,.c (.pb 1 1 0)),(5,.c (.int .i64))],[.box (.sv false .poly),.box (.sv false .poly)]⟩ .u))) .u))) mV Tryz.f147 [(77,⟨_,dS⟩)] (GI A dS.pre dS.fn):=fun _=>by kernel_rfl
theorem akZ (A:Alg) (aC:Ct A.ah bR): @Ru aI.z X E A [] .u BL Tryz.f192 [(89,⟨_,aC⟩)] (GJ A aC.pre aC.fn):=fun _=>by kernel_rfl
theorem ak0 (A:Alg) (pJ:Ct A.ah BL): @Ru aI.z X E A [] .u uz Tryz.f157 [(192,⟨_,pJ⟩)] (GK A pJ.pre pJ.fn):=fun _=>by kernel_rfl
theorem ak1 (A:Alg) (bU:Ct A.ah jR) (aC:Ct A.ah bR) (iE:Ct A.ah uz): @Ru aI.z X E A [] (.seq .u (.seq .u (.seq (.seq .u (.block (.seq .u (.cond .u (.seq .u (.cond .u (.seq .u (.cond .u (.seq (.seq .u (.cut ⟨[(0,.c (.rows false .iop)),(1,.c (.int .i64)),(2,.c (.int .i64)),(7,.c (.pb 0 5 0)),(13,.c (.int .i64)),(78,.c (.bool))],[.box (.sv false .iop)]⟩ (.cond .u .u))) .u))))))))) .u))) BM Tryz.f90 [(156,⟨_,bU⟩),(89,⟨_,aC⟩),(157,⟨_,iE⟩)] (GL A bU.pre bU.fn aC.pre aC.fn iE.pre iE.fn):=fun _=>by kernel_rfl
theorem ak2 (A:Alg) (bU:Ct A.ah jR) (iE:Ct A.ah uz): @Ru aI.z X E A [] (.seq .u (.seq .u (.seq (.seq .u (.block (.seq .u (.cond .u (.seq .u (.cond .u (.seq (.seq .u (.cut ⟨[(1,.c (.pb 0 7 0)),(3,.c (.int .i64)),(42,.c (.bool))],[.box (.sv false .blk)]⟩ (.cond .u .u))) .u))))))) .u))) BN Tryz.f91 [(156,⟨_,bU⟩),(157,⟨_,iE⟩)] (GN A bU.pre bU.fn iE.pre iE.fn):=fun _=>by kernel_rfl
theorem ak3 (A:Alg) (aC:Ct A.ah bR) (pK:Ct A.ah BN) (pO:Ct A.ah BM): @Ru aI.z X E A [] (.seq .u (.seq .u (.seq (.seq .u (.block (.loop ⟨[(1,.c (.pb 0 7 0)),(3,.c (.int .i64))],[.box (.sv false .blk)]⟩ .u))) .u))) jf Tryz.f30 [(89,⟨_,aC⟩),(91,⟨_,pK⟩),(90,⟨_,pO⟩)] (GQ A aC.pre aC.fn pK.pre pK.fn pO.pre pO.fn):=fun _=>by kernel_rfl
theorem ak4 (A:Alg): @Ru aI.z X E A [] .u BO Tryz.f201 [] (GU A):=fun _=>by kernel_rfl
theorem ak5 (A:Alg): @Ru aI.z X E A [] (.seq .u (.seq (.seq .u (.block (.loop ⟨[(1,.c (.int .i64)),(2,.c (.pb 0 1 0)),(5,.c (.int .i64))],[.box (.sv false .poly)]⟩ (.seq .u (.seq (.block (.seq .u (.block (.loop ⟨[(1,.c (.int .i64)),(2,.c (.pb 0 1 0)),(5,.c (.int .i64)),(6,.c (.int .i64))],[.box (.sv false .poly)]⟩ .u)))) .u))))) .u)) uD Tryz.f202 [] (GV A):=fun _=>by kernel_rfl
theorem ak6 (A:Alg) (aC:Ct A.ah bR) (aX:Ct A.ah gB) (iF:Ct A.ah uD) (pQ:Ct A.ah BO): @Ru aI.z X E A [] (.seq .u (.seq (.seq .u (.block (.seq .u (.cond .u (.seq (.seq .u (.cut ⟨[(1,.c (.int .i64)),(2,.c (.pb 0 4 0)),(6,.c (.int .i64)),(16,.c (.bool))],[.box (.sv false .atom)]⟩ (.cond .u .u))) .u))))) .u)) uE Tryz.f176 [(89,⟨_,aC⟩),(19,⟨_,aX⟩),(202,⟨_,iF⟩),(201,⟨_,pQ⟩)] (GX A aC.pre aC.fn aX.pre aX.fn iF.pre iF.fn pQ.pre pQ.fn):=fun _=>by kernel_rfl
theorem ak7 (A:Alg) (dU:Ct A.ah mV): @Ru aI.z X E A [] .u uF Tryz.f177 [(147,⟨_,dU⟩)] (G5 A dU.pre dU.fn):=fun _=>by kernel_rfl
theorem ak8 (A:Alg) (iG:Ct A.ah uE) (iH:Ct A.ah uF): @Ru aI.z X E A [(11,[(0,([1],[])),(1,([29],[])),(2,([4],[])),(3,([30,31],[])),(4,([32],[])),(5,([1],[])),(6,([34],[])),(7,([3],[])),(8,([35,36],[])),(9,([37],[])),(10,([33,38],[]))])] (.seq .u (.seq .u (.seq (.seq .u (.block (.loop ⟨[(1,.c (.pb 0 1 0)),(3,.c (.int .i64))],[.box (.sv false .tab)]⟩ (.seq .u (.seq (.block (.seq .u (.seq .u (.block (.loop ⟨[(1,.c (.pb 0 1 0)),(3,.c (.int .i64)),(4,.c (.int .i64))],[.box (.sv false .tab)]⟩ .u))))) .u))))) .u))) uG Tryz.f130 [(176,⟨_,iG⟩),(177,⟨_,iH⟩)] (G6 A iG.pre iG.fn iH.pre iH.fn):=fun _=>by kernel_rfl
theorem ak9 (A:Alg) (bE:Ct A.ah je): @Ru aI.z X E A [(1,[(0,([1],[])),(1,([3],[])),(2,([1],[])),(3,([5],[])),(4,([1],[])),(5,([7],[])),(6,([8],[])),(8,([1],[])),(9,([11],[])),(10,([12],[])),(7,([9],[1,3,10])),(11,([13],[1,3])),(12,([4,6,10,14],[])),(13,([2,15],[]))])] .u uH Tryz.f178 [(71,⟨_,bE⟩)] (G7 A bE.pre bE.fn):=fun _=>by kernel_rfl
theorem ala (A:Alg) (iI:Ct A.ah uH): @Ru ⟨[20],[]⟩ X E A [(5,[(0,([3],[])),(1,([13],[])),(2,([1],[])),(3,([15],[])),(4,([4],[])),(5,([16,17],[])),(6,([18],[])),(7,([19],[1])),(8,([20],[1])),(9,([14,21],[])),(10,([3],[])),(11,([22,23],[]))])] (.seq .u (.seq .u (.seq (.seq .u (.block (.loop ⟨[(1,.c (.pb 0 1 0)),(2,.c (.pb 1 1 0)),(3,.c (.pb 2 1 0)),(4,.c (.int .i64))],[.box (.sv false .tab),.box (.agg [.nil]),.box (.agg [.own 3]),.rows true .atom]⟩ .u))) .u))) uI Tryz.f131 [(178,⟨_,iI⟩)] (G8 A iI.pre iI.fn):=fun _=>by kernel_rfl
theorem alb (A:Alg) (iG:Ct A.ah uE) (iH:Ct A.ah uF) (iI:Ct A.ah uH): @Ru ⟨[38],[]⟩ X E A [(6,[(0,([2],[])),(1,([21],[])),(2,([6],[])),(3,([22,23],[])),(4,([24],[])),(5,([3],[])),(6,([25,26],[]))]),(10,[(0,([2],[])),(1,([35],[])),(2,([3],[])),(3,([37],[1])),(4,([38],[1])),(5,([36,39],[])),(6,([2],[])),(7,([40,41],[]))]),(11,[(0,([2],[])),(1,([2],[])),(2,([43],[])),(3,([44],[])),(4,([45],[])),(5,([4,42],[2])),(6,([46],[]))])] (.seq .u (.seq .u (.seq (.seq .u (.block (.loop ⟨[(2,.c (.pb 1 1 0)),(3,.c (.pb 2 4 0)),(4,.c (.pb 3 1 0)),(6,.c (.int .i64))],[.rows true .atom,.box (.agg [.own 0]),.box (.sv false .atom),.box (.agg [.nil])]⟩ .u))) .u))) uJ Tryz.f132 [(176,⟨_,iG⟩),(177,⟨_,iH⟩),(178,⟨_,iI⟩)] (G9 A iG.pre iG.fn iH.pre iH.fn iI.pre iI.fn):=fun _=>by kernel_rfl
theorem alc (A:Alg) (iB:Ct A.ah uw) (iC:Ct A.ah uo) (pR:Ct A.ah BI): @Ru aI.z X E A [(5,[(0,([4],[])),(1,([5],[])),(2,([19],[0])),(3,([18,20],[])),(4,([21],[])),(5,([21],[])),(6,([6,22],[])),(7,([23],[]))])] .u BP Tryz.f179 [(200,⟨_,iB⟩),(128,⟨_,iC⟩),(127,⟨_,pR⟩)] (Hg A iB.pre iB.fn iC.pre iC.fn pR.pre pR.fn):=fun _=>by kernel_rfl
theorem ald (A:Alg) (bS:Ct A.ah jP) (bU:Ct A.ah jR): @Ru aI.z X E A [] .u uK Tryz.f115 [(170,⟨_,bS⟩),(156,⟨_,bU⟩)] (Hl A bS.pre bS.fn bU.pre bU.fn):=fun _=>by kernel_rfl
theorem ale (A:Alg) (bE:Ct A.ah je): @Ru aI.z X E A [] .u BQ Tryz.f203 [(71,⟨_,bE⟩)] (Ho A bE.pre bE.fn):=fun _=>by kernel_rfl
theorem alf (A:Alg) (dU:Ct A.ah mV) (bE:Ct A.ah je) (iJ:Ct A.ah uK) (iD:Ct A.ah ug) (pU:Ct A.ah BK) (pV:Ct A.ah BQ): @Ru aI.z X E A [] .u BR Tryz.f180 [(147,⟨_,dU⟩),(71,⟨_,bE⟩),(115,⟨_,iJ⟩),(62,⟨_,iD⟩),(73,⟨_,pU⟩),(203,⟨_,pV⟩)] (Hq A dU.pre dU.fn bE.pre bE.fn iJ.pre iJ.fn iD.pre iD.fn pU.pre pU.fn pV.pre pV.fn):=fun _=>by kernel_rfl
theorem alg (A:Alg) (bT:Ct A.ah jQ) (dU:Ct A.ah mV) (pW:Ct A.ah BP) (pX:Ct A.ah BR) (iK:Ct A.ah uJ): @Ru aI.z X E A [(5,[(0,([4],[])),(1,([10],[])),(2,([8,36],[1])),(3,([9,37],[]))]),(12,[(0,([13],[])),(1,([14],[])),(2,([65],[0])),(3,([8,64],[])),(4,([9,66],[]))])] (.seq .u (.seq .u (.seq (.seq .u (.cut ⟨[(1,.c (.int .i64)),(4,.c (.pb 1 1 0)),(6,.c (.pb 2 1 0)),(7,.c (.pb 3 1 0)),(8,.c (.pb 4 1 0)),(9,.c (.pb 5 1 0)),(10,.c (.pb 6 1 0)),(11,.c (.bool))],[.rows true .atom,.box (.agg [.own 0]),.box (.sv false .poly),.box (.sv false .poly),.box (.agg [.nil]),.box (.agg [.nil]),.box (.agg [.own 7]),.rows true .mono]⟩ (.cond .u .u))) (.seq .u (.seq .u (.seq (.seq .u (.cut ⟨[(4,.c (.pb 1 1 0)),(8,.c (.pb 2 1 0)),(9,.c (.pb 3 1 0)),(12,.c (.pb 4 4 0))],[.rows true .atom,.box (.agg [.own 0]),.box (.agg [.nil]),.box (.agg [.nil]),.box (.agg [.int .i64,.int .i64,.rows false .mono,.rows false .mono])]⟩ (.cond .u .u))) .u)))))) BS Tryz.f134 [(129,⟨_,bT⟩),(147,⟨_,dU⟩),(179,⟨_,pW⟩),(180,⟨_,pX⟩),(132,⟨_,iK⟩)] (Hr A bT.pre bT.fn dU.pre dU.fn pW.pre pW.fn pX.pre pX.fn iK.pre iK.fn):=fun _=>by kernel_rfl
theorem alh (A:Alg): @Ru aI.z X E A [] .u mW Tryz.f113 [] (Ht A):=fun _=>by kernel_rfl
theorem ali (A:Alg) (aC:Ct A.ah bR): @Ru aI.z X E A [] (.seq .u (.seq .u (.seq (.seq .u (.cut ⟨[(1,.c (.rows false .i64)),(2,.c (.pb 0 5 0)),(4,.c (.pb 1 5 0)),(5,.c (.pb 2 5 0))],[.box (.sv false .iop),.box (.agg [.int .i64,.int .i64,.int .i64,.int .i64,.int .i64]),.box (.sv true .iop)]⟩ (.cond .u .u))) (.seq (.seq .u (.cut ⟨[(4,.c (.pb 0 5 0)),(5,.c (.pb 1 5 0))],[.box (.agg [.int .i64,.int .i64,.int .i64,.int .i64,.int .i64]),.box (.sv true .iop)]⟩ (.cond .u .u))) .u)))) uL Tryz.f125 [(89,⟨_,aC⟩)] (Hu A aC.pre aC.fn):=fun _=>by kernel_rfl
theorem alj (A:Alg) (bF:Ct A.ah jf) (iL:Ct A.ah uL) (dV:Ct A.ah mW): @Ru aI.z X E A [] (.seq .u (.seq .u (.seq .u (.seq .u (.seq .u (.seq (.seq .u (.block (.loop ⟨[(2,.c (.pb 0 7 0)),(3,.c (.pb 1 7 0)),(4,.c (.own 2)),(5,.c (.own 3)),(6,.c (.int .i64))],[.box (.agg [.int .i64,.int .i64,.nil,.int .i64,.int .i64,.int .i64,.int .i64]),.box (.agg [.int .i64,.int .i64,.own 4,.int .i64,.int .i64,.int .i64,.int .i64]),.rows true .i64,.rows true .i64,.rows true .iop]⟩ (.seq .u (.seq (.block (.seq .u (.seq .u (.seq .u (.seq (.seq .u (.cut ⟨[(2,.c (.pb 0 7 0)),(3,.c (.pb 1 7 0)),(4,.c (.own 2)),(5,.c (.own 3)),(6,.c (.int .i64)),(7,.c (.pb 4 5 0)),(8,.c (.int .i64))],[.box (.agg [.int .i64,.int .i64,.nil,.int .i64,.int .i64,.int .i64,.int .i64]),.box (.agg [.int .i64,.int .i64,.own 5,.int .i64,.int .i64,.int .i64,.int .i64]),.rows true .i64,.rows true .i64,.box (.sv true .iop),.rows true .iop]⟩ (.cond .u .u))) (.seq (.seq .u (.cut ⟨[(2,.c (.pb 0 7 0)),(3,.c (.pb 1 7 0)),(4,.c (.own 2)),(5,.c (.own 3)),(6,.c (.int .i64)),(7,.c (.pb 4 5 0)),(8,.c (.int .i64))],[.box (.agg [.int .i64,.int .i64,.nil,.int .i64,.int .i64,.int .i64,.int .i64]),.box (.agg [.int .i64,.int .i64,.own 5,.int .i64,.int .i64,.int .i64,.int .i64]),.rows true .i64,.rows true .i64,.box (.sv true .iop),.rows true .iop]⟩ (.cond .u .u))) (.seq (.seq .u (.cut ⟨[(2,.c (.pb 0 7 0)),(3,.c (.pb 1 7 0)),(4,.c (.own 2)),(5,.c (.own 3)),(6,.c (.int .i64)),(8,.c (.int .i64))],[.box (.agg [.int .i64,.int .i64,.nil,.int .i64,.int .i64,.int .i64,.int .i64]),.box (.agg [.int .i64,.int .i64,.own 4,.int .i64,.int .i64,.int .i64,.int .i64]),.rows true .i64,.rows true .i64,.rows true .iop]⟩ (.cond .u .u))) .u))))))) .u))))) (.seq (.seq .u (.cut ⟨[(2,.c (.pb 0 7 0)),(3,.c (.pb 1 7 0)),(4,.c (.own 2))],[.box (.agg [.int .i64,.int .i64,.nil,.int .i64,.int .i64,.int .i64,.int .i64]),.box (.agg [.int .i64,.int .i64,.own 3,.int .i64,.int .i64,.int .i64,.int .i64]),.rows true .i64,.rows true .iop]⟩ (.cond .u .u))) (.seq (.seq .u (.cut ⟨[(2,.c (.pb 0 7 0)),(3,.c (.pb 1 7 0))],[.box (.agg [.int .i64,.int .i64,.nil,.int .i64,.int .i64,.int .i64,.int .i64]),.box (.agg [.int .i64,.int .i64,.own 2,.int .i64,.int .i64,.int .i64,.int .i64]),.rows true .iop]⟩ (.cond .u .u))) .u)))))))) uM Tryz.f54 [(30,⟨_,bF⟩),(125,⟨_,iL⟩),(113,⟨_,dV⟩)] (Hw A bF.pre bF.fn iL.pre iL.fn dV.pre dV.fn):=fun _=>by kernel_rfl
theorem alk (A:Alg): @Ru aI.z X E A [] .u uN Tryz.f114 [] (HV A):=fun _=>by kernel_rfl
theorem alm (A:Alg): @Ru aI.z X E A [] .u BU Tryz.f171 [] (HY A):=fun _=>by kernel_rfl
theorem aln (A:Alg) (pY:Ct A.ah BU) (iM:Ct A.ah uN): @Ru aI.z X E A [] (.seq .u (.seq .u (.seq .u (.seq (.block (.seq .u (.cond .u (.seq (.seq .u (.cut ⟨[(1,.c (.pb 0 7 0)),(2,.c (.pb 1 7 0)),(4,.c (.bool)),(6,.c (.bool)),(33,.c (.bool))],[.box (.sv false .blk),.box (.agg [.int .i64,.int .i64,.nil,.int .i64,.int .i64,.int .i64,.int .i64])]⟩ (.cond .u .u))) .u)))) .u)))) BX Tryz.f116 [(171,⟨_,pY⟩),(114,⟨_,iM⟩)] (HZ A pY.pre pY.fn iM.pre iM.fn):=fun _=>by kernel_rfl
theorem alo (A:Alg) (bF:Ct A.ah jf) (iJ:Ct A.ah uK) (qb:Ct A.ah BX) (iM:Ct A.ah uN) (dV:Ct A.ah mW): @Ru aI.z X E A [(11,[(0,([3],[])),(1,([53],[])),(2,([4],[])),(3,([5],[])),(4,([56],[])),(5,([6],[])),(6,([8],[])),(7,([57,58,59],[1])),(8,([60],[])),(9,([54,55],[])),(10,([61,62],[]))])] (.seq .u (.seq .u (.seq .u (.seq (.seq .u (.block (.loop ⟨[(2,.c (.pb 0 7 0)),(3,.c (.pb 1 7 0)),(4,.c (.int .i64))],[.box (.agg [.int .i64,.int .i64,.nil,.int .i64,.int .i64,.int .i64,.int .i64]),.box (.agg [.int .i64,.int .i64,.own 2,.int .i64,.int .i64,.int .i64,.int .i64]),.rows true .iop]⟩ (.seq .u (.seq (.block (.seq .u (.seq .u (.seq .u (.seq .u (.cut ⟨[(2,.c (.pb 0 7 0)),(3,.c (.pb 1 7 0)),(4,.c (.int .i64))],[.box (.agg [.int .i64,.int .i64,.nil,.int .i64,.int .i64,.int .i64,.int .i64]),.box (.agg [.int .i64,.int .i64,.own 2,.int .i64,.int .i64,.int .i64,.int .i64]),.rows true .iop]⟩ (.cond .u .u))))))) .u))))) .u)))) BZ Tryz.f42 [(30,⟨_,bF⟩),(115,⟨_,iJ⟩),(116,⟨_,qb⟩),(114,⟨_,iM⟩),(113,⟨_,dV⟩)] (H8 A bF.pre bF.fn iJ.pre iJ.fn qb.pre qb.fn iM.pre iM.fn dV.pre dV.fn):=fun _=>by kernel_rfl
theorem alp (A:Alg): @Ru aI.z X E A [(4,[(0,([0],[])),(1,([5],[])),(2,([14,15],[])),(3,([16],[])),(4,([17],[])),(5,([18],[])),(6,([19],[])),(7,([0,20],[])),(8,([5,20],[])),(9,([20,21,22],[])),(10,([20,23],[])),(11,([20,24],[])),(12,([20,25],[])),(13,([20,26],[])),(14,([27],[])),(15,([0,28],[])),(16,([5,28],[])),(17,([28,29,30],[])),(18,([28,31],[])),(19,([28,32],[])),(20,([28,33],[])),(21,([28,34],[])),(22,([0,35],[])),(23,([5,35],[])),(24,([35,36,37],[])),(25,([35,38],[])),(26,([35,39],[])),(27,([0,35],[])),(28,([1,35],[])),(29,([35,41,42],[])),(30,([35,43],[])),(31,([35,44],[])),(32,([35,40,45],[])),(33,([28,35,46],[])),(34,([28,47],[]))]),(6,[(0,([0],[])),(1,([5],[])),(2,([49,50],[])),(3,([51],[])),(4,([52],[])),(5,([53],[])),(6,([54],[])),(7,([0,55],[])),(8,([5,55],[])),(9,([55,56,57],[])),(10,([55,58],[])),(11,([55,59],[])),(12,([0,55],[])),(13,([1,55],[])),(14,([55,61,62],[])),(15,([55,63],[])),(16,([55,64],[])),(17,([55,60,65],[])),(18,([55,66],[]))])] (.seq .u (.seq (.seq .u (.block (.loop ⟨[(0,.c (.rows false .iop)),(1,.c (.int .i64)),(5,.c (.int .i64))],[]⟩ .u))) .u)) Ca Tryz.f118 [] (H9 A):=fun _=>by kernel_rfl
theorem alq (A:Alg) (iL:Ct A.ah uL): @Ru aI.z X E A [] (.seq .u (.seq .u (.seq .u (.seq (.seq .u (.block (.loop ⟨[(1,.c (.rows false .bool)),(2,.c (.pb 0 7 0)),(4,.c (.pb 1 7 0)),(5,.c (.own 2)),(6,.c (.own 3)),(7,.c (.int .i64))],[.box (.sv false .blk),.box (.agg [.int .i64,.int .i64,.nil,.int .i64,.int .i64,.int .i64,.int .i64]),.rows true .iop,.rows true .i64]⟩ (.seq .u (.seq (.block (.seq .u (.seq .u (.cut ⟨[(1,.c (.rows false .bool)),(2,.c (.pb 0 7 0)),(4,.c (.pb 1 7 0)),(5,.c (.own 2)),(6,.c (.own 3)),(7,.c (.int .i64))],[.box (.sv false .blk),.box (.agg [.int .i64,.int .i64,.nil,.int .i64,.int .i64,.int .i64,.int .i64]),.rows true .iop,.rows true .i64]⟩ (.cond .u .u))))) .u))))) (.seq .u (.seq .u (.seq (.seq .u (.cut ⟨[(2,.c (.pb 0 7 0)),(4,.c (.pb 1 7 0)),(6,.c (.own 2)),(8,.c (.pb 3 7 0))],[.box (.sv false .blk),.box (.agg [.int .i64,.int .i64,.nil,.int .i64,.int .i64,.int .i64,.int .i64]),.rows true .i64,.box (.agg [.int .i64,.int .i64,.own 4,.int .i64,.int .i64,.int .i64,.int .i64]),.rows true .iop]⟩ (.cond .u .u))) (.seq (.seq .u (.cut ⟨[(4,.c (.pb 0 7 0)),(8,.c (.pb 1 7 0))],[.box (.agg [.int .i64,.int .i64,.nil,.int .i64,.int .i64,.int .i64,.int .i64]),.box (.agg [.int .i64,.int .i64,.own 2,.int .i64,.int .i64,.int .i64,.int .i64]),.rows true .iop]⟩ (.cond .u .u))) .u)))))))) uO Tryz.f119 [(125,⟨_,iL⟩)] (Ia A iL.pre iL.fn):=fun _=>by kernel_rfl
end Go.TX.Seat
