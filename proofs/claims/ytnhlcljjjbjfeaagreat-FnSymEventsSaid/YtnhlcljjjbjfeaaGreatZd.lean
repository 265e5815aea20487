/- Part 4 of a proof: what the last part needs. No condition. -/
import Derived.Test.YtnhlcljjjbjfeaaGreatZc
import Derived.Test.YtnhlcljjjbjfeaaGreatProg
import Derived.KernelRfl
set_option linter.all false
set_option linter.unusedSectionVars false
set_option linter.unusedVariables false
set_option linter.unusedSimpArgs false
namespace Go.TX.F
open Go Go.AE Go.TX
set_option maxRecDepth 100000
@[reducible] def Bq : Sig := ⟨[.c (.rows true .u8)], [], [.c (.pb 0 2 0)], [.box (.agg [.rows true .u8, .int .i64])]⟩
@[reducible] def cu : Sig := ⟨[.c (.pb 0 2 0), .c (.int .i64)], [.box (.agg [.rows true .u8, .int .i64])], [.c (.int .i64)], [.box (.agg [.rows true .u8, .int .i64])]⟩
@[reducible] def bS : Sig := ⟨[.c (.int .i64), .c (.int .i64), .c (.int .i64)], [], [.c .bool], []⟩
@[reducible] def uj : Sig := ⟨[.c (.int .i64)], [], [.agg [.own 0]], [.rows true .mono]⟩
@[reducible] def Br : Sig := ⟨[.c (.pb 0 2 0)], [.box (.agg [.rows true .u8, .int .i64])], [.c (.int .i64)], [.box (.agg [.rows true .u8, .int .i64])]⟩
@[reducible] def um : Sig := ⟨[.c (.pb 0 2 0), .c (.int .i64)], [.box (.agg [.rows true .u8, .int .i64])], [.c .bool], [.box (.agg [.rows true .u8, .int .i64])]⟩
@[reducible] def Bu : Sig := ⟨[.sv false .mono], [], [.c .bool], []⟩
@[reducible] def mV : Sig := ⟨[.c (.rows false .i64), .c (.rows false .i64)], [], [.c (.int .i64)], []⟩
@[reducible] def gB : Sig := ⟨[.sv false .poly], [], [.c .bool], []⟩
@[reducible] def jQ : Sig := ⟨[.c (.int .i64)], [], [.c (.int .i64)], []⟩
@[reducible] def uo : Sig := ⟨[.c (.rows false .mono), .sv false .mono], [], [.c (.own 0)], [.rows false .mono]⟩
@[reducible] def jf : Sig := ⟨[.c (.rows false .mono)], [], [.agg [.own 0]], [.rows true .mono]⟩
@[reducible] def uw : Sig := ⟨[.c (.rows false .mono)], [], [.agg [.own 0], .c .bool], [.rows true .mono]⟩
@[reducible] def uz : Sig := ⟨[.sv false .poly, .sv false .poly], [], [.agg [.own 0], .c .bool], [.rows true .mono]⟩
@[reducible] def jR : Sig := ⟨[.c (.int .i64)], [], [.agg [.own 0]], [.rows true .mono]⟩
@[reducible] def Bv : Sig := ⟨[.c (.rows false .i64), .c (.rows false .i64)], [], [.c (.own 0)], [.rows true .i64]⟩
@[reducible] def uD : Sig := ⟨[.sv false .poly, .sv false .poly], [], [.agg [.own 0], .c .bool], [.rows true .mono]⟩
@[reducible] def Bw : Sig := ⟨[.c (.pb 0 2 0), .c (.int .i64)], [.box (.agg [.rows true .u8, .int .i64])], [.agg [.own 1]], [.box (.agg [.rows true .u8, .int .i64]), .rows true .mono]⟩
@[reducible] def jS : Sig := ⟨[.c (.int .i64)], [], [.c .bool], []⟩
@[reducible] def Bz : Sig := ⟨[.sv false .poly, .c (.int .i64)], [], [.agg [.own 0]], [.rows true .mono]⟩
@[reducible] def BA : Sig := ⟨[], [], [.agg [.own 0], .c (.own 1)], [.rows true .atom, .rows true .poly]⟩
@[reducible] def BD : Sig := ⟨[.sv false .poly], [], [.c (.int .i64), .c .bool], []⟩
@[reducible] def mW : Sig := ⟨[.sv false .poly, .sv false .poly], [], [.c (.int .i64)], []⟩
@[reducible] def BF : Sig := ⟨[.c (.int .i64)], [], [.c .bool], []⟩
@[reducible] def uE : Sig := ⟨[.c (.rows false .iop), .c (.int .i64), .c (.int .i64)], [], [.c .bool], []⟩
@[reducible] def BG : Sig := ⟨[.c (.rows false .iop), .c (.int .i64), .c (.int .i64)], [], [.c .bool], []⟩
@[reducible] def BH : Sig := ⟨[.sv false .blk], [], [.c .bool], []⟩
@[reducible] def jg : Sig := ⟨[.sv false .blk], [], [.c .bool], []⟩
@[reducible] def BI : Sig := ⟨[.sv false .atom], [], [.c .bool], []⟩
@[reducible] def uF : Sig := ⟨[.sv false .poly, .c (.int .i64)], [], [.c .bool], []⟩
@[reducible] def uG : Sig := ⟨[.sv false .atom, .c (.int .i64)], [], [.c .bool], []⟩
@[reducible] def uH : Sig := ⟨[.sv false .atom, .sv false .atom], [], [.c .bool], []⟩
@[reducible] def uI : Sig := ⟨[.sv false .tab], [], [.c .bool], []⟩
@[reducible] def uJ : Sig := ⟨[.sv false .atom], [], [.agg [.int .i64, .int .i64, .own 0, .own 1]], [.rows true .mono, .rows true .mono]⟩
@[reducible] def uK : Sig := ⟨[.sv false .tab], [], [.agg [.own 0]], [.rows true .atom]⟩
@[reducible] def uL : Sig := ⟨[.agg [.own 0], .sv false .atom], [.rows true .atom], [.agg [.own 1], .c (.int .i64)], [.gone, .rows true .atom]⟩
@[reducible] def BJ : Sig := ⟨[.c (.int .i64), .sv false .poly, .sv false .poly], [], [.agg [.own 0], .c .bool], [.rows true .mono]⟩
@[reducible] def uM : Sig := ⟨[.c (.int .i64), .c (.int .i64), .c (.int .i64)], [], [.c (.int .i64)], []⟩
@[reducible] def BK : Sig := ⟨[.c (.int .i64), .c (.int .i64), .sv false .poly], [], [.agg [.own 0], .c .bool], [.rows true .mono]⟩
@[reducible] def BL : Sig := ⟨[.c (.int .i64), .sv false .poly, .sv false .poly], [], [.agg [.own 0], .c .bool], [.rows true .mono]⟩
@[reducible] def BM : Sig := ⟨[.agg [.own 0], .c (.int .i64), .sv false .poly, .sv false .poly], [.rows true .atom], [.agg [.own 1], .agg [.own 2]], [.gone, .rows true .atom, .rows true .mono]⟩
@[reducible] def mX : Sig := ⟨[.sv false .blk], [], [.agg [.int .i64, .int .i64, .own 0, .int .i64, .int .i64, .int .i64, .int .i64]], [.rows true .iop]⟩
@[reducible] def uN : Sig := ⟨[.sv false .iop, .c (.rows false .i64)], [], [.sv true .iop], []⟩
@[reducible] def uO : Sig := ⟨[.sv false .blk], [], [.agg [.int .i64, .int .i64, .own 0, .int .i64, .int .i64, .int .i64, .int .i64]], [.rows true .iop]⟩
@[reducible] def uP : Sig := ⟨[.c (.rows false .iop), .c (.int .i64)], [], [.c (.int .i64), .c .bool], []⟩
@[reducible] def BN : Sig := ⟨[.sv false .blk, .c (.int .i64)], [], [.agg [.int .i64, .int .i64, .rows false .iop, .int .i64, .int .i64, .int .i64, .int .i64]], []⟩
@[reducible] def BO : Sig := ⟨[.sv false .blk], [], [.sv false .blk], []⟩
@[reducible] def BP : Sig := ⟨[.sv false .blk], [], [.sv false .blk], []⟩
@[reducible] def BQ : Sig := ⟨[.c (.rows false .iop), .c (.int .i64)], [], [.c .bool], []⟩
@[reducible] def uQ : Sig := ⟨[.sv false .blk, .c (.rows false .bool)], [], [.agg [.int .i64, .int .i64, .own 0, .int .i64, .int .i64, .int .i64, .int .i64]], [.rows true .iop]⟩
@[reducible] def BR : Sig := ⟨[.sv false .blk], [], [.agg [.int .i64, .int .i64, .own 0, .int .i64, .int .i64, .int .i64, .int .i64]], [.rows true .iop]⟩
@[reducible] def BS : Sig := ⟨[.sv false .blk], [], [.c (.own 0)], [.rows true .bool]⟩
@[reducible] def BU : Sig := ⟨[.sv false .blk], [], [.agg [.int .i64, .int .i64, .own 0, .int .i64, .int .i64, .int .i64, .int .i64]], [.rows true .iop]⟩
@[reducible] def BX : Sig := ⟨[.sv false .blk], [], [.agg [.int .i64, .int .i64, .own 0, .int .i64, .int .i64, .int .i64, .int .i64]], [.rows true .iop]⟩
@[reducible] def BZ : Sig := ⟨[.c (.pb 0 2 0)], [.box (.agg [.rows true .u8, .int .i64])], [.agg [.int .i64, .int .i64, .int .i64, .int .i64]], [.box (.agg [.rows true .u8, .int .i64])]⟩
@[reducible] def Ca : Sig := ⟨[.sv false .ins], [], [.c .bool], []⟩
@[reducible] def uR : Sig := ⟨[.sv false .ins], [], [.c .bool], []⟩
@[reducible] def uS : Sig := ⟨[.c (.int .i64)], [], [.c .bool], []⟩
@[reducible] def uT : Sig := ⟨[.sv false .ins], [], [.c .bool], []⟩
@[reducible] def Cc : Sig := ⟨[.c (.pb 0 2 0)], [.box (.agg [.rows true .u8, .int .i64])], [.agg [.int .i64, .int .i64, .int .i64, .int .i64]], [.box (.agg [.rows true .u8, .int .i64])]⟩
@[reducible] def Ce : Sig := ⟨[.c (.pb 0 2 0)], [.box (.agg [.rows true .u8, .int .i64])], [.c (.own 1)], [.box (.agg [.rows true .u8, .int .i64]), .rows true .ins]⟩
@[reducible] def Cg : Sig := ⟨[.c (.int .i64), .c (.rows false .ins)], [], [.c .bool], []⟩
@[reducible] def jh : Sig := ⟨[.agg [.int .i64, .int .i64, .own 0, .int .i64, .int .i64, .int .i64, .int .i64], .sv false .iop], [.rows true .iop], [.agg [.int .i64, .int .i64, .own 1, .int .i64, .int .i64, .int .i64, .int .i64], .c (.int .i64)], [.gone, .rows true .iop]⟩
@[reducible] def uU : Sig := ⟨[.agg [.int .i64, .int .i64, .own 0, .int .i64, .int .i64, .int .i64, .int .i64], .c (.int .i64), .c (.int .i64)], [.rows true .iop], [.agg [.int .i64, .int .i64, .own 1, .int .i64, .int .i64, .int .i64, .int .i64]], [.gone, .rows true .iop]⟩
@[reducible] def jT : Sig := ⟨[.agg [.int .i64, .int .i64, .own 0, .int .i64, .int .i64, .int .i64, .int .i64], .c (.int .i64)], [.rows true .iop], [.agg [.int .i64, .int .i64, .own 1, .int .i64, .int .i64, .int .i64, .int .i64], .c (.int .i64)], [.gone, .rows true .iop]⟩
@[reducible] def uV : Sig := ⟨[.agg [.int .i64, .int .i64, .own 0, .int .i64, .int .i64, .int .i64, .int .i64], .c (.int .i64), .c (.int .i64), .sv false .iop], [.rows true .iop], [.agg [.int .i64, .int .i64, .own 1, .int .i64, .int .i64, .int .i64, .int .i64], .c (.int .i64)], [.gone, .rows true .iop]⟩
@[reducible] def Ch : Sig := ⟨[.c (.int .i64)], [], [.c (.int .i64)], []⟩
@[reducible] def Ci : Sig := ⟨[.agg [.int .i64, .int .i64, .own 0, .int .i64, .int .i64, .int .i64, .int .i64], .sv false .ins, .c (.int .i64)], [.rows true .iop], [.agg [.int .i64, .int .i64, .own 1, .int .i64, .int .i64, .int .i64, .int .i64]], [.gone, .rows true .iop]⟩
@[reducible] def Cj : Sig := ⟨[.agg [.int .i64, .int .i64, .own 0, .int .i64, .int .i64, .int .i64, .int .i64], .sv false .ins], [.rows true .iop], [.agg [.int .i64, .int .i64, .own 1, .int .i64, .int .i64, .int .i64, .int .i64]], [.gone, .rows true .iop]⟩
@[reducible] def Ck : Sig := ⟨[.agg [.int .i64, .int .i64, .own 0, .int .i64, .int .i64, .int .i64, .int .i64], .sv false .ins, .c (.int .i64)], [.rows true .iop], [.agg [.int .i64, .int .i64, .own 1, .int .i64, .int .i64, .int .i64, .int .i64]], [.gone, .rows true .iop]⟩
@[reducible] def Cm : Sig := ⟨[.c (.int .i64), .c (.rows false .ins)], [], [.agg [.int .i64, .int .i64, .own 0, .int .i64, .int .i64, .int .i64, .int .i64]], [.rows true .iop]⟩
@[reducible] def Cn : Sig := ⟨[.c (.pb 0 2 0)], [.box (.agg [.rows true .u8, .int .i64])], [.agg [.int .i64, .int .i64, .own 1, .int .i64, .int .i64, .int .i64, .int .i64]], [.box (.agg [.rows true .u8, .int .i64]), .rows true .iop]⟩
@[reducible] def L6 : Sig := ⟨[.c (.int .i64)], [], [.c .bool], []⟩
@[reducible] def Ef : Sig := ⟨[.c (.int .i64), .c (.int .i64)], [], [.c (.int .i64)], []⟩
@[reducible] def L8 : Sig := ⟨[.c (.rows false .i64)], [], [.c (.int .i64)], []⟩
@[reducible] def J6 : Sig := ⟨[.c (.rows false .i64), .c (.rows false .i64)], [], [.c (.int .i64)], []⟩
@[reducible] def nZ : Sig := ⟨[.c (.rows false .i64), .c (.rows false .i64)], [], [.c (.int .i64)], []⟩
@[reducible] def dB : Sig := ⟨[.c (.int .i64), .c (.int .i64), .c (.int .i64)], [], [.c .bool], []⟩
@[reducible] def Eh : Sig := ⟨[.c (.int .i64), .c (.int .i64)], [], [.c .bool], []⟩
@[reducible] def Cq : Sig := ⟨[.c (.rows false .i64)], [], [.c .bool], []⟩
@[reducible] def J7 : Sig := ⟨[.c (.int .i64), .c (.pb 0 1 0)], [.box (.c (.int .i64))], [.c .bool], [.box (.c (.int .i64))]⟩
@[reducible] def Cr : Sig := ⟨[.c (.rows false .i64), .c (.fn 187 [(0, 1)])], [.box (.c (.int .i64))], [.c (.int .i64)], [.box (.c (.int .i64))]⟩
@[reducible] def Cu : Sig := ⟨[.c (.rows false .i64), .c (.fn 187 [(0, 1)])], [.box (.c (.int .i64))], [.c .bool], [.box (.c (.int .i64))]⟩
@[reducible] def Ad : Sig := ⟨[.sv false .poly, .c (.int .i64)], [], [.c .bool], []⟩
@[reducible] def J8 : Sig := ⟨[.sv false .mono], [], [.c .bool], []⟩
@[reducible] def Cv : Sig := ⟨[.c (.rows false .mono), .c (.fn 144 [])], [], [.c (.int .i64)], []⟩
@[reducible] def Cw : Sig := ⟨[.c (.rows false .mono), .c (.fn 144 [])], [], [.c .bool], []⟩
@[reducible] def jl : Sig := ⟨[.sv false .poly], [], [.c .bool], []⟩
@[reducible] def Ae : Sig := ⟨[.sv false .poly], [], [.c (.int .i64), .c .bool], []⟩
@[reducible] def vK : Sig := ⟨[.sv false .poly, .sv false .poly], [], [.c (.int .i64)], []⟩
@[reducible] def Af : Sig := ⟨[.c (.rows false .i64)], [], [.c (.own 0)], [.rows true .i64]⟩
@[reducible] def vL : Sig := ⟨[.sv false .poly], [], [.agg [.own 0]], [.rows true .mono]⟩
@[reducible] def J9 : Sig := ⟨[.c (.rows false .poly)], [], [.c (.own 0)], [.rows true .poly]⟩
@[reducible] def Ka : Sig := ⟨[.sv false .sym], [], [.agg [.own 0, .own 1, .int .i64, .own 2, .own 3, .int .i64]], [.rows true .ev, .rows true .poly, .rows true .mono, .rows true .mono]⟩
@[reducible] def vM : Sig := ⟨[.sv false .poly, .sv false .poly], [], [.c .bool], []⟩
@[reducible] def jJ : Sig := ⟨[.c (.int .i64)], [], [.c .bool], []⟩
@[reducible] def Kc : Sig := ⟨[.c (.int .i64), .c (.int .i64), .c (.int .i64)], [], [.c .bool], []⟩
@[reducible] def Ke : Sig := ⟨[.sv false .sym, .c (.int .i64)], [], [.sv true .sym], []⟩
@[reducible] def Kg : Sig := ⟨[], [], [.c .bool], []⟩
@[reducible] def Cx : Sig := ⟨[.c (.pb 0 2 0), .sv false .blk], [.box (.agg [.rows true .u8, .int .i64])], [.agg [.int .i64, .int .i64, .own 1, .int .i64, .int .i64, .int .i64, .int .i64]], [.box (.agg [.rows true .u8, .int .i64]), .rows true .iop]⟩
@[reducible] def Cy : Sig := ⟨[.c (.pb 0 2 0), .c (.int .i64)], [.box (.agg [.rows true .u8, .int .i64])], [.sv true .blk], [.box (.agg [.rows true .u8, .int .i64])]⟩
@[reducible] def Ag : Sig := ⟨[.c (.int .i64)], [], [.c .bool], []⟩
@[reducible] def Ah : Sig := ⟨[.c (.int .i64)], [], [.c .bool], []⟩
@[reducible] def Ai : Sig := ⟨[.sv false .atom, .c (.int .i64)], [], [.c .bool], []⟩
@[reducible] def Kh : Sig := ⟨[.sv false .atom, .sv false .atom], [], [.c .bool], []⟩
@[reducible] def Ki : Sig := ⟨[.sv false .atom, .c (.pb 0 4 0)], [.box (.sv false .atom)], [.c .bool], [.box (.sv false .atom)]⟩
@[reducible] def Cz : Sig := ⟨[.c (.rows false .atom), .c (.fn 167 [(0, 4)])], [.box (.sv false .atom)], [.c (.int .i64)], [.box (.sv false .atom)]⟩
@[reducible] def Aj : Sig := ⟨[.sv false .tab, .sv false .atom], [], [.c (.int .i64)], []⟩
@[reducible] def Ak : Sig := ⟨[.sv false .tab], [], [.c .bool], []⟩
@[reducible] def Al : Sig := ⟨[.sv false .iop], [], [.c .bool, .c .bool, .c .bool, .c .bool], []⟩
@[reducible] def Kj : Sig := ⟨[.sv false .iop], [], [.c .bool], []⟩
@[reducible] def Am : Sig := ⟨[.sv false .blk, .c (.int .i64), .c (.int .i64)], [], [.c .bool], []⟩
@[reducible] def Kk : Sig := ⟨[.sv false .blk, .c (.int .i64)], [], [.c .bool], []⟩
@[reducible] def Ao : Sig := ⟨[.sv false .blk], [], [.c .bool, .c .bool, .c .bool], []⟩
@[reducible] def Kl : Sig := ⟨[.sv false .blk], [], [.c .bool], []⟩
@[reducible] def Km : Sig := ⟨[.sv false .blk], [], [.c .bool], []⟩
@[reducible] def Kn : Sig := ⟨[.c (.rows true .atom)], [], [.c (.clip true .atom)], []⟩
@[reducible] def Ap : Sig := ⟨[.sv true .tab, .sv true .atom], [], [.sv true .tab, .c (.int .i64)], []⟩
@[reducible] def Aq : Sig := ⟨[.c (.int .i64)], [], [.agg [.own 0]], [.rows true .mono]⟩
@[reducible] def Ar : Sig := ⟨[.c (.pb 0 2 0), .c (.int .i64), .c (.int .i64)], [.box (.agg [.rows true .atom, .bool])], [.sv true .poly], [.box (.agg [.rows true .atom, .bool])]⟩
@[reducible] def Ko : Sig := ⟨[.c (.pb 0 2 0)], [.box (.agg [.rows true .atom, .bool])], [.c (.own 1)], [.box (.agg [.rows true .atom, .bool]), .rows true .poly]⟩
@[reducible] def Kq : Sig := ⟨[.sv false .iop], [], [.c .bool], []⟩
@[reducible] def Kr : Sig := ⟨[.c (.own 0)], [.rows true .poly], [.c (.own 1)], [.rows true .poly, .rows true .poly]⟩
@[reducible] def vN : Sig := ⟨[.c (.int .i64)], [], [.agg [.own 0]], [.rows true .mono]⟩
@[reducible] def vO : Sig := ⟨[.c (.int .i64)], [], [.c (.int .i64)], []⟩
@[reducible] def Kt : Sig := ⟨[.c (.int .i64), .c (.int .i64), .c (.int .i64)], [], [.c (.int .i64)], []⟩
@[reducible] def Au : Sig := ⟨[.sv false .mono, .sv false .mono], [], [.c (.int .i64)], []⟩
@[reducible] def CB : Sig := ⟨[.c (.own 0), .c (.int .i64), .c (.int .i64), .c (.fn 224 [])], [.rows false .mono], [], [.rows false .mono]⟩
@[reducible] def CF : Sig := ⟨[.c (.own 0), .c (.int .i64), .c (.int .i64), .c (.int .i64), .c (.fn 224 [])], [.rows false .mono], [], [.rows false .mono]⟩
@[reducible] def CG : Sig := ⟨[.c (.own 0), .c (.int .i64), .c (.int .i64), .c (.int .i64), .c (.fn 224 [])], [.rows false .mono], [], [.rows false .mono]⟩
@[reducible] def og : Sig := ⟨[.c (.own 0), .c (.int .i64), .c (.int .i64), .c (.int .i64), .c (.fn 224 [])], [.rows false .mono], [], [.rows false .mono]⟩
@[reducible] def CJ : Sig := ⟨[.c (.own 0), .c (.int .i64), .c (.fn 224 [])], [.rows false .mono], [], [.rows false .mono]⟩
@[reducible] def CK : Sig := ⟨[.c (.own 0), .c (.fn 224 [])], [.rows false .mono], [], [.rows false .mono]⟩
@[reducible] def Av : Sig := ⟨[.c (.own 0)], [.rows false .mono], [.agg [.own 1], .c .bool], [.rows false .mono, .rows true .mono]⟩
@[reducible] def CO : Sig := ⟨[.c (.nil), .c (.int .i64)], [], [.c (.own 0)], [.rows true .mono]⟩
@[reducible] def Ku : Sig := ⟨[.c (.rows false .poly)], [], [.c (.own 0)], [.rows false .mono]⟩
@[reducible] def Kv : Sig := ⟨[.sv false .poly, .sv false .poly], [], [.agg [.own 0], .c .bool], [.rows true .mono]⟩
@[reducible] def CP : Sig := ⟨[.c (.nil), .c (.int .i64)], [], [.c (.own 0)], [.rows true .i64]⟩
@[reducible] def Kw : Sig := ⟨[.c (.rows false .ints)], [], [.c (.own 0)], [.rows true .i64]⟩
@[reducible] def CQ : Sig := ⟨[.c (.own 0), .c (.int .i64), .c (.int .i64)], [.rows true .i64], [], [.rows true .i64]⟩
@[reducible] def FV : Sig := ⟨[.c (.own 0), .c (.int .i64), .c (.int .i64)], [.rows true .i64], [], [.rows true .i64]⟩
@[reducible] def FW : Sig := ⟨[.c (.own 0), .c (.int .i64), .c (.int .i64)], [.rows true .i64], [], [.rows true .i64]⟩
@[reducible] def FX : Sig := ⟨[.c (.own 0), .c (.int .i64), .c (.int .i64)], [.rows true .i64], [.c (.int .i64), .c (.int .i64)], [.rows true .i64]⟩
@[reducible] def FY : Sig := ⟨[.c (.own 0), .c (.int .i64), .c (.int .i64)], [.rows true .i64], [], [.rows true .i64]⟩
@[reducible] def FZ : Sig := ⟨[.c (.own 0), .c (.int .i64), .c (.int .i64)], [.rows true .i64], [.c .bool], [.rows true .i64]⟩
@[reducible] def F3 : Sig := ⟨[.c (.own 0), .c (.int .i64), .c (.int .i64), .c (.int .i64)], [.rows true .i64], [.c (.int .i64)], [.rows true .i64]⟩
@[reducible] def F4 : Sig := ⟨[.c (.own 0), .c (.int .i64), .c (.int .i64), .c (.int .i64)], [.rows true .i64], [.c (.int .i64), .c .bool], [.rows true .i64]⟩
@[reducible] def oh : Sig := ⟨[.c (.own 0), .c (.int .i64), .c (.int .i64), .c (.int .i64)], [.rows true .i64], [], [.rows true .i64]⟩
@[reducible] def Vt : Sig := ⟨[.c (.int .u64)], [], [.c (.int .i64)], []⟩
@[reducible] def CS : Sig := ⟨[.c (.own 0)], [.rows true .i64], [], [.rows true .i64]⟩
@[reducible] def Aw : Sig := ⟨[.sv false .poly, .sv false .poly], [], [.agg [.own 0], .c .bool], [.rows true .mono]⟩
@[reducible] def Ky : Sig := ⟨[.sv false .poly, .c (.int .i64)], [], [.agg [.own 0]], [.rows true .mono]⟩
@[reducible] def Kz : Sig := ⟨[.c (.int .i64), .sv true .poly, .sv true .poly], [], [.sv true .poly, .c .bool], []⟩
@[reducible] def KA : Sig := ⟨[.sv true .tab, .c (.int .i64), .sv true .poly, .sv true .poly], [], [.sv true .tab, .sv true .poly, .c .bool], []⟩
@[reducible] def KC : Sig := ⟨[.sv false .tab], [], [.agg [.own 0]], [.rows true .atom]⟩
@[reducible] def KD : Sig := ⟨[.sv true .tab, .sv false .blk], [], [.sv true .tab, .sv true .sym], []⟩
@[reducible] def CU : Sig := ⟨[.sv false .poly, .sv false .poly, .c (.int .i64)], [], [.c .bool], []⟩
@[reducible] def CV : Sig := ⟨[.sv false .tab, .c (.int .i64), .sv false .poly, .sv false .poly], [], [.agg [.own 0], .agg [.own 1]], [.rows true .atom, .rows true .mono]⟩
@[reducible] def CW : Sig := ⟨[.sv false .tab, .sv false .atom], [], [.agg [.own 0], .c (.int .i64)], [.rows true .atom]⟩
@[reducible] def CX : Sig := ⟨[.c (.pb 0 2 0)], [.box (.agg [.rows true .u8, .int .i64])], [.agg [.own 1]], [.box (.agg [.rows true .u8, .int .i64]), .rows true .atom]⟩
@[reducible] def CY : Sig := ⟨[.c (.pb 0 2 0), .c (.int .i64)], [.box (.agg [.rows true .u8, .int .i64])], [.agg [.own 1]], [.box (.agg [.rows true .u8, .int .i64]), .rows true .atom]⟩
@[reducible] def CZ : Sig := ⟨[.c (.rows true .u8)], [], [.sv true .tab, .sv true .blk], []⟩
@[reducible] def YP : Sig := ⟨[.c (.rows true .u8)], [], [.c .bool], []⟩
def F5 (A:Alg) (x:Tup A.ah [.l .u8]):Ot A Bq:=
 A.bind [.l .u8] (A.cond (A.cmp .gtr (A.len .u8 x.1) (A.lit 2000)) (A.chk (A.cmp .leq (A.lit 0) (A.lit 0))<|
 A.chk (A.cmp .leq (A.lit 0) (A.lit 2000))<|
 A.chk (A.cmp .leq (A.lit 2000) (A.len .u8 x.1))<|
 A.l1 (.l .u8) (A.sub .u8 x.1 (A.lit 0) (A.lit 2000)) fun x0=>
 A.ret _ (x0.1,()))<|
 A.ret _ (x.1,())) fun x0=>
 A.ret _ (x0.1,A.lit 0,())
def F6 (A:Alg) (x:Tup A.ah [.i,.l .u8,.i]):Ot A cu:=
 A.l1 .i (A.lit 0) fun x0=>
 A.l1 .i (A.arith .add .i64 x.2.2.1 (A.lit 1)) fun x1=>
 A.cond (A.ay (A.cmp .lss x.1 (A.lit 1)) (A.bl true) (A.cmp .eql (A.len .u8 x.2.1) (A.lit 0))) (A.l1 .i (A.lit 0) fun x2=>
 A.ret _ (x2.1,x.2.1,x1.1,()))<|
 A.l1 .i (A.arith .sub .i64 x1.1 (A.lit 1)) fun x2=>
 A.cond (A.cmp .lss x2.1 (A.len .u8 x.2.1)) (A.bd .u8 x.2.1 x2.1<|
 A.chk (A.cmp .neq x.1 (A.lit 0))<|
 A.l1 .i (A.arith .rem .i64 (A.conv .i64 (A.fI .u8 0 (A.get .u8 x.2.1 x2.1))) x.1) fun x3=>
 A.ret _ (x3.1,x.2.1,x1.1,()))<|
 A.chk (A.cmp .neq (A.len .u8 x.2.1) (A.lit 0))<|
 A.bd .u8 x.2.1 (A.arith .rem .i64 x2.1 (A.len .u8 x.2.1))<|
 A.chk (A.cmp .neq (A.len .u8 x.2.1) (A.lit 0))<|
 A.bd .u8 x.2.1 (A.arith .rem .i64 (A.arith .add .i64 (A.arith .mul .i64 x2.1 (A.lit 7)) (A.lit 3)) (A.len .u8 x.2.1))<|
 A.chk (A.cmp .neq (A.len .u8 x.2.1) (A.lit 0))<|
 A.l1 .i (A.arith .add .i64 (A.arith .add .i64 (A.arith .add .i64 (A.arith .mul .i64 (A.conv .i64 (A.fI .u8 0 (A.get .u8 x.2.1 (A.arith .rem .i64 x2.1 (A.len .u8 x.2.1))))) (A.lit 131)) (A.arith .mul .i64 (A.conv .i64 (A.fI .u8 0 (A.get .u8 x.2.1 (A.arith .rem .i64 (A.arith .add .i64 (A.arith .mul .i64 x2.1 (A.lit 7)) (A.lit 3)) (A.len .u8 x.2.1))))) (A.lit 1117))) (A.arith .mul .i64 x2.1 (A.lit 29))) (A.arith .mul .i64 (A.arith .quo .i64 x2.1 (A.len .u8 x.2.1)) (A.lit 53))) fun x3=>
 A.chk (A.cmp .neq (A.lit 64) (A.lit 0))<|
 A.l1 .i (A.arith .xor .i64 x3.1 (A.arith .quo .i64 x3.1 (A.lit 64))) fun x4=>
 A.chk (A.cmp .neq x.1 (A.lit 0))<|
 A.l1 .i (A.arith .rem .i64 x4.1 x.1) fun x5=>
 A.ret _ (x5.1,x.2.1,x1.1,())
def F7 (A:Alg) (x:Tup A.ah [.i,.i,.i]):Ot A bS:=
 A.l1 .b (A.bl false) fun x0=>
 A.l1 .b (A.ay (A.cmp .geq x.1 x.2.1) (A.cmp .leq x.1 x.2.2.1) (A.bl false)) fun x1=>
 A.ret _ (x1.1,())
def F8 (A:Alg) (cB:Pt A bS) (cO:Ft A bS) (x:Tup A.ah [.i]):Ot A uj:=
 A.cl cB cO (x.1,A.lit 1,A.lit 65535,()) fun x0=>
 A.cond (A.au x0.1) (A.ret _ (A.bC .mono,()))<|
 A.l1 (.l .mono) (A.lst .mono [A.mkX .mono (x.1,A.bC .i64,())]) fun x1=>
 A.ret _ (x1.1,())
def F9 (A:Alg) (aO:Pt A cu) (aP:Ft A cu) (x:Tup A.ah [.l .u8,.i]):Ot A Br:=
 A.l1 .i (A.lit 0) fun x0=>
 A.cl aO aP (A.lit 4,x.1,x.2.1,()) fun x1=>
 A.l1 .b (A.cmp .eql x1.1 (A.lit 0)) fun x2=>
 A.cond x2.1 (A.l1 (.l .i64) (A.lst .i64 [A.mkX .i64 (A.lit 0,()),A.mkX .i64 (A.lit 1,()),A.mkX .i64 (A.lit 2,()),A.mkX .i64 (A.lit 3,()),A.mkX .i64 (A.lit 65535,()),A.mkX .i64 (A.lit 32768,()),A.mkX .i64 (A.lit 255,()),A.mkX .i64 (A.lit 256,()),A.mkX .i64 (A.lit 65534,())]) fun x3=>
 A.cl aO aP (A.lit 9,x1.2.1,x1.2.2.1,()) fun x4=>
 A.bd .i64 x3.1 x4.1<|
 A.bd .i64 x3.1 x4.1<|
 A.l1 .i (A.fI .i64 0 (A.get .i64 x3.1 x4.1)) fun x5=>
 A.ret _ (x5.1,x4.2.1,x4.2.2.1,()))<|
 A.l1 .b (A.cmp .eql x1.1 (A.lit 1)) fun x3=>
 A.cond x3.1 (A.cl aO aP (A.lit 70,x1.2.1,x1.2.2.1,()) fun x4=>
 A.l1 .i x4.1 fun x5=>
 A.ret _ (x5.1,x4.2.1,x4.2.2.1,()))<|
 A.cl aO aP (A.lit 256,x1.2.1,x1.2.2.1,()) fun x4=>
 A.cl aO aP (A.lit 256,x4.2.1,x4.2.2.1,()) fun x5=>
 A.l1 .i (A.arith .add .i64 (A.arith .mul .i64 x4.1 (A.lit 256)) x5.1) fun x6=>
 A.ret _ (x6.1,x5.2.1,x5.2.2.1,())
def Ga (A:Alg) (aO:Pt A cu) (aP:Ft A cu) (x:Tup A.ah [.i,.l .u8,.i]):Ot A um:=
 A.l1 .b (A.bl false) fun x0=>
 A.cl aO aP (x.1,x.2.1,x.2.2.1,()) fun x1=>
 A.l1 .b (A.cmp .eql x1.1 (A.arith .sub .i64 x.1 (A.lit 1))) fun x2=>
 A.ret _ (x2.1,x1.2.1,x1.2.2.1,())
def Gb (A:Alg) (cB:Pt A bS) (cO:Ft A bS) (x:Tup A.ah [.x .mono]):Ot A Bu:=
 A.l1 .b (A.bl false) fun x0=>
 A.cl cB cO (A.fI .mono 0 x.1,A.lit 1,A.lit 65535,()) fun x1=>
 A.cond (A.ay (A.au x1.1) (A.bl true) (A.cmp .gtr (A.len .i64 (A.fL .mono 1 .i64 x.1)) (A.lit 4))) (A.l1 .b (A.bl false) fun x2=>
 A.ret _ (x2.1,()))<|
 A.l1 .i (A.lit 0) fun x2=>
 A.iter [.i,.x .mono] (fun x3=>
 A.cond (A.cmp .lss x3.1 (A.len .i64 (A.fL .mono 1 .i64 x3.2.1))) (A.bd .i64 (A.fL .mono 1 .i64 x3.2.1) x3.1<|
 A.cl cB cO (A.fI .i64 0 (A.get .i64 (A.fL .mono 1 .i64 x3.2.1) x3.1),A.lit 0,A.lit 199,()) fun x4=>
 A.chk (A.orB (A.au (A.jI (A.au (A.au x4.1)) (A.cmp .gtr x3.1 (A.lit 0)))) (A.cmp .leq (A.lit 0) (A.arith .sub .i64 x3.1 (A.lit 1))))<|
 A.chk (A.orB (A.au (A.jI (A.au (A.au x4.1)) (A.cmp .gtr x3.1 (A.lit 0)))) (A.cmp .lss (A.arith .sub .i64 x3.1 (A.lit 1)) (A.len .i64 (A.fL .mono 1 .i64 x3.2.1))))<|
 A.chk (A.orB (A.au (A.jI (A.au (A.au x4.1)) (A.cmp .gtr x3.1 (A.lit 0)))) (A.cmp .leq (A.lit 0) x3.1))<|
 A.chk (A.orB (A.au (A.jI (A.au (A.au x4.1)) (A.cmp .gtr x3.1 (A.lit 0)))) (A.cmp .lss x3.1 (A.len .i64 (A.fL .mono 1 .i64 x3.2.1))))<|
 A.cond (A.ay (A.au x4.1) (A.bl true) (A.ay (A.cmp .gtr x3.1 (A.lit 0)) (A.cmp .gtr (A.fI .i64 0 (A.get .i64 (A.fL .mono 1 .i64 x3.2.1) (A.arith .sub .i64 x3.1 (A.lit 1)))) (A.fI .i64 0 (A.get .i64 (A.fL .mono 1 .i64 x3.2.1) x3.1))) (A.bl false))) (A.l1 .b (A.bl false) fun x5=>
 A.inr _<|A.ret _ (x5.1,()))<|
 A.l1 .i (A.arith .add .i64 x3.1 (A.lit 1)) fun x5=>
 A.inl _ (x5.1,x3.2.1,()))<|
 A.inr _<|A.l1 .b (A.bl true) fun x4=>
 A.ret _ (x4.1,())) (x2.1,x.1,())
def Gc (A:Alg) (x:Tup A.ah [.l .i64,.l .i64]):Ot A mV:=
 A.l1 .i (A.lit 0) fun x0=>
 A.cond (A.cmp .neq (A.len .i64 x.1) (A.len .i64 x.2.1)) (A.cond (A.cmp .lss (A.len .i64 x.1) (A.len .i64 x.2.1)) (A.l1 .i (A.lit (-1)) fun x1=>
 A.ret _ (x1.1,()))<|
 A.l1 .i (A.lit 1) fun x1=>
 A.ret _ (x1.1,()))<|
 A.l1 .i (A.lit 0) fun x1=>
 A.iter [.l .i64,.l .i64,.i] (fun x2=>
 A.cond (A.cmp .lss x2.2.2.1 (A.len .i64 x2.1)) (A.bd .i64 x2.1 x2.2.2.1<|
 A.bd .i64 x2.2.1 x2.2.2.1<|
 A.cond (A.cmp .lss (A.fI .i64 0 (A.get .i64 x2.1 x2.2.2.1)) (A.fI .i64 0 (A.get .i64 x2.2.1 x2.2.2.1))) (A.l1 .i (A.lit (-1)) fun x3=>
 A.inr _<|A.ret _ (x3.1,()))<|
 A.bd .i64 x2.1 x2.2.2.1<|
 A.bd .i64 x2.2.1 x2.2.2.1<|
 A.cond (A.cmp .gtr (A.fI .i64 0 (A.get .i64 x2.1 x2.2.2.1)) (A.fI .i64 0 (A.get .i64 x2.2.1 x2.2.2.1))) (A.l1 .i (A.lit 1) fun x3=>
 A.inr _<|A.ret _ (x3.1,()))<|
 A.l1 .i (A.arith .add .i64 x2.2.2.1 (A.lit 1)) fun x3=>
 A.inl _ (x2.1,x2.2.1,x3.1,()))<|
 A.inr _<|A.l1 .i (A.lit 0) fun x3=>
 A.ret _ (x3.1,())) (x.1,x.2.1,x1.1,())
def Gd (A:Alg) (ah3:Pt A Bu) (ah4:Ft A Bu) (Gf:Pt A mV) (Gg:Ft A mV) (x:Tup A.ah [.x .poly]):Ot A gB:=
 A.l1 .b (A.bl false) fun x0=>
 A.cond (A.cmp .gtr (A.len .mono (A.fL .poly 0 .mono x.1)) (A.lit 12)) (A.l1 .b (A.bl false) fun x1=>
 A.ret _ (x1.1,()))<|
 A.l1 .i (A.lit 0) fun x1=>
 A.iter [.i,.x .poly] (fun x2=>
 A.cond (A.cmp .lss x2.1 (A.len .mono (A.fL .poly 0 .mono x2.2.1))) (A.bd .mono (A.fL .poly 0 .mono x2.2.1) x2.1<|
 A.cl ah3 ah4 (A.get .mono (A.fL .poly 0 .mono x2.2.1) x2.1,()) fun x3=>
 A.chk (A.orB (A.au (A.jI (A.au (A.au x3.1)) (A.cmp .gtr x2.1 (A.lit 0)))) (A.cmp .leq (A.lit 0) (A.arith .sub .i64 x2.1 (A.lit 1))))<|
 A.chk (A.orB (A.au (A.jI (A.au (A.au x3.1)) (A.cmp .gtr x2.1 (A.lit 0)))) (A.cmp .lss (A.arith .sub .i64 x2.1 (A.lit 1)) (A.len .mono (A.fL .poly 0 .mono x2.2.1))))<|
 A.chk (A.orB (A.au (A.jI (A.au (A.au x3.1)) (A.cmp .gtr x2.1 (A.lit 0)))) (A.cmp .leq (A.lit 0) x2.1))<|
 A.chk (A.orB (A.au (A.jI (A.au (A.au x3.1)) (A.cmp .gtr x2.1 (A.lit 0)))) (A.cmp .lss x2.1 (A.len .mono (A.fL .poly 0 .mono x2.2.1))))<|
 A.chk (A.orB (A.au (A.jI (A.au (A.au x3.1)) (A.cmp .gtr x2.1 (A.lit 0)))) (Gf (A.fL .mono 1 .i64 (A.get .mono (A.fL .poly 0 .mono x2.2.1) (A.arith .sub .i64 x2.1 (A.lit 1))),A.fL .mono 1 .i64 (A.get .mono (A.fL .poly 0 .mono x2.2.1) x2.1),())))<|
 A.bL _ (Gg (A.fL .mono 1 .i64 (A.get .mono (A.fL .poly 0 .mono x2.2.1) (A.arith .sub .i64 x2.1 (A.lit 1))),A.fL .mono 1 .i64 (A.get .mono (A.fL .poly 0 .mono x2.2.1) x2.1),())) fun x4=>
 A.cond (A.ay (A.au x3.1) (A.bl true) (A.ay (A.cmp .gtr x2.1 (A.lit 0)) (A.cmp .geq x4.1 (A.lit 0)) (A.bl false))) (A.l1 .b (A.bl false) fun x5=>
 A.inr _<|A.ret _ (x5.1,()))<|
 A.l1 .i (A.arith .add .i64 x2.1 (A.lit 1)) fun x5=>
 A.inl _ (x5.1,x2.2.1,()))<|
 A.inr _<|A.l1 .b (A.bl true) fun x3=>
 A.ret _ (x3.1,())) (x1.1,x.1,())
def Gh (A:Alg) (x:Tup A.ah [.i]):Ot A jQ:=
 A.l1 .i (A.lit 0) fun x0=>
 A.chk (A.cmp .neq (A.lit 65536) (A.lit 0))<|
 A.l1 .i (A.arith .rem .i64 x.1 (A.lit 65536)) fun x1=>
 A.bind [.i] (A.cond (A.cmp .lss x1.1 (A.lit 0)) (A.l1 .i (A.arith .add .i64 x1.1 (A.lit 65536)) fun x2=>
 A.ret _ (x2.1,()))<|
 A.ret _ (x1.1,())) fun x2=>
 A.l1 .i x2.1 fun x3=>
 A.ret _ (x3.1,())
def Gi (A:Alg) (Gf:Pt A mV) (Gg:Ft A mV) (uW:Pt A jQ) (uX:Ft A jQ) (x:Tup A.ah [.l .mono,.x .mono]):Ot A uo:=
 A.l1 (.l .mono) (A.lst .mono []) fun x0=>
 A.l1 .b (A.bl false) fun x1=>
 A.l1 .i (A.lit 0) fun x2=>
 A.iter [.l .mono,.b,.i,.x .mono,.l .mono] (fun x3=>
 A.cond (A.cmp .lss x3.2.2.1 (A.len .mono x3.1)) (A.bd .mono x3.1 x3.2.2.1<|
 A.cl Gf Gg (A.fL .mono 1 .i64 x3.2.2.2.1,A.fL .mono 1 .i64 (A.get .mono x3.1 x3.2.2.1),()) fun x4=>
 A.l1 .i x4.1 fun x5=>
 A.bind [.l .mono,.b,.i,.i,.x .mono,.l .mono] (A.cond (A.ay (A.au x3.2.1) (A.cmp .lss x5.1 (A.lit 0)) (A.bl false)) (A.l1 (.l .mono) (A.lst .mono [x3.2.2.2.1]) fun x6=>
 A.chk (A.cmp .leq (A.addN (A.len .mono x3.q.1) (A.len .mono x6.1)) (A.lit 1073741824))<|
 A.l1 (.l .mono) (A.app .mono x3.q.1 x6.1) fun x7=>
 A.l1 .b (A.bl true) fun x8=>
 A.ret _ (x3.1,x8.1,x3.2.2.1,x5.1,x3.2.2.2.1,x7.1,()))<|
 A.ret _ (x3.1,x3.2.1,x3.2.2.1,x5.1,x3.2.2.2.1,x3.q.1,())) fun x6=>
 A.bind [.l .mono,.b,.i,.x .mono,.l .mono] (A.cond (A.cmp .eql x6.2.2.2.1 (A.lit 0)) (A.l1 .b (A.bl true) fun x7=>
 A.bd .mono x6.1 x6.2.2.1<|
 A.cl uW uX (A.arith .add .i64 (A.fI .mono 0 (A.get .mono x6.1 x6.2.2.1)) (A.fI .mono 0 x6.q.1),()) fun x8=>
 A.l1 .i x8.1 fun x9=>
 A.bind [.l .mono,.b,.i,.x .mono,.l .mono] (A.cond (A.cmp .gtr x9.1 (A.lit 0)) (A.bd .mono x6.1 x6.2.2.1<|
 A.l1 (.l .mono) (A.lst .mono [A.mkX .mono (x9.1,A.fL .mono 1 .i64 (A.get .mono x6.1 x6.2.2.1),())]) fun x10=>
 A.chk (A.cmp .leq (A.addN (A.len .mono x6.q.2.1) (A.len .mono x10.1)) (A.lit 1073741824))<|
 A.l1 (.l .mono) (A.app .mono x6.q.2.1 x10.1) fun x11=>
 A.ret _ (x6.1,x7.1,x6.2.2.1,x6.q.1,x11.1,()))<|
 A.ret _ (x6.1,x7.1,x6.2.2.1,x6.q.1,x6.q.2.1,())) fun x10=>
 A.ret _ (x10.1,x10.2.1,x10.2.2.1,x10.2.2.2.1,x10.q.1,()))<|
 A.bd .mono x6.1 x6.2.2.1<|
 A.l1 (.l .mono) (A.lst .mono [A.get .mono x6.1 x6.2.2.1]) fun x7=>
 A.chk (A.cmp .leq (A.addN (A.len .mono x6.q.2.1) (A.len .mono x7.1)) (A.lit 1073741824))<|
 A.l1 (.l .mono) (A.app .mono x6.q.2.1 x7.1) fun x8=>
 A.ret _ (x6.1,x6.2.1,x6.2.2.1,x6.q.1,x8.1,())) fun x7=>
 A.l1 .i (A.arith .add .i64 x7.2.2.1 (A.lit 1)) fun x8=>
 A.inl _ (x7.1,x7.2.1,x8.1,x7.2.2.2.1,x7.q.1,()))<|
 A.inr _<|A.bind [.l .mono] (A.cond (A.au x3.2.1) (A.l1 (.l .mono) (A.lst .mono [x3.2.2.2.1]) fun x4=>
 A.chk (A.cmp .leq (A.addN (A.len .mono x3.q.1) (A.len .mono x4.1)) (A.lit 1073741824))<|
 A.l1 (.l .mono) (A.app .mono x3.q.1 x4.1) fun x5=>
 A.ret _ (x5.1,()))<|
 A.ret _ (x3.q.1,())) fun x4=>
 A.ret _ (x4.1,())) (x.1,x1.1,x2.1,x.2.1,x0.1,())
def Gj (A:Alg) (x:Tup A.ah [.l .mono]):Ot A jf:=
 A.l1 .i (A.lit 0) fun x0=>
 A.iter [.l .mono,.i,.l .mono] (fun x1=>
 A.cond (A.cmp .lss x1.2.1 (A.len .mono x1.1)) (A.bd .mono x1.1 x1.2.1<|
 A.bd .mono x1.1 x1.2.1<|
 A.chk (A.orB (A.cmp .lss (A.lit 0) (A.len .i64 (A.fL .mono 1 .i64 (A.get .mono x1.1 x1.2.1)))) (A.cmp .eql (A.len .i64 (A.lst .i64 [])) (A.lit 0)))<|
 A.chk (A.cmp .leq (A.addN (A.len .i64 (A.lst .i64 [])) (A.len .i64 (A.fL .mono 1 .i64 (A.get .mono x1.1 x1.2.1)))) (A.lit 1073741824))<|
 A.l1 (.l .i64) (A.app .i64 (A.lst .i64 []) (A.fL .mono 1 .i64 (A.get .mono x1.1 x1.2.1))) fun x2=>
 A.l1 (.l .mono) (A.lst .mono [A.mkX .mono (A.fI .mono 0 (A.get .mono x1.1 x1.2.1),x2.1,())]) fun x3=>
 A.chk (A.cmp .leq (A.addN (A.len .mono x1.2.2.1) (A.len .mono x3.1)) (A.lit 1073741824))<|
 A.l1 (.l .mono) (A.app .mono x1.2.2.1 x3.1) fun x4=>
 A.l1 .i (A.arith .add .i64 x1.2.1 (A.lit 1)) fun x5=>
 A.inl _ (x1.1,x5.1,x4.1,()))<|
 A.inr _<|A.ret _ (x1.2.2.1,())) (x.1,x0.1,A.bC .mono,())
def Gm (A:Alg) (o9:Pt A jf) (pq:Ft A jf) (x:Tup A.ah [.l .mono]):Ot A uw:=
 A.l1 .b (A.bl false) fun x0=>
 A.cond (A.cmp .gtr (A.len .mono x.1) (A.lit 12)) (A.l1 .b (A.bl false) fun x1=>
 A.ret _ (x1.1,A.bC .mono,()))<|
 A.l1 .i (A.lit 0) fun x1=>
 A.iter [.l .mono,.i] (fun x2=>
 A.cond (A.cmp .lss x2.2.1 (A.len .mono x2.1)) (A.bd .mono x2.1 x2.2.1<|
 A.cond (A.cmp .gtr (A.len .i64 (A.fL .mono 1 .i64 (A.get .mono x2.1 x2.2.1))) (A.lit 4)) (A.l1 .b (A.bl false) fun x3=>
 A.inr _<|A.ret _ (x3.1,A.bC .mono,()))<|
 A.l1 .i (A.arith .add .i64 x2.2.1 (A.lit 1)) fun x3=>
 A.inl _ (x2.1,x3.1,()))<|
 A.inr _<|A.cl o9 pq (x2.1,()) fun x3=>
 A.l1 .b (A.bl true) fun x4=>
 A.ret _ (x4.1,x3.1,())) (x.1,x1.1,())
def Gn (A:Alg) (jU:Pt A gB) (jV:Ft A gB) (R4:Pt A uo) (R5:Ft A uo) (R6:Pt A uw) (R7:Ft A uw) (x:Tup A.ah [.x .poly,.x .poly]):Ot A uz:=
 A.l1 .b (A.bl false) fun x0=>
 A.cl jU jV (x.1,()) fun x1=>
 A.chk (A.orB (A.au (A.au (A.au x1.1))) (jU (x.2.1,())))<|
 A.bL _ (jV (x.2.1,())) fun x2=>
 A.cond (A.ay (A.au x1.1) (A.bl true) (A.au x2.1)) (A.l1 .b (A.bl false) fun x3=>
 A.ret _ (x3.1,A.bC .mono,()))<|
 A.l1 (.l .mono) (A.fL .poly 0 .mono x.1) fun x3=>
 A.l1 .i (A.lit 0) fun x4=>
 A.iter [.l .mono,.i,.x .poly] (fun x5=>
 A.cond (A.cmp .lss x5.2.1 (A.len .mono (A.fL .poly 0 .mono x5.2.2.1))) (A.bd .mono (A.fL .poly 0 .mono x5.2.2.1) x5.2.1<|
 A.cl R4 R5 (x5.1,A.get .mono (A.fL .poly 0 .mono x5.2.2.1) x5.2.1,()) fun x6=>
 A.l1 .i (A.arith .add .i64 x5.2.1 (A.lit 1)) fun x7=>
 A.inl _ (x6.1,x7.1,x5.2.2.1,()))<|
 A.inr _<|A.cl R6 R7 (x5.1,()) fun x6=>
 A.l1 .b x6.1 fun x7=>
 A.ret _ (x7.1,x6.2.1,())) (x3.1,x4.1,x.2.1,())
def Gp (A:Alg) (cB:Pt A bS) (cO:Ft A bS) (x:Tup A.ah [.i]):Ot A jR:=
 A.cl cB cO (x.1,A.lit 0,A.lit 199,()) fun x0=>
 A.cond (A.au x0.1) (A.ret _ (A.bC .mono,()))<|
 A.l1 (.l .i64) (A.lst .i64 [A.mkX .i64 (x.1,())]) fun x1=>
 A.l1 (.l .mono) (A.lst .mono [A.mkX .mono (A.lit 1,x1.1,())]) fun x2=>
 A.ret _ (x2.1,())
def Gq (A:Alg) (x:Tup A.ah [.l .i64,.l .i64]):Ot A Bv:=
 A.l1 (.l .i64) (A.lst .i64 []) fun x0=>
 A.l1 .i (A.lit 0) fun x1=>
 A.l1 .i (A.lit 0) fun x2=>
 A.iter [.l .i64,.l .i64,.i,.i,.l .i64] (fun x3=>
 A.cond (A.cmp .lss x3.2.2.2.1 (A.len .i64 x3.2.1)) (A.iter [.l .i64,.l .i64,.i,.i,.l .i64] (fun x4=>
 A.chk (A.orB (A.au (A.cmp .lss x4.2.2.1 (A.len .i64 x4.1))) (A.cmp .leq (A.lit 0) x4.2.2.1))<|
 A.chk (A.orB (A.au (A.cmp .lss x4.2.2.1 (A.len .i64 x4.1))) (A.cmp .lss x4.2.2.1 (A.len .i64 x4.1)))<|
 A.chk (A.orB (A.au (A.cmp .lss x4.2.2.1 (A.len .i64 x4.1))) (A.cmp .leq (A.lit 0) x4.2.2.2.1))<|
 A.chk (A.orB (A.au (A.cmp .lss x4.2.2.1 (A.len .i64 x4.1))) (A.cmp .lss x4.2.2.2.1 (A.len .i64 x4.2.1)))<|
 A.cond (A.ay (A.cmp .lss x4.2.2.1 (A.len .i64 x4.1)) (A.cmp .leq (A.fI .i64 0 (A.get .i64 x4.1 x4.2.2.1)) (A.fI .i64 0 (A.get .i64 x4.2.1 x4.2.2.2.1))) (A.bl false)) (A.bd .i64 x4.1 x4.2.2.1<|
 A.l1 (.l .i64) (A.lst .i64 [A.mkX .i64 (A.fI .i64 0 (A.get .i64 x4.1 x4.2.2.1),())]) fun x5=>
 A.chk (A.cmp .leq (A.addN (A.len .i64 x4.q.1) (A.len .i64 x5.1)) (A.lit 1073741824))<|
 A.l1 (.l .i64) (A.app .i64 x4.q.1 x5.1) fun x6=>
 A.l1 .i (A.arith .add .i64 x4.2.2.1 (A.lit 1)) fun x7=>
 A.inl _ (x4.1,x4.2.1,x7.1,x4.2.2.2.1,x6.1,()))<|
 A.inr _<|A.bd .i64 x4.2.1 x4.2.2.2.1<|
 A.l1 (.l .i64) (A.lst .i64 [A.mkX .i64 (A.fI .i64 0 (A.get .i64 x4.2.1 x4.2.2.2.1),())]) fun x5=>
 A.chk (A.cmp .leq (A.addN (A.len .i64 x4.q.1) (A.len .i64 x5.1)) (A.lit 1073741824))<|
 A.l1 (.l .i64) (A.app .i64 x4.q.1 x5.1) fun x6=>
 A.l1 .i (A.arith .add .i64 x4.2.2.2.1 (A.lit 1)) fun x7=>
 A.inl _ (x4.1,x4.2.1,x4.2.2.1,x7.1,x6.1,())) (x3.1,x3.2.1,x3.2.2.1,x3.2.2.2.1,x3.q.1,()))<|
 A.inr _<|A.chk (A.cmp .leq (A.lit 0) x3.2.2.1)<|
 A.chk (A.cmp .leq x3.2.2.1 (A.len .i64 x3.1))<|
 A.chk (A.cmp .leq (A.len .i64 x3.1) (A.len .i64 x3.1))<|
 A.chk (A.cmp .leq (A.addN (A.len .i64 x3.q.1) (A.len .i64 (A.sub .i64 x3.1 x3.2.2.1 (A.len .i64 x3.1)))) (A.lit 1073741824))<|
 A.l1 (.l .i64) (A.app .i64 x3.q.1 (A.sub .i64 x3.1 x3.2.2.1 (A.len .i64 x3.1))) fun x4=>
 A.ret _ (x4.1,())) (x.1,x.2.1,x1.1,x2.1,x0.1,())
def Gr (A:Alg) (jU:Pt A gB) (jV:Ft A gB) (uW:Pt A jQ) (uX:Ft A jQ) (R4:Pt A uo) (R5:Ft A uo) (ah5:Pt A Bv) (ah6:Ft A Bv) (R6:Pt A uw) (R7:Ft A uw) (x:Tup A.ah [.x .poly,.x .poly]):Ot A uD:=
 A.l1 .b (A.bl false) fun x0=>
 A.cl jU jV (x.1,()) fun x1=>
 A.chk (A.orB (A.au (A.au (A.au x1.1))) (jU (x.2.1,())))<|
 A.bL _ (jV (x.2.1,())) fun x2=>
 A.cond (A.ay (A.au x1.1) (A.bl true) (A.au x2.1)) (A.l1 .b (A.bl false) fun x3=>
 A.ret _ (x3.1,A.bC .mono,()))<|
 A.l1 (.l .mono) (A.lst .mono []) fun x3=>
 A.l1 .i (A.lit 0) fun x4=>
 A.iter [.i,.x .poly,.x .poly,.l .mono] (fun x5=>
 A.cond (A.cmp .lss x5.1 (A.len .mono (A.fL .poly 0 .mono x5.2.1))) (A.l1 .i (A.lit 0) fun x6=>
 A.iter [.i,.i,.x .poly,.x .poly,.l .mono] (fun x7=>
 A.cond (A.cmp .lss x7.2.1 (A.len .mono (A.fL .poly 0 .mono x7.2.2.2.1))) (A.bd .mono (A.fL .poly 0 .mono x7.2.2.1) x7.1<|
 A.bd .mono (A.fL .poly 0 .mono x7.2.2.2.1) x7.2.1<|
 A.cl uW uX (A.arith .mul .i64 (A.fI .mono 0 (A.get .mono (A.fL .poly 0 .mono x7.2.2.1) x7.1)) (A.fI .mono 0 (A.get .mono (A.fL .poly 0 .mono x7.2.2.2.1) x7.2.1)),()) fun x8=>
 A.l1 .i x8.1 fun x9=>
 A.bind [.i,.i,.x .poly,.x .poly,.l .mono] (A.cond (A.cmp .gtr x9.1 (A.lit 0)) (A.bd .mono (A.fL .poly 0 .mono x7.2.2.1) x7.1<|
 A.bd .mono (A.fL .poly 0 .mono x7.2.2.2.1) x7.2.1<|
 A.cl ah5 ah6 (A.fL .mono 1 .i64 (A.get .mono (A.fL .poly 0 .mono x7.2.2.1) x7.1),A.fL .mono 1 .i64 (A.get .mono (A.fL .poly 0 .mono x7.2.2.2.1) x7.2.1),()) fun x10=>
 A.cl R4 R5 (x7.q.1,A.mkX .mono (x9.1,x10.1,()),()) fun x11=>
 A.ret _ (x7.1,x7.2.1,x7.2.2.1,x7.2.2.2.1,x11.1,()))<|
 A.ret _ (x7.1,x7.2.1,x7.2.2.1,x7.2.2.2.1,x7.q.1,())) fun x10=>
 A.l1 .i (A.arith .add .i64 x10.2.1 (A.lit 1)) fun x11=>
 A.inl _ (x10.1,x11.1,x10.2.2.1,x10.2.2.2.1,x10.q.1,()))<|
 A.inr _<|A.l1 .i (A.arith .add .i64 x7.1 (A.lit 1)) fun x8=>
 A.inl _ (x8.1,x7.2.2.1,x7.2.2.2.1,x7.q.1,())) (x5.1,x6.1,x5.2.1,x5.2.2.1,x5.2.2.2.1,()))<|
 A.inr _<|A.cl R6 R7 (x5.2.2.2.1,()) fun x6=>
 A.l1 .b x6.1 fun x7=>
 A.ret _ (x7.1,x6.2.1,())) (x4.1,x.1,x.2.1,x3.1,())
def Gs (A:Alg) (aO:Pt A cu) (aP:Ft A cu) (zh:Pt A jR) (zi:Ft A jR) (R8:Pt A uD) (R9:Ft A uD) (L9:Pt A uz) (Ma:Ft A uz) (Sb:Pt A uj) (Sc:Ft A uj) (YQ:Pt A Br) (YR:Ft A Br) (x:Tup A.ah [.i,.l .u8,.i]):Ot A Bw:=
 A.cl YQ YR (x.2.1,x.2.2.1,()) fun x0=>
 A.l1 (.l .i64) (A.lst .i64 [A.mkX .i64 (A.lit 0,()),A.mkX .i64 (A.lit 1,()),A.mkX .i64 (x0.1,())]) fun x1=>
 A.cl aO aP (A.lit 3,x0.2.1,x0.2.2.1,()) fun x2=>
 A.bd .i64 x1.1 x2.1<|
 A.bd .i64 x1.1 x2.1<|
 A.cl Sb Sc (A.fI .i64 0 (A.get .i64 x1.1 x2.1),()) fun x3=>
 A.l1 (.l .i64) (A.lst .i64 [A.mkX .i64 (A.lit 0,()),A.mkX .i64 (A.lit 1,()),A.mkX .i64 (A.lit 2,()),A.mkX .i64 (A.lit 3,()),A.mkX .i64 (A.lit 6,()),A.mkX .i64 (A.lit 12,())]) fun x4=>
 A.cl aO aP (A.lit 6,x2.2.1,x2.2.2.1,()) fun x5=>
 A.bd .i64 x4.1 x5.1<|
 A.bd .i64 x4.1 x5.1<|
 A.l1 .i (A.fI .i64 0 (A.get .i64 x4.1 x5.1)) fun x6=>
 A.iter [.i,.i,.l .u8,.i,.l .mono] (fun x7=>
 A.cond (A.cmp .gtr x7.2.1 (A.lit 0)) (A.cl YQ YR (x7.2.2.1,x7.2.2.2.1,()) fun x8=>
 A.chk (A.cmp .neq (A.lit 65535) (A.lit 0))<|
 A.l1 (.l .mono) (A.lst .mono [A.mkX .mono (A.arith .add .i64 (A.lit 1) (A.arith .rem .i64 x8.1 (A.lit 65535)),A.bC .i64,())]) fun x9=>
 A.cl aO aP (A.lit 3,x8.2.1,x8.2.2.1,()) fun x10=>
 A.l1 .i x10.1 fun x11=>
 A.iter [.i,.i,.i,.l .u8,.i,.l .mono,.l .mono] (fun x12=>
 A.cond (A.ay (A.cmp .gtr x12.2.2.1 (A.lit 0)) (A.cmp .gtr x12.1 (A.lit 0)) (A.bl false)) (A.cl aO aP (x12.1,x12.2.2.2.1,x12.q.1,()) fun x13=>
 A.cl zh zi (x13.1,()) fun x14=>
 A.cl R8 R9 (A.mkX .poly (x12.q.2.2.1,()),A.mkX .poly (x14.1,()),()) fun x15=>
 A.l1 .b x15.1 fun x16=>
 A.bind [.i,.i,.i,.l .u8,.i,.l .mono,.l .mono] (A.cond x16.1 (A.ret _ (x12.1,x12.2.1,x12.2.2.1,x13.2.1,x13.2.2.1,x12.q.2.1,x15.2.1,()))<|
 A.ret _ (x12.1,x12.2.1,x12.2.2.1,x13.2.1,x13.2.2.1,x12.q.2.1,x12.q.2.2.1,())) fun x17=>
 A.l1 .i (A.arith .sub .i64 x17.2.2.1 (A.lit 1)) fun x18=>
 A.inl _ (x17.1,x17.2.1,x18.1,x17.2.2.2.1,x17.q.1,x17.q.2.1,x17.q.2.2.1,()))<|
 A.inr _<|A.cl L9 Ma (A.mkX .poly (x12.q.2.1,()),A.mkX .poly (x12.q.2.2.1,()),()) fun x13=>
 A.l1 .b x13.1 fun x14=>
 A.bind [.i,.i,.l .u8,.i,.l .mono] (A.cond x14.1 (A.ret _ (x12.1,x12.2.1,x12.2.2.2.1,x12.q.1,x13.2.1,()))<|
 A.ret _ (x12.1,x12.2.1,x12.2.2.2.1,x12.q.1,x12.q.2.1,())) fun x15=>
 A.l1 .i (A.arith .sub .i64 x15.2.1 (A.lit 1)) fun x16=>
 A.inl _ (x15.1,x16.1,x15.2.2.1,x15.2.2.2.1,x15.q.1,())) (x7.1,x7.2.1,x11.1,x10.2.1,x10.2.2.1,x7.q.1,x9.1,()))<|
 A.inr _<|A.ret _ (x7.2.2.1,x7.2.2.2.1,x7.q.1,())) (x.1,x6.1,x5.2.1,x5.2.2.1,x3.1,())
def Gt (A:Alg) (x:Tup A.ah [.i]):Ot A jS:=
 A.l1 .b (A.bl false) fun x0=>
 A.l1 .b (A.ay (A.cmp .geq x.1 (A.lit 0)) (A.cmp .lss x.1 (A.lit 65536)) (A.bl false)) fun x1=>
 A.ret _ (x1.1,())
def Gu (A:Alg) (jU:Pt A gB) (jV:Ft A gB) (uW:Pt A jQ) (uX:Ft A jQ) (o9:Pt A jf) (pq:Ft A jf) (uY:Pt A jS) (uZ:Ft A jS) (x:Tup A.ah [.x .poly,.i]):Ot A Bz:=
 A.cl jU jV (x.1,()) fun x0=>
 A.chk (A.orB (A.au (A.au (A.au x0.1))) (uY (x.2.1,())))<|
 A.bL _ (uZ (x.2.1,())) fun x1=>
 A.cond (A.ay (A.au x0.1) (A.bl true) (A.au x1.1)) (A.ret _ (A.bC .mono,()))<|
 A.l1 (.l .mono) (A.lst .mono []) fun x2=>
 A.l1 .i (A.lit 0) fun x3=>
 A.iter [.i,.i,.x .poly,.l .mono] (fun x4=>
 A.cond (A.cmp .lss x4.2.1 (A.len .mono (A.fL .poly 0 .mono x4.2.2.1))) (A.bd .mono (A.fL .poly 0 .mono x4.2.2.1) x4.2.1<|
 A.cl uW uX (A.arith .mul .i64 (A.fI .mono 0 (A.get .mono (A.fL .poly 0 .mono x4.2.2.1) x4.2.1)) x4.1,()) fun x5=>
 A.l1 .i x5.1 fun x6=>
 A.bind [.i,.i,.x .poly,.l .mono] (A.cond (A.cmp .gtr x6.1 (A.lit 0)) (A.bd .mono (A.fL .poly 0 .mono x4.2.2.1) x4.2.1<|
 A.l1 (.l .mono) (A.lst .mono [A.mkX .mono (x6.1,A.fL .mono 1 .i64 (A.get .mono (A.fL .poly 0 .mono x4.2.2.1) x4.2.1),())]) fun x7=>
 A.chk (A.cmp .leq (A.addN (A.len .mono x4.2.2.2.1) (A.len .mono x7.1)) (A.lit 1073741824))<|
 A.l1 (.l .mono) (A.app .mono x4.2.2.2.1 x7.1) fun x8=>
 A.ret _ (x4.1,x4.2.1,x4.2.2.1,x8.1,()))<|
 A.ret _ (x4.1,x4.2.1,x4.2.2.1,x4.2.2.2.1,())) fun x7=>
 A.l1 .i (A.arith .add .i64 x7.2.1 (A.lit 1)) fun x8=>
 A.inl _ (x7.1,x8.1,x7.2.2.1,x7.2.2.2.1,()))<|
 A.inr _<|A.cl o9 pq (x4.2.2.2.1,()) fun x5=>
 A.ret _ (x5.1,())) (x.2.1,x3.1,x.1,x2.1,())
def Gw (A:Alg) (zh:Pt A jR) (zi:Ft A jR) (x:Tup A.ah []):Ot A BA:=
 A.l1 (.l .poly) (A.lst .poly []) fun x0=>
 A.l1 .i (A.lit 0) fun x1=>
 A.iter [.i,.l .poly,.l .atom] (fun x2=>
 A.cond (A.cmp .lss x2.1 (A.lit 4)) (A.l1 (.l .atom) (A.lst .atom [A.mkX .atom (A.lit 1,x2.1,A.bC .mono,A.bC .mono,())]) fun x3=>
 A.chk (A.cmp .leq (A.addN (A.len .atom x2.2.2.1) (A.len .atom x3.1)) (A.lit 1073741824))<|
 A.l1 (.l .atom) (A.app .atom x2.2.2.1 x3.1) fun x4=>
 A.cl zh zi (x2.1,()) fun x5=>
 A.l1 (.l .poly) (A.lst .poly [A.mkX .poly (x5.1,())]) fun x6=>
 A.chk (A.cmp .leq (A.addN (A.len .poly x2.2.1) (A.len .poly x6.1)) (A.lit 1073741824))<|
 A.l1 (.l .poly) (A.app .poly x2.2.1 x6.1) fun x7=>
 A.l1 .i (A.arith .add .i64 x2.1 (A.lit 1)) fun x8=>
 A.inl _ (x8.1,x7.1,x4.1,()))<|
 A.inr _<|A.ret _ (x2.2.2.1,x2.2.1,())) (x1.1,x0.1,A.bC .atom,())
def Gx (A:Alg) (jU:Pt A gB) (jV:Ft A gB) (x:Tup A.ah [.x .poly]):Ot A BD:=
 A.l1 .i (A.lit 0) fun x0=>
 A.l1 .b (A.bl false) fun x1=>
 A.cl jU jV (x.1,()) fun x2=>
 A.cond (A.au x2.1) (A.l1 .i (A.lit 0) fun x3=>
 A.l1 .b (A.bl false) fun x4=>
 A.ret _ (x3.1,x4.1,()))<|
 A.cond (A.cmp .eql (A.len .mono (A.fL .poly 0 .mono x.1)) (A.lit 0)) (A.l1 .i (A.lit 0) fun x3=>
 A.l1 .b (A.bl true) fun x4=>
 A.ret _ (x3.1,x4.1,()))<|
 A.chk (A.orB (A.au (A.au (A.cmp .gtr (A.len .mono (A.fL .poly 0 .mono x.1)) (A.lit 1)))) (A.cmp .leq (A.lit 0) (A.lit 0)))<|
 A.chk (A.orB (A.au (A.au (A.cmp .gtr (A.len .mono (A.fL .poly 0 .mono x.1)) (A.lit 1)))) (A.cmp .lss (A.lit 0) (A.len .mono (A.fL .poly 0 .mono x.1))))<|
 A.cond (A.ay (A.cmp .gtr (A.len .mono (A.fL .poly 0 .mono x.1)) (A.lit 1)) (A.bl true) (A.cmp .gtr (A.len .i64 (A.fL .mono 1 .i64 (A.get .mono (A.fL .poly 0 .mono x.1) (A.lit 0)))) (A.lit 0))) (A.l1 .i (A.lit 0) fun x3=>
 A.l1 .b (A.bl false) fun x4=>
 A.ret _ (x3.1,x4.1,()))<|
 A.bd .mono (A.fL .poly 0 .mono x.1) (A.lit 0)<|
 A.l1 .i (A.fI .mono 0 (A.get .mono (A.fL .poly 0 .mono x.1) (A.lit 0))) fun x3=>
 A.l1 .b (A.bl true) fun x4=>
 A.ret _ (x3.1,x4.1,())
def Gy (A:Alg) (Gf:Pt A mV) (Gg:Ft A mV) (x:Tup A.ah [.x .poly,.x .poly]):Ot A mW:=
 A.l1 .i (A.lit 0) fun x0=>
 A.cond (A.cmp .neq (A.len .mono (A.fL .poly 0 .mono x.1)) (A.len .mono (A.fL .poly 0 .mono x.2.1))) (A.cond (A.cmp .lss (A.len .mono (A.fL .poly 0 .mono x.1)) (A.len .mono (A.fL .poly 0 .mono x.2.1))) (A.l1 .i (A.lit (-1)) fun x1=>
 A.ret _ (x1.1,()))<|
 A.l1 .i (A.lit 1) fun x1=>
 A.ret _ (x1.1,()))<|
 A.l1 .i (A.lit 0) fun x1=>
 A.iter [.i,.x .poly,.x .poly] (fun x2=>
 A.cond (A.cmp .lss x2.1 (A.len .mono (A.fL .poly 0 .mono x2.2.1))) (A.bd .mono (A.fL .poly 0 .mono x2.2.1) x2.1<|
 A.bd .mono (A.fL .poly 0 .mono x2.2.2.1) x2.1<|
 A.cl Gf Gg (A.fL .mono 1 .i64 (A.get .mono (A.fL .poly 0 .mono x2.2.1) x2.1),A.fL .mono 1 .i64 (A.get .mono (A.fL .poly 0 .mono x2.2.2.1) x2.1),()) fun x3=>
 A.l1 .i x3.1 fun x4=>
 A.cond (A.cmp .neq x4.1 (A.lit 0)) (A.l1 .i x4.1 fun x5=>
 A.inr _<|A.ret _ (x5.1,()))<|
 A.bd .mono (A.fL .poly 0 .mono x2.2.1) x2.1<|
 A.bd .mono (A.fL .poly 0 .mono x2.2.2.1) x2.1<|
 A.cond (A.cmp .neq (A.fI .mono 0 (A.get .mono (A.fL .poly 0 .mono x2.2.1) x2.1)) (A.fI .mono 0 (A.get .mono (A.fL .poly 0 .mono x2.2.2.1) x2.1))) (A.bd .mono (A.fL .poly 0 .mono x2.2.1) x2.1<|
 A.bd .mono (A.fL .poly 0 .mono x2.2.2.1) x2.1<|
 A.cond (A.cmp .lss (A.fI .mono 0 (A.get .mono (A.fL .poly 0 .mono x2.2.1) x2.1)) (A.fI .mono 0 (A.get .mono (A.fL .poly 0 .mono x2.2.2.1) x2.1))) (A.l1 .i (A.lit (-1)) fun x5=>
 A.inr _<|A.ret _ (x5.1,()))<|
 A.l1 .i (A.lit 1) fun x5=>
 A.inr _<|A.ret _ (x5.1,()))<|
 A.l1 .i (A.arith .add .i64 x2.1 (A.lit 1)) fun x5=>
 A.inl _ (x5.1,x2.2.1,x2.2.2.1,()))<|
 A.inr _<|A.l1 .i (A.lit 0) fun x3=>
 A.ret _ (x3.1,())) (x1.1,x.1,x.2.1,())
def Gz (A:Alg) (cB:Pt A bS) (cO:Ft A bS) (x:Tup A.ah [.i]):Ot A BF:=
 A.l1 .b (A.bl false) fun x0=>
 A.cl cB cO (x.1,A.lit 1,A.lit 4,()) fun x1=>
 A.l1 .b (A.ay x1.1 (A.bl true) (A.cmp .eql x.1 (A.lit 6))) fun x2=>
 A.ret _ (x2.1,())
def GA (A:Alg) (ah7:Pt A BF) (ah8:Ft A BF) (x:Tup A.ah [.l .iop,.i,.i]):Ot A uE:=
 A.l1 .b (A.bl false) fun x0=>
 A.chk (A.orB (A.au (A.ay (A.cmp .geq x.2.1 (A.lit 0)) (A.cmp .lss x.2.1 x.2.2.1) (A.bl false))) (A.cmp .leq (A.lit 0) x.2.1))<|
 A.chk (A.orB (A.au (A.ay (A.cmp .geq x.2.1 (A.lit 0)) (A.cmp .lss x.2.1 x.2.2.1) (A.bl false))) (A.cmp .lss x.2.1 (A.len .iop x.1)))<|
 A.chk (A.orB (A.au (A.ay (A.cmp .geq x.2.1 (A.lit 0)) (A.cmp .lss x.2.1 x.2.2.1) (A.bl false))) (ah7 (A.fI .iop 0 (A.get .iop x.1 x.2.1),())))<|
 A.bL _ (ah8 (A.fI .iop 0 (A.get .iop x.1 x.2.1),())) fun x1=>
 A.l1 .b (A.ay (A.ay (A.cmp .geq x.2.1 (A.lit 0)) (A.cmp .lss x.2.1 x.2.2.1) (A.bl false)) x1.1 (A.bl false)) fun x2=>
 A.ret _ (x2.1,())
def GD (A:Alg) (uY:Pt A jS) (uZ:Ft A jS) (cB:Pt A bS) (cO:Ft A bS) (pz:Pt A uE) (pE:Ft A uE) (x:Tup A.ah [.l .iop,.i,.i]):Ot A BG:=
 A.l1 .b (A.bl false) fun x0=>
 A.bd .iop x.1 x.2.1<|
 A.l1 (.x .iop) (A.get .iop x.1 x.2.1) fun x1=>
 A.l1 .b (A.cmp .eql (A.fI .iop 0 x1.1) (A.lit 1)) fun x2=>
 A.cond x2.1 (A.chk (A.orB (A.au (A.ay (A.cmp .eql (A.fI .iop 1 x1.1) (A.lit 0)) (A.cmp .eql (A.fI .iop 2 x1.1) (A.lit 0)) (A.bl false))) (uY (A.fI .iop 3 x1.1,())))<|
 A.bL _ (uZ (A.fI .iop 3 x1.1,())) fun x3=>
 A.l1 .b (A.ay (A.ay (A.ay (A.cmp .eql (A.fI .iop 1 x1.1) (A.lit 0)) (A.cmp .eql (A.fI .iop 2 x1.1) (A.lit 0)) (A.bl false)) x3.1 (A.bl false)) (A.cmp .eql (A.fI .iop 4 x1.1) (A.lit 0)) (A.bl false)) fun x4=>
 A.ret _ (x4.1,()))<|
 A.l1 .b (A.cmp .eql (A.fI .iop 0 x1.1) (A.lit 2)) fun x3=>
 A.cond x3.1 (A.chk (A.orB (A.au (A.ay (A.cmp .eql (A.fI .iop 1 x1.1) (A.lit 0)) (A.cmp .eql (A.fI .iop 2 x1.1) (A.lit 0)) (A.bl false))) (cB (A.fI .iop 3 x1.1,A.lit 0,A.lit 3,())))<|
 A.bL _ (cO (A.fI .iop 3 x1.1,A.lit 0,A.lit 3,())) fun x4=>
 A.l1 .b (A.ay (A.ay (A.ay (A.cmp .eql (A.fI .iop 1 x1.1) (A.lit 0)) (A.cmp .eql (A.fI .iop 2 x1.1) (A.lit 0)) (A.bl false)) x4.1 (A.bl false)) (A.cmp .eql (A.fI .iop 4 x1.1) (A.lit 0)) (A.bl false)) fun x5=>
 A.ret _ (x5.1,()))<|
 A.l1 .b (A.cmp .eql (A.fI .iop 0 x1.1) (A.lit 3)) fun x4=>
 A.cond x4.1 (A.cl pz pE (x.1,A.fI .iop 1 x1.1,x.2.1,()) fun x5=>
 A.chk (A.orB (A.au x5.1) (pz (x.1,A.fI .iop 2 x1.1,x.2.1,())))<|
 A.bL _ (pE (x.1,A.fI .iop 2 x1.1,x.2.1,())) fun x6=>
 A.chk (A.orB (A.au (A.ay x5.1 x6.1 (A.bl false))) (cB (A.fI .iop 3 x1.1,A.lit 1,A.lit 5,())))<|
 A.bL _ (cO (A.fI .iop 3 x1.1,A.lit 1,A.lit 5,())) fun x7=>
 A.l1 .b (A.ay (A.ay (A.ay x5.1 x6.1 (A.bl false)) x7.1 (A.bl false)) (A.cmp .eql (A.fI .iop 4 x1.1) (A.lit 0)) (A.bl false)) fun x8=>
 A.ret _ (x8.1,()))<|
 A.l1 .b (A.cmp .eql (A.fI .iop 0 x1.1) (A.lit 4)) fun x5=>
 A.bind [.l .iop,.i,.i,.i,.b,.x .iop] (A.cond x5.1 (A.ret _ (x.1,x.2.1,x.2.2.1,A.fI .iop 0 x1.1,x5.1,x1.1,()))<|
 A.l1 .b (A.cmp .eql (A.fI .iop 0 x1.1) (A.lit 7)) fun x6=>
 A.ret _ (x.1,x.2.1,x.2.2.1,A.fI .iop 0 x1.1,x6.1,x1.1,())) fun x6=>
 A.cond x6.q.1 (A.cl pz pE (x6.1,A.fI .iop 1 x6.q.2.1,x6.2.1,()) fun x7=>
 A.chk (A.orB (A.au (A.ay (A.ay x7.1 (A.cmp .eql (A.fI .iop 2 x6.q.2.1) (A.lit 0)) (A.bl false)) (A.cmp .eql (A.fI .iop 3 x6.q.2.1) (A.lit 0)) (A.bl false))) (cB (A.fI .iop 4 x6.q.2.1,A.lit 0,A.arith .sub .i64 x6.2.2.1 (A.lit 1),())))<|
 A.bL _ (cO (A.fI .iop 4 x6.q.2.1,A.lit 0,A.arith .sub .i64 x6.2.2.1 (A.lit 1),())) fun x8=>
 A.l1 .b (A.ay (A.ay (A.ay x7.1 (A.cmp .eql (A.fI .iop 2 x6.q.2.1) (A.lit 0)) (A.bl false)) (A.cmp .eql (A.fI .iop 3 x6.q.2.1) (A.lit 0)) (A.bl false)) x8.1 (A.bl false)) fun x9=>
 A.ret _ (x9.1,()))<|
 A.l1 .b (A.cmp .eql x6.2.2.2.1 (A.lit 5)) fun x7=>
 A.cond x7.1 (A.cl pz pE (x6.1,A.fI .iop 1 x6.q.2.1,x6.2.1,()) fun x8=>
 A.chk (A.orB (A.au x8.1) (pz (x6.1,A.fI .iop 2 x6.q.2.1,x6.2.1,())))<|
 A.bL _ (pE (x6.1,A.fI .iop 2 x6.q.2.1,x6.2.1,())) fun x9=>
 A.chk (A.orB (A.au (A.ay (A.ay x8.1 x9.1 (A.bl false)) (A.cmp .eql (A.fI .iop 3 x6.q.2.1) (A.lit 0)) (A.bl false))) (cB (A.fI .iop 4 x6.q.2.1,A.lit 0,A.arith .sub .i64 x6.2.2.1 (A.lit 1),())))<|
 A.bL _ (cO (A.fI .iop 4 x6.q.2.1,A.lit 0,A.arith .sub .i64 x6.2.2.1 (A.lit 1),())) fun x10=>
 A.l1 .b (A.ay (A.ay (A.ay x8.1 x9.1 (A.bl false)) (A.cmp .eql (A.fI .iop 3 x6.q.2.1) (A.lit 0)) (A.bl false)) x10.1 (A.bl false)) fun x11=>
 A.ret _ (x11.1,()))<|
 A.l1 .b (A.cmp .eql x6.2.2.2.1 (A.lit 6)) fun x8=>
 A.cond x8.1 (A.chk (A.orB (A.au (A.ay (A.ay (A.cmp .eql (A.fI .iop 1 x6.q.2.1) (A.lit 0)) (A.cmp .eql (A.fI .iop 2 x6.q.2.1) (A.lit 0)) (A.bl false)) (A.cmp .eql (A.fI .iop 3 x6.q.2.1) (A.lit 0)) (A.bl false))) (cB (A.fI .iop 4 x6.q.2.1,A.lit 0,A.arith .sub .i64 x6.2.2.1 (A.lit 1),())))<|
 A.bL _ (cO (A.fI .iop 4 x6.q.2.1,A.lit 0,A.arith .sub .i64 x6.2.2.1 (A.lit 1),())) fun x9=>
 A.l1 .b (A.ay (A.ay (A.ay (A.cmp .eql (A.fI .iop 1 x6.q.2.1) (A.lit 0)) (A.cmp .eql (A.fI .iop 2 x6.q.2.1) (A.lit 0)) (A.bl false)) (A.cmp .eql (A.fI .iop 3 x6.q.2.1) (A.lit 0)) (A.bl false)) x9.1 (A.bl false)) fun x10=>
 A.ret _ (x10.1,()))<|
 A.l1 .b (A.cmp .eql x6.2.2.2.1 (A.lit 8)) fun x9=>
 A.cond x9.1 (A.cl pz pE (x6.1,A.fI .iop 1 x6.q.2.1,x6.2.1,()) fun x10=>
 A.chk (A.orB (A.au (A.ay x10.1 (A.cmp .eql (A.fI .iop 2 x6.q.2.1) (A.lit 0)) (A.bl false))) (cB (A.fI .iop 3 x6.q.2.1,A.lit 0,A.lit 3,())))<|
 A.bL _ (cO (A.fI .iop 3 x6.q.2.1,A.lit 0,A.lit 3,())) fun x11=>
 A.l1 .b (A.ay (A.ay (A.ay x10.1 (A.cmp .eql (A.fI .iop 2 x6.q.2.1) (A.lit 0)) (A.bl false)) x11.1 (A.bl false)) (A.cmp .eql (A.fI .iop 4 x6.q.2.1) (A.lit 0)) (A.bl false)) fun x12=>
 A.ret _ (x12.1,()))<|
 A.l1 .b (A.bl false) fun x10=>
 A.ret _ (x10.1,())
def GH (A:Alg) (uY:Pt A jS) (uZ:Ft A jS) (pz:Pt A uE) (pE:Ft A uE) (x:Tup A.ah [.x .blk]):Ot A BH:=
 A.l1 .b (A.bl false) fun x0=>
 A.l1 .i (A.len .iop (A.fL .blk 2 .iop x.1)) fun x1=>
 A.l1 .b (A.cmp .eql (A.fI .blk 3 x.1) (A.lit 1)) fun x2=>
 A.cond x2.1 (A.chk (A.orB (A.au (A.ay (A.cmp .eql (A.fI .blk 4 x.1) (A.lit 0)) (A.cmp .eql (A.fI .blk 5 x.1) (A.lit 0)) (A.bl false))) (uY (A.fI .blk 6 x.1,())))<|
 A.bL _ (uZ (A.fI .blk 6 x.1,())) fun x3=>
 A.l1 .b (A.ay (A.ay (A.cmp .eql (A.fI .blk 4 x.1) (A.lit 0)) (A.cmp .eql (A.fI .blk 5 x.1) (A.lit 0)) (A.bl false)) x3.1 (A.bl false)) fun x4=>
 A.ret _ (x4.1,()))<|
 A.l1 .b (A.cmp .eql (A.fI .blk 3 x.1) (A.lit 2)) fun x3=>
 A.cond x3.1 (A.cl pz pE (A.fL .blk 2 .iop x.1,A.fI .blk 4 x.1,x1.1,()) fun x4=>
 A.l1 .b (A.ay (A.ay x4.1 (A.cmp .eql (A.fI .blk 5 x.1) (A.lit 0)) (A.bl false)) (A.cmp .eql (A.fI .blk 6 x.1) (A.lit 0)) (A.bl false)) fun x5=>
 A.ret _ (x5.1,()))<|
 A.l1 .b (A.cmp .eql (A.fI .blk 3 x.1) (A.lit 3)) fun x4=>
 A.bind [.i,.b,.x .blk] (A.cond x4.1 (A.ret _ (x1.1,x4.1,x.1,()))<|
 A.l1 .b (A.cmp .eql (A.fI .blk 3 x.1) (A.lit 4)) fun x5=>
 A.ret _ (x1.1,x5.1,x.1,())) fun x5=>
 A.cond x5.2.1 (A.cl pz pE (A.fL .blk 2 .iop x5.2.2.1,A.fI .blk 4 x5.2.2.1,x5.1,()) fun x6=>
 A.chk (A.orB (A.au x6.1) (pz (A.fL .blk 2 .iop x5.2.2.1,A.fI .blk 5 x5.2.2.1,x5.1,())))<|
 A.bL _ (pE (A.fL .blk 2 .iop x5.2.2.1,A.fI .blk 5 x5.2.2.1,x5.1,())) fun x7=>
 A.chk (A.orB (A.au (A.ay x6.1 x7.1 (A.bl false))) (uY (A.fI .blk 6 x5.2.2.1,())))<|
 A.bL _ (uZ (A.fI .blk 6 x5.2.2.1,())) fun x8=>
 A.l1 .b (A.ay (A.ay x6.1 x7.1 (A.bl false)) x8.1 (A.bl false)) fun x9=>
 A.ret _ (x9.1,()))<|
 A.l1 .b (A.bl false) fun x6=>
 A.ret _ (x6.1,())
def GI (A:Alg) (cB:Pt A bS) (cO:Ft A bS) (ah9:Pt A BH) (aia:Ft A BH) (aib:Pt A BG) (aic:Ft A BG) (x:Tup A.ah [.x .blk]):Ot A jg:=
 A.l1 .b (A.bl false) fun x0=>
 A.cl cB cO (A.fI .blk 1 x.1,A.lit 1,A.lit 8,()) fun x1=>
 A.chk (A.orB (A.au (A.au (A.au x1.1))) (cB (A.fI .blk 0 x.1,A.lit 0,A.arith .sub .i64 (A.lit 64) (A.fI .blk 1 x.1),())))<|
 A.bL _ (cO (A.fI .blk 0 x.1,A.lit 0,A.arith .sub .i64 (A.lit 64) (A.fI .blk 1 x.1),())) fun x2=>
 A.cond (A.ay (A.ay (A.au x1.1) (A.bl true) (A.au x2.1)) (A.bl true) (A.cmp .gtr (A.len .iop (A.fL .blk 2 .iop x.1)) (A.lit 48))) (A.l1 .b (A.bl false) fun x3=>
 A.ret _ (x3.1,()))<|
 A.l1 .i (A.lit 0) fun x3=>
 A.iter [.i,.x .blk] (fun x4=>
 A.cond (A.cmp .lss x4.1 (A.len .iop (A.fL .blk 2 .iop x4.2.1))) (A.cl aib aic (A.fL .blk 2 .iop x4.2.1,x4.1,A.fI .blk 1 x4.2.1,()) fun x5=>
 A.cond (A.au x5.1) (A.l1 .b (A.bl false) fun x6=>
 A.inr _<|A.ret _ (x6.1,()))<|
 A.l1 .i (A.arith .add .i64 x4.1 (A.lit 1)) fun x6=>
 A.inl _ (x6.1,x4.2.1,()))<|
 A.inr _<|A.cl ah9 aia (x4.2.1,()) fun x5=>
 A.l1 .b x5.1 fun x6=>
 A.ret _ (x6.1,())) (x3.1,x.1,())
def GJ (A:Alg) (x:Tup A.ah [.x .atom]):Ot A BI:=
 A.l1 .b (A.bl false) fun x0=>
 A.l1 .b (A.ay (A.cmp .eql (A.len .mono (A.fL .atom 2 .mono x.1)) (A.lit 0)) (A.cmp .eql (A.len .mono (A.fL .atom 3 .mono x.1)) (A.lit 0)) (A.bl false)) fun x1=>
 A.ret _ (x1.1,())
def GK (A:Alg) (x:Tup A.ah [.x .poly,.i]):Ot A uF:=
 A.l1 .b (A.bl false) fun x0=>
 A.l1 .i (A.lit 0) fun x1=>
 A.iter [.i,.i,.x .poly] (fun x2=>
 A.cond (A.cmp .lss x2.2.1 (A.len .mono (A.fL .poly 0 .mono x2.2.2.1))) (A.l1 .i (A.lit 0) fun x3=>
 A.iter [.i,.i,.i,.x .poly] (fun x4=>
 A.bd .mono (A.fL .poly 0 .mono x4.2.2.2.1) x4.2.1<|
 A.cond (A.cmp .lss x4.2.2.1 (A.len .i64 (A.fL .mono 1 .i64 (A.get .mono (A.fL .poly 0 .mono x4.2.2.2.1) x4.2.1)))) (A.bd .mono (A.fL .poly 0 .mono x4.2.2.2.1) x4.2.1<|
 A.bd .i64 (A.fL .mono 1 .i64 (A.get .mono (A.fL .poly 0 .mono x4.2.2.2.1) x4.2.1)) x4.2.2.1<|
 A.cond (A.cmp .geq (A.fI .i64 0 (A.get .i64 (A.fL .mono 1 .i64 (A.get .mono (A.fL .poly 0 .mono x4.2.2.2.1) x4.2.1)) x4.2.2.1)) x4.1) (A.l1 .b (A.bl false) fun x5=>
 A.inr _<|A.inr _<|A.ret _ (x5.1,()))<|
 A.l1 .i (A.arith .add .i64 x4.2.2.1 (A.lit 1)) fun x5=>
 A.inl _ (x4.1,x4.2.1,x5.1,x4.2.2.2.1,()))<|
 A.inr _<|A.l1 .i (A.arith .add .i64 x4.2.1 (A.lit 1)) fun x5=>
 A.inl _ (x4.1,x5.1,x4.2.2.2.1,())) (x2.1,x2.2.1,x3.1,x2.2.2.1,()))<|
 A.inr _<|A.l1 .b (A.bl true) fun x3=>
 A.ret _ (x3.1,())) (x.2.1,x1.1,x.1,())
def GL (A:Alg) (cB:Pt A bS) (cO:Ft A bS) (jU:Pt A gB) (jV:Ft A gB) (GN:Pt A uF) (GQ:Ft A uF) (YS:Pt A BI) (YT:Ft A BI) (x:Tup A.ah [.x .atom,.i]):Ot A uG:=
 A.l1 .b (A.bl false) fun x0=>
 A.l1 .b (A.cmp .eql (A.fI .atom 0 x.1) (A.lit 1)) fun x1=>
 A.cond x1.1 (A.cl cB cO (A.fI .atom 1 x.1,A.lit 0,A.lit 3,()) fun x2=>
 A.chk (A.orB (A.au x2.1) (YS (x.1,())))<|
 A.bL _ (YT (x.1,())) fun x3=>
 A.l1 .b (A.ay x2.1 x3.1 (A.bl false)) fun x4=>
 A.ret _ (x4.1,()))<|
 A.l1 .b (A.cmp .eql (A.fI .atom 0 x.1) (A.lit 2)) fun x2=>
 A.bind [.i,.i,.b,.x .atom] (A.cond x2.1 (A.ret _ (x.2.1,A.fI .atom 0 x.1,x2.1,x.1,()))<|
 A.l1 .b (A.cmp .eql (A.fI .atom 0 x.1) (A.lit 3)) fun x3=>
 A.ret _ (x.2.1,A.fI .atom 0 x.1,x3.1,x.1,())) fun x3=>
 A.cond x3.2.2.1 (A.cl cB cO (A.fI .atom 1 x3.2.2.2.1,A.lit 0,A.lit 199,()) fun x4=>
 A.chk (A.orB (A.au x4.1) (YS (x3.2.2.2.1,())))<|
 A.bL _ (YT (x3.2.2.2.1,())) fun x5=>
 A.l1 .b (A.ay x4.1 x5.1 (A.bl false)) fun x6=>
 A.ret _ (x6.1,()))<|
 A.l1 .b (A.cmp .eql x3.2.1 (A.lit 4)) fun x4=>
 A.cond x4.1 (A.cl cB cO (A.fI .atom 1 x3.2.2.2.1,A.lit 1,A.lit 5,()) fun x5=>
 A.chk (A.orB (A.au x5.1) (jU (A.mkX .poly (A.fL .atom 2 .mono x3.2.2.2.1,()),())))<|
 A.bL _ (jV (A.mkX .poly (A.fL .atom 2 .mono x3.2.2.2.1,()),())) fun x6=>
 A.chk (A.orB (A.au (A.ay x5.1 x6.1 (A.bl false))) (jU (A.mkX .poly (A.fL .atom 3 .mono x3.2.2.2.1,()),())))<|
 A.bL _ (jV (A.mkX .poly (A.fL .atom 3 .mono x3.2.2.2.1,()),())) fun x7=>
 A.chk (A.orB (A.au (A.ay (A.ay x5.1 x6.1 (A.bl false)) x7.1 (A.bl false))) (GN (A.mkX .poly (A.fL .atom 2 .mono x3.2.2.2.1,()),x3.1,())))<|
 A.bL _ (GQ (A.mkX .poly (A.fL .atom 2 .mono x3.2.2.2.1,()),x3.1,())) fun x8=>
 A.chk (A.orB (A.au (A.ay (A.ay (A.ay x5.1 x6.1 (A.bl false)) x7.1 (A.bl false)) x8.1 (A.bl false))) (GN (A.mkX .poly (A.fL .atom 3 .mono x3.2.2.2.1,()),x3.1,())))<|
 A.bL _ (GQ (A.mkX .poly (A.fL .atom 3 .mono x3.2.2.2.1,()),x3.1,())) fun x9=>
 A.l1 .b (A.ay (A.ay (A.ay (A.ay x5.1 x6.1 (A.bl false)) x7.1 (A.bl false)) x8.1 (A.bl false)) x9.1 (A.bl false)) fun x10=>
 A.ret _ (x10.1,()))<|
 A.l1 .b (A.bl false) fun x5=>
 A.ret _ (x5.1,())
def GU (A:Alg) (C8:Pt A mW) (C9:Ft A mW) (x:Tup A.ah [.x .atom,.x .atom]):Ot A uH:=
 A.l1 .b (A.bl false) fun x0=>
 A.chk (A.orB (A.au (A.ay (A.cmp .eql (A.fI .atom 0 x.1) (A.fI .atom 0 x.2.1)) (A.cmp .eql (A.fI .atom 1 x.1) (A.fI .atom 1 x.2.1)) (A.bl false))) (C8 (A.mkX .poly (A.fL .atom 2 .mono x.1,()),A.mkX .poly (A.fL .atom 2 .mono x.2.1,()),())))<|
 A.bL _ (C9 (A.mkX .poly (A.fL .atom 2 .mono x.1,()),A.mkX .poly (A.fL .atom 2 .mono x.2.1,()),())) fun x1=>
 A.chk (A.orB (A.au (A.ay (A.ay (A.cmp .eql (A.fI .atom 0 x.1) (A.fI .atom 0 x.2.1)) (A.cmp .eql (A.fI .atom 1 x.1) (A.fI .atom 1 x.2.1)) (A.bl false)) (A.cmp .eql x1.1 (A.lit 0)) (A.bl false))) (C8 (A.mkX .poly (A.fL .atom 3 .mono x.1,()),A.mkX .poly (A.fL .atom 3 .mono x.2.1,()),())))<|
 A.bL _ (C9 (A.mkX .poly (A.fL .atom 3 .mono x.1,()),A.mkX .poly (A.fL .atom 3 .mono x.2.1,()),())) fun x2=>
 A.l1 .b (A.ay (A.ay (A.ay (A.cmp .eql (A.fI .atom 0 x.1) (A.fI .atom 0 x.2.1)) (A.cmp .eql (A.fI .atom 1 x.1) (A.fI .atom 1 x.2.1)) (A.bl false)) (A.cmp .eql x1.1 (A.lit 0)) (A.bl false)) (A.cmp .eql x2.1 (A.lit 0)) (A.bl false)) fun x3=>
 A.ret _ (x3.1,())
def GV (A:Alg) (Sd:Pt A uG) (Sg:Ft A uG) (Si:Pt A uH) (Sj:Ft A uH) (x:Tup A.ah [.x .tab]):Ot A uI:=
 A.l1 .b (A.bl false) fun x0=>
 A.cond (A.cmp .gtr (A.len .atom (A.fL .tab 0 .atom x.1)) (A.lit 200)) (A.l1 .b (A.bl false) fun x1=>
 A.ret _ (x1.1,()))<|
 A.l1 .i (A.lit 0) fun x1=>
 A.iter [.i,.x .tab] (fun x2=>
 A.cond (A.cmp .lss x2.1 (A.len .atom (A.fL .tab 0 .atom x2.2.1))) (A.bd .atom (A.fL .tab 0 .atom x2.2.1) x2.1<|
 A.cl Sd Sg (A.get .atom (A.fL .tab 0 .atom x2.2.1) x2.1,x2.1,()) fun x3=>
 A.cond (A.au x3.1) (A.l1 .b (A.bl false) fun x4=>
 A.inr _<|A.ret _ (x4.1,()))<|
 A.l1 .i (A.lit 0) fun x4=>
 A.iter [.i,.i,.x .tab] (fun x5=>
 A.cond (A.cmp .lss x5.2.1 x5.1) (A.bd .atom (A.fL .tab 0 .atom x5.2.2.1) x5.2.1<|
 A.bd .atom (A.fL .tab 0 .atom x5.2.2.1) x5.1<|
 A.cl Si Sj (A.get .atom (A.fL .tab 0 .atom x5.2.2.1) x5.2.1,A.get .atom (A.fL .tab 0 .atom x5.2.2.1) x5.1,()) fun x6=>
 A.cond x6.1 (A.l1 .b (A.bl false) fun x7=>
 A.inr _<|A.inr _<|A.ret _ (x7.1,()))<|
 A.l1 .i (A.arith .add .i64 x5.2.1 (A.lit 1)) fun x7=>
 A.inl _ (x5.1,x7.1,x5.2.2.1,()))<|
 A.inr _<|A.l1 .i (A.arith .add .i64 x5.1 (A.lit 1)) fun x6=>
 A.inl _ (x6.1,x5.2.2.1,())) (x2.1,x4.1,x2.2.1,()))<|
 A.inr _<|A.l1 .b (A.bl true) fun x3=>
 A.ret _ (x3.1,())) (x1.1,x.1,())
def GX (A:Alg) (o9:Pt A jf) (pq:Ft A jf) (x:Tup A.ah [.x .atom]):Ot A uJ:=
 A.cl o9 pq (A.fL .atom 2 .mono x.1,()) fun x0=>
 A.cl o9 pq (A.fL .atom 3 .mono x.1,()) fun x1=>
 A.ret _ (A.fI .atom 0 x.1,A.fI .atom 1 x.1,x0.1,x1.1,())
def GY (A:Alg) (Sk:Pt A uJ) (Sl:Ft A uJ) (x:Tup A.ah [.x .tab]):Ot A uK:=
 A.l1 .i (A.lit 0) fun x0=>
 A.iter [.i,.x .tab,.l .atom] (fun x1=>
 A.cond (A.cmp .lss x1.1 (A.len .atom (A.fL .tab 0 .atom x1.2.1))) (A.bd .atom (A.fL .tab 0 .atom x1.2.1) x1.1<|
 A.cl Sk Sl (A.get .atom (A.fL .tab 0 .atom x1.2.1) x1.1,()) fun x2=>
 A.l1 (.l .atom) (A.lst .atom [A.mkX .atom (x2.1,x2.2.1,x2.2.2.1,x2.2.2.2.1,())]) fun x3=>
 A.chk (A.cmp .leq (A.addN (A.len .atom x1.2.2.1) (A.len .atom x3.1)) (A.lit 1073741824))<|
 A.l1 (.l .atom) (A.app .atom x1.2.2.1 x3.1) fun x4=>
 A.l1 .i (A.arith .add .i64 x1.1 (A.lit 1)) fun x5=>
 A.inl _ (x5.1,x1.2.1,x4.1,()))<|
 A.inr _<|A.ret _ (x1.2.2.1,())) (x0.1,x.1,A.bC .atom,())
def GZ (A:Alg) (Sd:Pt A uG) (Sg:Ft A uG) (Si:Pt A uH) (Sj:Ft A uH) (Sk:Pt A uJ) (Sl:Ft A uJ) (x:Tup A.ah [.x .atom,.l .atom]):Ot A uL:=
 A.l1 .i (A.lit 0) fun x0=>
 A.cl Sd Sg (x.1,A.len .atom x.2.1,()) fun x1=>
 A.cond (A.au x1.1) (A.l1 .i (A.lit (-1)) fun x2=>
 A.ret _ (x2.1,x.2.1,()))<|
 A.l1 .i (A.lit 0) fun x2=>
 A.iter [.i,.l .atom,.x .atom] (fun x3=>
 A.cond (A.cmp .lss x3.1 (A.len .atom x3.2.1)) (A.bd .atom x3.2.1 x3.1<|
 A.bd .atom x3.2.1 x3.1<|
 A.cl Si Sj (A.get .atom x3.2.1 x3.1,x3.2.2.1,()) fun x4=>
 A.cond x4.1 (A.l1 .i x3.1 fun x5=>
 A.inr _<|A.ret _ (x5.1,x3.2.1,()))<|
 A.l1 .i (A.arith .add .i64 x3.1 (A.lit 1)) fun x5=>
 A.inl _ (x5.1,x3.2.1,x3.2.2.1,()))<|
 A.inr _<|A.cond (A.cmp .eql (A.len .atom x3.2.1) (A.lit 200)) (A.l1 .i (A.lit (-1)) fun x4=>
 A.ret _ (x4.1,x3.2.1,()))<|
 A.cl Sk Sl (x3.2.2.1,()) fun x4=>
 A.l1 (.l .atom) (A.lst .atom [A.mkX .atom (x4.1,x4.2.1,x4.2.2.1,x4.2.2.2.1,())]) fun x5=>
 A.chk (A.cmp .leq (A.addN (A.len .atom x3.2.1) (A.len .atom x5.1)) (A.lit 1073741824))<|
 A.l1 (.l .atom) (A.app .atom x3.2.1 x5.1) fun x6=>
 A.l1 .i (A.arith .sub .i64 (A.len .atom x6.1) (A.lit 1)) fun x7=>
 A.ret _ (x7.1,x6.1,())) (x2.1,x.2.1,x.1,())
def G5 (A:Alg) (R8:Pt A uD) (R9:Ft A uD) (L9:Pt A uz) (Ma:Ft A uz) (aie:Pt A Bz) (aif:Ft A Bz) (x:Tup A.ah [.i,.x .poly,.x .poly]):Ot A BJ:=
 A.l1 .b (A.bl false) fun x0=>
 A.l1 .b (A.cmp .eql x.1 (A.lit 1)) fun x1=>
 A.cond x1.1 (A.cl L9 Ma (x.2.1,x.2.2.1,()) fun x2=>
 A.l1 .b x2.1 fun x3=>
 A.ret _ (x3.1,x2.2.1,()))<|
 A.l1 .b (A.cmp .eql x.1 (A.lit 2)) fun x2=>
 A.cond x2.1 (A.cl aie aif (x.2.2.1,A.lit 65535,()) fun x3=>
 A.cl L9 Ma (x.2.1,A.mkX .poly (x3.1,()),()) fun x4=>
 A.l1 .b x4.1 fun x5=>
 A.ret _ (x5.1,x4.2.1,()))<|
 A.l1 .b (A.cmp .eql x.1 (A.lit 3)) fun x3=>
 A.cond x3.1 (A.cl R8 R9 (x.2.1,x.2.2.1,()) fun x4=>
 A.l1 .b x4.1 fun x5=>
 A.ret _ (x5.1,x4.2.1,()))<|
 A.l1 .b (A.bl false) fun x4=>
 A.ret _ (x4.1,A.bC .mono,())
def G6 (A:Alg) (uW:Pt A jQ) (uX:Ft A jQ) (uY:Pt A jS) (uZ:Ft A jS) (x:Tup A.ah [.i,.i,.i]):Ot A uM:=
 A.l1 .i (A.lit 0) fun x0=>
 A.cl uY uZ (x.2.1,()) fun x1=>
 A.chk (A.orB (A.au (A.au (A.au x1.1))) (uY (x.2.2.1,())))<|
 A.bL _ (uZ (x.2.2.1,())) fun x2=>
 A.cond (A.ay (A.au x1.1) (A.bl true) (A.au x2.1)) (A.l1 .i (A.lit 0) fun x3=>
 A.ret _ (x3.1,()))<|
 A.l1 .b (A.cmp .eql x.1 (A.lit 1)) fun x3=>
 A.cond x3.1 (A.cl uW uX (A.arith .add .i64 x.2.1 x.2.2.1,()) fun x4=>
 A.l1 .i x4.1 fun x5=>
 A.ret _ (x5.1,()))<|
 A.l1 .b (A.cmp .eql x.1 (A.lit 2)) fun x4=>
 A.cond x4.1 (A.cl uW uX (A.arith .sub .i64 x.2.1 x.2.2.1,()) fun x5=>
 A.l1 .i x5.1 fun x6=>
 A.ret _ (x6.1,()))<|
 A.l1 .b (A.cmp .eql x.1 (A.lit 3)) fun x5=>
 A.cond x5.1 (A.cl uW uX (A.arith .mul .i64 x.2.1 x.2.2.1,()) fun x6=>
 A.l1 .i x6.1 fun x7=>
 A.ret _ (x7.1,()))<|
 A.l1 .b (A.cmp .eql x.1 (A.lit 4)) fun x6=>
 A.cond x6.1 (A.l1 .i (A.arith .and .i64 x.2.1 x.2.2.1) fun x7=>
 A.ret _ (x7.1,()))<|
 A.l1 .b (A.cmp .eql x.1 (A.lit 5)) fun x7=>
 A.cond x7.1 (A.l1 .i (A.arith .xor .i64 x.2.1 x.2.2.1) fun x8=>
 A.ret _ (x8.1,()))<|
 A.l1 .i (A.lit 0) fun x8=>
 A.ret _ (x8.1,())
def G7 (A:Alg) (o9:Pt A jf) (pq:Ft A jf) (x:Tup A.ah [.i,.i,.x .poly]):Ot A BK:=
 A.l1 .b (A.bl false) fun x0=>
 A.cond (A.ay (A.cmp .eql x.1 (A.lit 4)) (A.cmp .eql x.2.1 (A.lit 0)) (A.bl false)) (A.l1 .b (A.bl true) fun x1=>
 A.ret _ (x1.1,A.bC .mono,()))<|
 A.cond (A.ay (A.ay (A.cmp .eql x.1 (A.lit 4)) (A.cmp .eql x.2.1 (A.lit 65535)) (A.bl false)) (A.bl true) (A.ay (A.cmp .eql x.1 (A.lit 5)) (A.cmp .eql x.2.1 (A.lit 0)) (A.bl false))) (A.cl o9 pq (A.fL .poly 0 .mono x.2.2.1,()) fun x1=>
 A.l1 .b (A.bl true) fun x2=>
 A.ret _ (x2.1,x1.1,()))<|
 A.l1 .b (A.bl false) fun x1=>
 A.ret _ (x1.1,A.bC .mono,())
def G8 (A:Alg) (C8:Pt A mW) (C9:Ft A mW) (o9:Pt A jf) (pq:Ft A jf) (Sn:Pt A uM) (Sq:Ft A uM) (Sb:Pt A uj) (Sc:Ft A uj) (YU:Pt A BD) (YV:Ft A BD) (YW:Pt A BK) (YX:Ft A BK) (x:Tup A.ah [.i,.x .poly,.x .poly]):Ot A BL:=
 A.l1 .b (A.bl false) fun x0=>
 A.cl YU YV (x.2.1,()) fun x1=>
 A.l1 .i x1.1 fun x2=>
 A.l1 .b x1.2.1 fun x3=>
 A.cl YU YV (x.2.2.1,()) fun x4=>
 A.l1 .i x4.1 fun x5=>
 A.l1 .b x4.2.1 fun x6=>
 A.cond (A.ay x3.1 x6.1 (A.bl false)) (A.cl Sn Sq (x.1,x2.1,x5.1,()) fun x7=>
 A.cl Sb Sc (x7.1,()) fun x8=>
 A.l1 .b (A.bl true) fun x9=>
 A.ret _ (x9.1,x8.1,()))<|
 A.cl C8 C9 (x.2.1,x.2.2.1,()) fun x7=>
 A.cond (A.cmp .eql x7.1 (A.lit 0)) (A.cond (A.cmp .eql x.1 (A.lit 4)) (A.cl o9 pq (A.fL .poly 0 .mono x.2.1,()) fun x8=>
 A.l1 .b (A.bl true) fun x9=>
 A.ret _ (x9.1,x8.1,()))<|
 A.l1 .b (A.bl true) fun x8=>
 A.ret _ (x8.1,A.bC .mono,()))<|
 A.cond x3.1 (A.cl YW YX (x.1,x2.1,x.2.2.1,()) fun x8=>
 A.l1 .b x8.1 fun x9=>
 A.ret _ (x9.1,x8.2.1,()))<|
 A.cond x6.1 (A.cl YW YX (x.1,x5.1,x.2.1,()) fun x8=>
 A.l1 .b x8.1 fun x9=>
 A.ret _ (x9.1,x8.2.1,()))<|
 A.l1 .b (A.bl false) fun x8=>
 A.ret _ (x8.1,A.bC .mono,())
def G9 (A:Alg) (zh:Pt A jR) (zi:Ft A jR) (C8:Pt A mW) (C9:Ft A mW) (aii:Pt A BJ) (aij:Ft A BJ) (aik:Pt A BL) (ail:Ft A BL) (Sr:Pt A uL) (Sv:Ft A uL) (x:Tup A.ah [.i,.x .poly,.x .poly,.l .atom]):Ot A BM:=
 A.cl aii aij (x.1,x.2.1,x.2.2.1,()) fun x0=>
 A.l1 .b x0.1 fun x1=>
 A.bind [.i,.b,.l .atom,.x .poly,.x .poly,.l .mono] (A.cond (A.ay (A.cmp .eql x.1 (A.lit 4)) (A.bl true) (A.cmp .eql x.1 (A.lit 5))) (A.cl aik ail (x.1,x.2.1,x.2.2.1,()) fun x2=>
 A.l1 .b x2.1 fun x3=>
 A.ret _ (x.1,x3.1,x.2.2.2.1,x.2.1,x.2.2.1,x2.2.1,()))<|
 A.ret _ (x.1,x1.1,x.2.2.2.1,x.2.1,x.2.2.1,x0.2.1,())) fun x2=>
 A.cond x2.2.1 (A.ret _ (x2.2.2.1,x2.q.2.1,()))<|
 A.chk (A.orB (A.au (A.cmp .neq x2.1 (A.lit 2))) (C8 (x2.2.2.2.1,x2.q.1,())))<|
 A.bL _ (C9 (x2.2.2.2.1,x2.q.1,())) fun x3=>
 A.bind [.l .atom,.i,.i,.l .mono,.l .mono] (A.cond (A.ay (A.cmp .neq x2.1 (A.lit 2)) (A.cmp .gtr x3.1 (A.lit 0)) (A.bl false)) (A.ret _ (x2.2.2.1,A.lit 4,x2.1,A.fL .poly 0 .mono x2.q.1,A.fL .poly 0 .mono x2.2.2.2.1,()))<|
 A.ret _ (x2.2.2.1,A.lit 4,x2.1,A.fL .poly 0 .mono x2.2.2.2.1,A.fL .poly 0 .mono x2.q.1,())) fun x4=>
 A.cl Sr Sv (A.mkX .atom (x4.2.1,x4.2.2.1,x4.2.2.2.1,x4.q.1,()),x4.1,()) fun x5=>
 A.l1 .i x5.1 fun x6=>
 A.cond (A.cmp .lss x6.1 (A.lit 0)) (A.ret _ (A.bC .atom,A.bC .mono,()))<|
 A.cl zh zi (x6.1,()) fun x7=>
 A.ret _ (x5.2.1,x7.1,())
def Hg (A:Alg) (x:Tup A.ah [.x .blk]):Ot A mX:=
 A.l1 (.x .blk) x.1 fun x0=>
 A.l1 (.l .iop) (A.lst .iop []) fun x1=>
 A.chk (A.cmp .leq (A.addN (A.len .iop x1.1) (A.len .iop (A.fL .blk 2 .iop x.1))) (A.lit 1073741824))<|
 A.l1 (.l .iop) (A.app .iop x1.1 (A.fL .blk 2 .iop x.1)) fun x2=>
 A.ret _ (A.fI .blk 0 x0.1,A.fI .blk 1 x0.1,A.fI .blk 3 x0.1,A.fI .blk 4 x0.1,A.fI .blk 5 x0.1,A.fI .blk 6 x0.1,x2.1,())
def Hl (A:Alg) (cB:Pt A bS) (cO:Ft A bS) (x:Tup A.ah [.x .iop,.l .i64]):Ot A uN:=
 A.l1 (.x .iop) x.1 fun x0=>
 A.cl cB cO (A.fI .iop 0 x.1,A.lit 3,A.lit 5,()) fun x1=>
 A.bind [.l .i64,.x .iop,.i,.i,.i,.i,.i,.x .iop] (A.cond (A.ay (A.ay x1.1 (A.bl true) (A.cmp .eql (A.fI .iop 0 x.1) (A.lit 7))) (A.bl true) (A.cmp .eql (A.fI .iop 0 x.1) (A.lit 8))) (A.bd .i64 x.2.1 (A.fI .iop 1 x.1)<|
 A.l1 .i (A.fI .i64 0 (A.get .i64 x.2.1 (A.fI .iop 1 x.1))) fun x2=>
 A.ret _ (x.2.1,x.1,A.lit 0,A.lit 0,A.lit 0,A.lit 0,A.lit 0,A.mkX .iop (A.fI .iop 0 x0.1,x2.1,A.fI .iop 2 x0.1,A.fI .iop 3 x0.1,A.fI .iop 4 x0.1,()),()))<|
 A.ret _ (x.2.1,x.1,A.lit 0,A.lit 0,A.lit 0,A.lit 0,A.lit 0,x0.1,())) fun x2=>
 A.bind [.i,.i,.i,.i,.i,.x .iop] (A.cond (A.ay (A.cmp .eql (A.fI .iop 0 x2.2.1) (A.lit 3)) (A.bl true) (A.cmp .eql (A.fI .iop 0 x2.2.1) (A.lit 5))) (A.bd .i64 x2.1 (A.fI .iop 2 x2.2.1)<|
 A.l1 .i (A.fI .i64 0 (A.get .i64 x2.1 (A.fI .iop 2 x2.2.1))) fun x3=>
 A.ret _ (x2.2.2.1,x2.2.2.2.1,x2.q.1,x2.q.2.1,x2.q.2.2.1,A.mkX .iop (A.fI .iop 0 x2.q.2.2.2.1,A.fI .iop 1 x2.q.2.2.2.1,x3.1,A.fI .iop 3 x2.q.2.2.2.1,A.fI .iop 4 x2.q.2.2.2.1,()),()))<|
 A.ret _ (x2.2.2.1,x2.2.2.2.1,x2.q.1,x2.q.2.1,x2.q.2.2.1,x2.q.2.2.2.1,())) fun x3=>
 A.l1 (.x .iop) x3.q.2.1 fun x4=>
 A.ret _ (x4.1,())
def Ho (A:Alg) (u7:Pt A jg) (vg:Ft A jg) (Sw:Pt A uN) (Sy:Ft A uN) (Hq:Pt A mX) (Hr:Ft A mX) (x:Tup A.ah [.x .blk]):Ot A uO:=
 A.cl u7 vg (x.1,()) fun x0=>
 A.cond (A.au x0.1) (A.ret _ (A.lit 0,A.lit 0,A.lit 0,A.lit 0,A.lit 0,A.lit 0,A.bC .iop,()))<|
 A.cl Hq Hr (x.1,()) fun x1=>
 A.l1 (.l .i64) (A.lst .i64 []) fun x2=>
 A.l1 (.l .i64) (A.lst .i64 [A.mkX .i64 (A.lit (-1),()),A.mkX .i64 (A.lit (-1),()),A.mkX .i64 (A.lit (-1),()),A.mkX .i64 (A.lit (-1),())]) fun x3=>
 A.l1 .i (A.lit 0) fun x4=>
 A.iter [.i,.i,.i,.i,.i,.i,.i,.i,.i,.i,.i,.i,.i,.l .i64,.l .i64,.l .iop] (fun x5=>
 A.cond (A.cmp .lss x5.1 (A.len .iop x5.o.q.2.2.2.1)) (A.bd .iop x5.o.q.2.2.2.1 x5.1<|
 A.bd .iop x5.o.q.2.2.2.1 x5.1<|
 A.cl Sw Sy (A.get .iop x5.o.q.2.2.2.1 x5.1,x5.o.q.2.1,()) fun x6=>
 A.l1 (.x .iop) x6.1 fun x7=>
 A.bd .iop x5.o.q.2.2.2.1 x5.1<|
 A.bd .iop x5.o.q.2.2.2.1 x5.1<|
 A.l1 (.x .iop) x7.1 fun x8=>
 A.l1 .i x5.1 fun x9=>
 A.chk (A.orB (A.au (A.cmp .eql (A.fI .iop 0 x7.1) (A.lit 2))) (A.cmp .leq (A.lit 0) (A.fI .iop 3 x7.1)))<|
 A.chk (A.orB (A.au (A.cmp .eql (A.fI .iop 0 x7.1) (A.lit 2))) (A.cmp .lss (A.fI .iop 3 x7.1) (A.len .i64 x5.o.q.2.2.1)))<|
 A.chk (A.orB (A.au (A.cmp .eql (A.fI .iop 0 x7.1) (A.lit 2))) (A.cmp .leq (A.lit 0) (A.fI .iop 3 x7.1)))<|
 A.chk (A.orB (A.au (A.cmp .eql (A.fI .iop 0 x7.1) (A.lit 2))) (A.cmp .lss (A.fI .iop 3 x7.1) (A.len .i64 x5.o.q.2.2.1)))<|
 A.bind [.i,.i,.i,.i,.i,.i,.i,.i,.i,.i,.i,.i,.i,.i,.l .i64,.l .i64,.x .iop,.l .iop] (A.cond (A.ay (A.cmp .eql (A.fI .iop 0 x7.1) (A.lit 2)) (A.cmp .geq (A.fI .i64 0 (A.get .i64 x5.o.q.2.2.1 (A.fI .iop 3 x7.1))) (A.lit 0)) (A.bl false)) (A.bd .i64 x5.o.q.2.2.1 (A.fI .iop 3 x7.1)<|
 A.bd .i64 x5.o.q.2.2.1 (A.fI .iop 3 x7.1)<|
 A.l1 .i (A.fI .i64 0 (A.get .i64 x5.o.q.2.2.1 (A.fI .iop 3 x7.1))) fun x10=>
 A.ret _ (x5.1,x10.1,x5.2.1,x5.2.2.1,x5.2.2.2.1,x5.q.1,x5.q.2.1,x5.q.2.2.1,x5.q.2.2.2.1,x5.o.1,x5.o.2.1,x5.o.2.2.1,x5.o.2.2.2.1,x5.o.q.1,x5.o.q.2.1,x5.o.q.2.2.1,x7.1,A.set .iop x5.o.q.2.2.2.1 x5.1 x8.1,()))<|
 A.ret _ (x5.1,x9.1,x5.2.1,x5.2.2.1,x5.2.2.2.1,x5.q.1,x5.q.2.1,x5.q.2.2.1,x5.q.2.2.2.1,x5.o.1,x5.o.2.1,x5.o.2.2.1,x5.o.2.2.2.1,x5.o.q.1,x5.o.q.2.1,x5.o.q.2.2.1,x7.1,A.set .iop x5.o.q.2.2.2.1 x5.1 x8.1,())) fun x10=>
 A.bind [.i,.i,.i,.i,.i,.i,.i,.i,.i,.i,.i,.i,.i,.i,.l .i64,.l .i64,.x .iop,.l .iop] (A.cond (A.cmp .eql (A.fI .iop 0 x10.o.o.1) (A.lit 2)) (A.bd .i64 x10.o.q.2.2.2.1 (A.fI .iop 3 x10.o.o.1)<|
 A.bd .i64 x10.o.q.2.2.2.1 (A.fI .iop 3 x10.o.o.1)<|
 A.l1 .i x10.2.1 fun x11=>
 A.ret _ (x10.1,x10.2.1,x10.2.2.1,x10.2.2.2.1,x10.q.1,x10.q.2.1,x10.q.2.2.1,x10.q.2.2.2.1,x10.o.1,x10.o.2.1,x10.o.2.2.1,x10.o.2.2.2.1,x10.o.q.1,x10.o.q.2.1,x10.o.q.2.2.1,A.set .i64 x10.o.q.2.2.2.1 (A.fI .iop 3 x10.o.o.1) (A.mkX .i64 (x11.1,())),x10.o.o.1,x10.o.o.2.1,()))<|
 A.ret _ (x10.1,x10.2.1,x10.2.2.1,x10.2.2.2.1,x10.q.1,x10.q.2.1,x10.q.2.2.1,x10.q.2.2.2.1,x10.o.1,x10.o.2.1,x10.o.2.2.1,x10.o.2.2.2.1,x10.o.q.1,x10.o.q.2.1,x10.o.q.2.2.1,x10.o.q.2.2.2.1,x10.o.o.1,x10.o.o.2.1,())) fun x11=>
 A.bind [.i,.i,.i,.i,.i,.i,.i,.i,.i,.i,.i,.i,.i,.i,.l .i64,.l .i64,.l .iop] (A.cond (A.cmp .eql (A.fI .iop 0 x11.o.o.1) (A.lit 8)) (A.bd .i64 x11.o.q.2.2.2.1 (A.fI .iop 3 x11.o.o.1)<|
 A.bd .i64 x11.o.q.2.2.2.1 (A.fI .iop 3 x11.o.o.1)<|
 A.l1 .i (A.fI .iop 1 x11.o.o.1) fun x12=>
 A.ret _ (x11.1,x11.2.1,x11.2.2.1,x11.2.2.2.1,x11.q.1,x11.q.2.1,x11.q.2.2.1,x11.q.2.2.2.1,x11.o.1,x11.o.2.1,x11.o.2.2.1,x11.o.2.2.2.1,x11.o.q.1,x11.o.q.2.1,x11.o.q.2.2.1,A.set .i64 x11.o.q.2.2.2.1 (A.fI .iop 3 x11.o.o.1) (A.mkX .i64 (x12.1,())),x11.o.o.2.1,()))<|
 A.ret _ (x11.1,x11.2.1,x11.2.2.1,x11.2.2.2.1,x11.q.1,x11.q.2.1,x11.q.2.2.1,x11.q.2.2.2.1,x11.o.1,x11.o.2.1,x11.o.2.2.1,x11.o.2.2.2.1,x11.o.q.1,x11.o.q.2.1,x11.o.q.2.2.1,x11.o.q.2.2.2.1,x11.o.o.2.1,())) fun x12=>
 A.l1 (.l .i64) (A.lst .i64 [A.mkX .i64 (x12.2.1,())]) fun x13=>
 A.chk (A.cmp .leq (A.addN (A.len .i64 x12.o.q.2.2.1) (A.len .i64 x13.1)) (A.lit 1073741824))<|
 A.l1 (.l .i64) (A.app .i64 x12.o.q.2.2.1 x13.1) fun x14=>
 A.l1 .i (A.arith .add .i64 x12.1 (A.lit 1)) fun x15=>
 A.inl _ (x15.1,x12.2.2.1,x12.2.2.2.1,x12.q.1,x12.q.2.1,x12.q.2.2.1,x12.q.2.2.2.1,x12.o.1,x12.o.2.1,x12.o.2.2.1,x12.o.2.2.2.1,x12.o.q.1,x12.o.q.2.1,x14.1,x12.o.q.2.2.2.1,x12.o.o.1,()))<|
 A.inr _<|A.bind [.i,.i,.i,.i,.i,.i,.i,.i,.i,.i,.i,.i,.l .i64,.l .iop] (A.cond (A.cmp .neq x5.o.2.1 (A.lit 1)) (A.bd .i64 x5.o.q.2.1 x5.o.2.2.1<|
 A.bd .i64 x5.o.q.2.1 x5.o.2.2.1<|
 A.l1 .i (A.fI .i64 0 (A.get .i64 x5.o.q.2.1 x5.o.2.2.1)) fun x6=>
 A.ret _ (x5.2.1,x5.2.2.1,x5.2.2.2.1,x5.q.1,x5.q.2.1,x5.q.2.2.1,x5.q.2.2.2.1,x5.o.1,x5.o.2.1,x6.1,x5.o.2.2.2.1,x5.o.q.1,x5.o.q.2.1,x5.o.q.2.2.2.1,()))<|
 A.ret _ (x5.2.1,x5.2.2.1,x5.2.2.2.1,x5.q.1,x5.q.2.1,x5.q.2.2.1,x5.q.2.2.2.1,x5.o.1,x5.o.2.1,x5.o.2.2.1,x5.o.2.2.2.1,x5.o.q.1,x5.o.q.2.1,x5.o.q.2.2.2.1,())) fun x6=>
 A.bind [.i,.i,.i,.i,.i,.i,.i,.i,.i,.i,.i,.i,.l .iop] (A.cond (A.ay (A.cmp .eql x6.o.1 (A.lit 3)) (A.bl true) (A.cmp .eql x6.o.1 (A.lit 4))) (A.bd .i64 x6.o.q.1 x6.o.2.2.1<|
 A.bd .i64 x6.o.q.1 x6.o.2.2.1<|
 A.l1 .i (A.fI .i64 0 (A.get .i64 x6.o.q.1 x6.o.2.2.1)) fun x7=>
 A.ret _ (x6.1,x6.2.1,x6.2.2.1,x6.2.2.2.1,x6.q.1,x6.q.2.1,x6.q.2.2.1,x6.q.2.2.2.1,x6.o.1,x6.o.2.1,x7.1,x6.o.2.2.2.1,x6.o.q.2.1,()))<|
 A.ret _ (x6.1,x6.2.1,x6.2.2.1,x6.2.2.2.1,x6.q.1,x6.q.2.1,x6.q.2.2.1,x6.q.2.2.2.1,x6.o.1,x6.o.2.1,x6.o.2.2.1,x6.o.2.2.2.1,x6.o.q.2.1,())) fun x7=>
 A.ret _ (x7.q.2.2.1,x7.q.2.2.2.1,x7.o.1,x7.o.2.1,x7.o.2.2.1,x7.o.2.2.2.1,x7.o.q.1,())) (x4.1,A.lit 0,A.lit 0,A.lit 0,A.lit 0,A.lit 0,A.lit 0,x1.1,x1.2.1,x1.2.2.1,x1.2.2.2.1,x1.q.1,x1.q.2.1,x2.1,x3.1,x1.q.2.2.1,())
def Ht (A:Alg) (x:Tup A.ah [.l .iop,.i]):Ot A uP:=
 A.l1 .i (A.lit 0) fun x0=>
 A.l1 .b (A.bl false) fun x1=>
 A.chk (A.orB (A.au (A.au (A.ay (A.cmp .lss x.2.1 (A.lit 0)) (A.bl true) (A.cmp .geq x.2.1 (A.len .iop x.1))))) (A.cmp .leq (A.lit 0) x.2.1))<|
 A.chk (A.orB (A.au (A.au (A.ay (A.cmp .lss x.2.1 (A.lit 0)) (A.bl true) (A.cmp .geq x.2.1 (A.len .iop x.1))))) (A.cmp .lss x.2.1 (A.len .iop x.1)))<|
 A.cond (A.ay (A.ay (A.cmp .lss x.2.1 (A.lit 0)) (A.bl true) (A.cmp .geq x.2.1 (A.len .iop x.1))) (A.bl true) (A.cmp .neq (A.fI .iop 0 (A.get .iop x.1 x.2.1)) (A.lit 1))) (A.l1 .i (A.lit 0) fun x2=>
 A.l1 .b (A.bl false) fun x3=>
 A.ret _ (x2.1,x3.1,()))<|
 A.bd .iop x.1 x.2.1<|
 A.l1 .i (A.fI .iop 3 (A.get .iop x.1 x.2.1)) fun x2=>
 A.l1 .b (A.bl true) fun x3=>
 A.ret _ (x2.1,x3.1,())
def Hu (A:Alg) (x:Tup A.ah [.x .blk,.i]):Ot A BN:=
 A.l1 .i (A.lit 1) fun x0=>
 A.l1 .i (A.lit 0) fun x1=>
 A.l1 .i (A.lit 0) fun x2=>
 A.l1 .i x.2.1 fun x3=>
 A.ret _ (A.fI .blk 0 x.1,A.fI .blk 1 x.1,A.fL .blk 2 .iop x.1,x0.1,x1.1,x2.1,x3.1,())
def Hw (A:Alg) (Sz:Pt A BN) (SA:Ft A BN) (Hy:Pt A uP) (Hz:Ft A uP) (x:Tup A.ah [.x .blk]):Ot A BO:=
 A.cl Hy Hz (A.fL .blk 2 .iop x.1,A.fI .blk 4 x.1,()) fun x0=>
 A.l1 .i x0.1 fun x1=>
 A.l1 .b x0.2.1 fun x2=>
 A.cl Hy Hz (A.fL .blk 2 .iop x.1,A.fI .blk 5 x.1,()) fun x3=>
 A.l1 .i x3.1 fun x4=>
 A.l1 .b x3.2.1 fun x5=>
 A.l1 .b (A.ay (A.cmp .eql (A.fI .blk 3 x.1) (A.lit 2)) x2.1 (A.bl false)) fun x6=>
 A.cond x6.1 (A.cl Sz SA (x.1,x1.1,()) fun x7=>
 A.ret _ (A.mkX .blk (x7.1,x7.2.1,x7.2.2.1,x7.2.2.2.1,x7.q.1,x7.q.2.1,x7.q.2.2.1,()),()))<|
 A.l1 .b (A.ay (A.ay (A.ay (A.cmp .eql (A.fI .blk 3 x.1) (A.lit 3)) x2.1 (A.bl false)) x5.1 (A.bl false)) (A.cmp .eql x1.1 x4.1) (A.bl false)) fun x7=>
 A.bind [.b,.b,.b,.x .blk,.i,.i,.i,.i,.i,.i] (A.cond x7.1 (A.ret _ (x2.1,x5.1,x7.1,x.1,A.lit 0,A.lit 0,A.lit 0,A.lit 0,A.lit 0,A.lit 0,()))<|
 A.l1 .b (A.ay (A.ay (A.ay (A.cmp .eql (A.fI .blk 3 x.1) (A.lit 4)) x2.1 (A.bl false)) x5.1 (A.bl false)) (A.cmp .lss x1.1 x4.1) (A.bl false)) fun x8=>
 A.ret _ (x2.1,x5.1,x8.1,x.1,A.lit 0,A.lit 0,A.lit 0,A.lit 0,A.lit 0,A.lit 0,())) fun x8=>
 A.cond x8.2.2.1 (A.cl Sz SA (x8.2.2.2.1,A.fI .blk 6 x8.2.2.2.1,()) fun x9=>
 A.ret _ (A.mkX .blk (x9.1,x9.2.1,x9.2.2.1,x9.2.2.2.1,x9.q.1,x9.q.2.1,x9.q.2.2.1,()),()))<|
 A.l1 .b (A.ay (A.ay (A.ay (A.cmp .eql (A.fI .blk 3 x8.2.2.2.1) (A.lit 3)) (A.bl true) (A.cmp .eql (A.fI .blk 3 x8.2.2.2.1) (A.lit 4))) x8.1 (A.bl false)) x8.2.1 (A.bl false)) fun x9=>
 A.cond x9.1 (A.cl Sz SA (x8.2.2.2.1,A.arith .add .i64 (A.fI .blk 0 x8.2.2.2.1) (A.fI .blk 1 x8.2.2.2.1),()) fun x10=>
 A.ret _ (A.mkX .blk (x10.1,x10.2.1,x10.2.2.1,x10.2.2.2.1,x10.q.1,x10.q.2.1,x10.q.2.2.1,()),()))<|
 A.l1 (.x .blk) x8.2.2.2.1 fun x10=>
 A.ret _ (x10.1,())
def HV (A:Alg) (u7:Pt A jg) (vg:Ft A jg) (Sn:Pt A uM) (Sq:Ft A uM) (ain:Pt A BO) (aio:Ft A BO) (Hy:Pt A uP) (Hz:Ft A uP) (Hq:Pt A mX) (Hr:Ft A mX) (x:Tup A.ah [.x .blk]):Ot A BP:=
 A.cl u7 vg (x.1,()) fun x0=>
 A.cond (A.au x0.1) (A.ret _ (A.mkX .blk (A.lit 0,A.lit 0,A.bC .iop,A.lit 0,A.lit 0,A.lit 0,A.lit 0,()),()))<|
 A.cl Hq Hr (x.1,()) fun x1=>
 A.l1 .i (A.lit 0) fun x2=>
 A.iter [.i,.i,.i,.i,.i,.i,.i,.i,.i,.i,.i,.i,.i,.l .iop] (fun x3=>
 A.cond (A.cmp .lss x3.1 (A.len .iop x3.o.q.2.1)) (A.bd .iop x3.o.q.2.1 x3.1<|
 A.bd .iop x3.o.q.2.1 x3.1<|
 A.l1 (.x .iop) (A.get .iop x3.o.q.2.1 x3.1) fun x4=>
 A.cl Hy Hz (x3.o.q.2.1,A.fI .iop 1 x4.1,()) fun x5=>
 A.l1 .i x5.1 fun x6=>
 A.l1 .b x5.2.1 fun x7=>
 A.cl Hy Hz (x3.o.q.2.1,A.fI .iop 2 x4.1,()) fun x8=>
 A.l1 .i x8.1 fun x9=>
 A.l1 .b x8.2.1 fun x10=>
 A.bind [.i,.i,.i,.i,.i,.i,.i,.i,.i,.i,.i,.i,.i,.l .iop] (A.cond (A.ay (A.ay (A.cmp .eql (A.fI .iop 0 x4.1) (A.lit 3)) x7.1 (A.bl false)) x10.1 (A.bl false)) (A.cl Sn Sq (A.fI .iop 3 x4.1,x6.1,x9.1,()) fun x11=>
 A.bd .iop x3.o.q.2.1 x3.1<|
 A.bd .iop x3.o.q.2.1 x3.1<|
 A.ret _ (x3.1,x3.2.1,x3.2.2.1,x3.2.2.2.1,x3.q.1,x3.q.2.1,x3.q.2.2.1,x3.q.2.2.2.1,x3.o.1,x3.o.2.1,x3.o.2.2.1,x3.o.2.2.2.1,x3.o.q.1,A.set .iop x3.o.q.2.1 x3.1 (A.mkX .iop (A.lit 1,A.lit 0,A.lit 0,x11.1,A.lit 0,())),()))<|
 A.ret _ (x3.1,x3.2.1,x3.2.2.1,x3.2.2.2.1,x3.q.1,x3.q.2.1,x3.q.2.2.1,x3.q.2.2.2.1,x3.o.1,x3.o.2.1,x3.o.2.2.1,x3.o.2.2.2.1,x3.o.q.1,x3.o.q.2.1,())) fun x11=>
 A.l1 .i (A.arith .add .i64 x11.1 (A.lit 1)) fun x12=>
 A.inl _ (x12.1,x11.2.1,x11.2.2.1,x11.2.2.2.1,x11.q.1,x11.q.2.1,x11.q.2.2.1,x11.q.2.2.2.1,x11.o.1,x11.o.2.1,x11.o.2.2.1,x11.o.2.2.2.1,x11.o.q.1,x11.o.q.2.1,()))<|
 A.inr _<|A.cl ain aio (A.mkX .blk (x3.q.2.2.2.1,x3.o.1,x3.o.q.2.1,x3.o.2.1,x3.o.2.2.1,x3.o.2.2.2.1,x3.o.q.1,()),()) fun x4=>
 A.l1 (.x .blk) x4.1 fun x5=>
 A.ret _ (x5.1,())) (x2.1,A.lit 0,A.lit 0,A.lit 0,A.lit 0,A.lit 0,A.lit 0,x1.1,x1.2.1,x1.2.2.1,x1.2.2.2.1,x1.q.1,x1.q.2.1,x1.q.2.2.1,())
def HY (A:Alg) (x:Tup A.ah [.l .iop,.i]):Ot A BQ:=
 A.l1 .b (A.bl false) fun x0=>
 A.l1 .i (A.arith .add .i64 x.2.1 (A.lit 1)) fun x1=>
 A.iter [.l .iop,.i,.i] (fun x2=>
 A.cond (A.cmp .lss x2.2.2.1 (A.len .iop x2.1)) (A.bd .iop x2.1 x2.2.2.1<|
 A.chk (A.orB (A.au (A.au (A.cmp .eql (A.fI .iop 0 (A.get .iop x2.1 x2.2.2.1)) (A.lit 4)))) (A.cmp .leq (A.lit 0) x2.2.2.1))<|
 A.chk (A.orB (A.au (A.au (A.cmp .eql (A.fI .iop 0 (A.get .iop x2.1 x2.2.2.1)) (A.lit 4)))) (A.cmp .lss x2.2.2.1 (A.len .iop x2.1)))<|
 A.chk (A.orB (A.au (A.au (A.ay (A.cmp .eql (A.fI .iop 0 (A.get .iop x2.1 x2.2.2.1)) (A.lit 4)) (A.bl true) (A.cmp .eql (A.fI .iop 0 (A.get .iop x2.1 x2.2.2.1)) (A.lit 5))))) (A.cmp .leq (A.lit 0) x2.2.2.1))<|
 A.chk (A.orB (A.au (A.au (A.ay (A.cmp .eql (A.fI .iop 0 (A.get .iop x2.1 x2.2.2.1)) (A.lit 4)) (A.bl true) (A.cmp .eql (A.fI .iop 0 (A.get .iop x2.1 x2.2.2.1)) (A.lit 5))))) (A.cmp .lss x2.2.2.1 (A.len .iop x2.1)))<|
 A.chk (A.orB (A.au (A.jI (A.au (A.ay (A.cmp .eql (A.fI .iop 0 (A.get .iop x2.1 x2.2.2.1)) (A.lit 4)) (A.bl true) (A.cmp .eql (A.fI .iop 0 (A.get .iop x2.1 x2.2.2.1)) (A.lit 5)))) (A.cmp .eql (A.fI .iop 0 (A.get .iop x2.1 x2.2.2.1)) (A.lit 2)))) (A.cmp .leq (A.lit 0) x2.2.2.1))<|
 A.chk (A.orB (A.au (A.jI (A.au (A.ay (A.cmp .eql (A.fI .iop 0 (A.get .iop x2.1 x2.2.2.1)) (A.lit 4)) (A.bl true) (A.cmp .eql (A.fI .iop 0 (A.get .iop x2.1 x2.2.2.1)) (A.lit 5)))) (A.cmp .eql (A.fI .iop 0 (A.get .iop x2.1 x2.2.2.1)) (A.lit 2)))) (A.cmp .lss x2.2.2.1 (A.len .iop x2.1)))<|
 A.chk (A.orB (A.au (A.jI (A.au (A.ay (A.cmp .eql (A.fI .iop 0 (A.get .iop x2.1 x2.2.2.1)) (A.lit 4)) (A.bl true) (A.cmp .eql (A.fI .iop 0 (A.get .iop x2.1 x2.2.2.1)) (A.lit 5)))) (A.cmp .eql (A.fI .iop 0 (A.get .iop x2.1 x2.2.2.1)) (A.lit 2)))) (A.cmp .leq (A.lit 0) x2.2.1))<|
 A.chk (A.orB (A.au (A.jI (A.au (A.ay (A.cmp .eql (A.fI .iop 0 (A.get .iop x2.1 x2.2.2.1)) (A.lit 4)) (A.bl true) (A.cmp .eql (A.fI .iop 0 (A.get .iop x2.1 x2.2.2.1)) (A.lit 5)))) (A.cmp .eql (A.fI .iop 0 (A.get .iop x2.1 x2.2.2.1)) (A.lit 2)))) (A.cmp .lss x2.2.1 (A.len .iop x2.1)))<|
 A.cond (A.ay (A.ay (A.cmp .eql (A.fI .iop 0 (A.get .iop x2.1 x2.2.2.1)) (A.lit 4)) (A.bl true) (A.cmp .eql (A.fI .iop 0 (A.get .iop x2.1 x2.2.2.1)) (A.lit 5))) (A.bl true) (A.ay (A.cmp .eql (A.fI .iop 0 (A.get .iop x2.1 x2.2.2.1)) (A.lit 2)) (A.cmp .eql (A.fI .iop 3 (A.get .iop x2.1 x2.2.2.1)) (A.fI .iop 3 (A.get .iop x2.1 x2.2.1))) (A.bl false))) (A.l1 .b (A.bl false) fun x3=>
 A.inr _<|A.ret _ (x3.1,()))<|
 A.bd .iop x2.1 x2.2.2.1<|
 A.chk (A.orB (A.au (A.cmp .eql (A.fI .iop 0 (A.get .iop x2.1 x2.2.2.1)) (A.lit 8))) (A.cmp .leq (A.lit 0) x2.2.2.1))<|
 A.chk (A.orB (A.au (A.cmp .eql (A.fI .iop 0 (A.get .iop x2.1 x2.2.2.1)) (A.lit 8))) (A.cmp .lss x2.2.2.1 (A.len .iop x2.1)))<|
 A.chk (A.orB (A.au (A.cmp .eql (A.fI .iop 0 (A.get .iop x2.1 x2.2.2.1)) (A.lit 8))) (A.cmp .leq (A.lit 0) x2.2.1))<|
 A.chk (A.orB (A.au (A.cmp .eql (A.fI .iop 0 (A.get .iop x2.1 x2.2.2.1)) (A.lit 8))) (A.cmp .lss x2.2.1 (A.len .iop x2.1)))<|
 A.cond (A.ay (A.cmp .eql (A.fI .iop 0 (A.get .iop x2.1 x2.2.2.1)) (A.lit 8)) (A.cmp .eql (A.fI .iop 3 (A.get .iop x2.1 x2.2.2.1)) (A.fI .iop 3 (A.get .iop x2.1 x2.2.1))) (A.bl false)) (A.l1 .b (A.bl true) fun x3=>
 A.inr _<|A.ret _ (x3.1,()))<|
 A.l1 .i (A.arith .add .i64 x2.2.2.1 (A.lit 1)) fun x3=>
 A.inl _ (x2.1,x2.2.1,x3.1,()))<|
 A.inr _<|A.l1 .b (A.bl false) fun x3=>
 A.ret _ (x3.1,())) (x.1,x.2.1,x1.1,())
def HZ (A:Alg) (Sw:Pt A uN) (Sy:Ft A uN) (x:Tup A.ah [.x .blk,.l .bool]):Ot A uQ:=
 A.l1 (.l .iop) (A.lst .iop []) fun x0=>
 A.l1 (.l .i64) (A.lst .i64 []) fun x1=>
 A.l1 .i (A.lit 0) fun x2=>
 A.iter [.l .bool,.i,.x .blk,.i,.i,.i,.i,.i,.i,.l .iop,.l .i64] (fun x3=>
 A.cond (A.cmp .lss x3.2.1 (A.len .iop (A.fL .blk 2 .iop x3.2.2.1))) (A.l1 (.l .i64) (A.lst .i64 [A.mkX .i64 (A.len .iop x3.o.2.1,())]) fun x4=>
 A.chk (A.cmp .leq (A.addN (A.len .i64 x3.o.2.2.1) (A.len .i64 x4.1)) (A.lit 1073741824))<|
 A.l1 (.l .i64) (A.app .i64 x3.o.2.2.1 x4.1) fun x5=>
 A.bd .bool x3.1 x3.2.1<|
 A.bind [.l .bool,.i,.x .blk,.i,.i,.i,.i,.i,.i,.l .iop,.l .i64] (A.cond (A.fB .bool 0 (A.get .bool x3.1 x3.2.1)) (A.bd .iop (A.fL .blk 2 .iop x3.2.2.1) x3.2.1<|
 A.cl Sw Sy (A.get .iop (A.fL .blk 2 .iop x3.2.2.1) x3.2.1,x5.1,()) fun x6=>
 A.l1 (.l .iop) (A.lst .iop [x6.1]) fun x7=>
 A.chk (A.cmp .leq (A.addN (A.len .iop x3.o.2.1) (A.len .iop x7.1)) (A.lit 1073741824))<|
 A.l1 (.l .iop) (A.app .iop x3.o.2.1 x7.1) fun x8=>
 A.ret _ (x3.1,x3.2.1,x3.2.2.1,x3.2.2.2.1,x3.q.1,x3.q.2.1,x3.q.2.2.1,x3.q.2.2.2.1,x3.o.1,x8.1,x5.1,()))<|
 A.ret _ (x3.1,x3.2.1,x3.2.2.1,x3.2.2.2.1,x3.q.1,x3.q.2.1,x3.q.2.2.1,x3.q.2.2.2.1,x3.o.1,x3.o.2.1,x5.1,())) fun x6=>
 A.l1 .i (A.arith .add .i64 x6.2.1 (A.lit 1)) fun x7=>
 A.inl _ (x6.1,x7.1,x6.2.2.1,x6.2.2.2.1,x6.q.1,x6.q.2.1,x6.q.2.2.1,x6.q.2.2.2.1,x6.o.1,x6.o.2.1,x6.o.2.2.1,()))<|
 A.inr _<|A.l1 (.x .blk) x3.2.2.1 fun x4=>
 A.bind [.x .blk,.i,.i,.i,.i,.i,.i,.l .i64,.i,.i,.i,.i,.i,.i,.l .iop] (A.cond (A.cmp .neq (A.fI .blk 3 x3.2.2.1) (A.lit 1)) (A.bd .i64 x3.o.2.2.1 (A.fI .blk 4 x3.2.2.1)<|
 A.bd .i64 x3.o.2.2.1 (A.fI .blk 4 x3.2.2.1)<|
 A.l1 .i (A.fI .i64 0 (A.get .i64 x3.o.2.2.1 (A.fI .blk 4 x3.2.2.1))) fun x5=>
 A.ret _ (x3.2.2.1,x3.2.2.2.1,x3.q.1,x3.q.2.1,x3.q.2.2.1,x3.q.2.2.2.1,x3.o.1,x3.o.2.2.1,A.fI .blk 0 x4.1,A.fI .blk 1 x4.1,A.fI .blk 3 x4.1,x5.1,A.fI .blk 5 x4.1,A.fI .blk 6 x4.1,x3.o.2.1,()))<|
 A.ret _ (x3.2.2.1,x3.2.2.2.1,x3.q.1,x3.q.2.1,x3.q.2.2.1,x3.q.2.2.2.1,x3.o.1,x3.o.2.2.1,A.fI .blk 0 x4.1,A.fI .blk 1 x4.1,A.fI .blk 3 x4.1,A.fI .blk 4 x4.1,A.fI .blk 5 x4.1,A.fI .blk 6 x4.1,x3.o.2.1,())) fun x5=>
 A.bind [.i,.i,.i,.i,.i,.i,.i,.i,.i,.i,.i,.i,.l .iop] (A.cond (A.ay (A.cmp .eql (A.fI .blk 3 x5.1) (A.lit 3)) (A.bl true) (A.cmp .eql (A.fI .blk 3 x5.1) (A.lit 4))) (A.bd .i64 x5.q.2.2.2.1 (A.fI .blk 5 x5.1)<|
 A.bd .i64 x5.q.2.2.2.1 (A.fI .blk 5 x5.1)<|
 A.l1 .i (A.fI .i64 0 (A.get .i64 x5.q.2.2.2.1 (A.fI .blk 5 x5.1))) fun x6=>
 A.ret _ (x5.2.1,x5.2.2.1,x5.2.2.2.1,x5.q.1,x5.q.2.1,x5.q.2.2.1,x5.o.1,x5.o.2.1,x5.o.2.2.1,x5.o.2.2.2.1,x6.1,x5.o.q.2.1,x5.o.q.2.2.1,()))<|
 A.ret _ (x5.2.1,x5.2.2.1,x5.2.2.2.1,x5.q.1,x5.q.2.1,x5.q.2.2.1,x5.o.1,x5.o.2.1,x5.o.2.2.1,x5.o.2.2.2.1,x5.o.q.1,x5.o.q.2.1,x5.o.q.2.2.1,())) fun x6=>
 A.ret _ (x6.q.2.2.1,x6.q.2.2.2.1,x6.o.1,x6.o.2.1,x6.o.2.2.1,x6.o.2.2.2.1,x6.o.q.1,())) (x.2.1,x2.1,x.1,A.lit 0,A.lit 0,A.lit 0,A.lit 0,A.lit 0,A.lit 0,x0.1,x1.1,())
def H6 (A:Alg) (u7:Pt A jg) (vg:Ft A jg) (SB:Pt A uQ) (SE:Ft A uQ) (aip:Pt A BQ) (aiq:Ft A BQ) (x:Tup A.ah [.x .blk]):Ot A BR:=
 A.cl u7 vg (x.1,()) fun x0=>
 A.cond (A.au x0.1) (A.ret _ (A.lit 0,A.lit 0,A.lit 0,A.lit 0,A.lit 0,A.lit 0,A.bC .iop,()))<|
 A.l1 (.l .bool) (A.lst .bool []) fun x1=>
 A.l1 .i (A.lit 0) fun x2=>
 A.iter [.i,.x .blk,.i,.i,.i,.i,.i,.i,.l .bool] (fun x3=>
 A.cond (A.cmp .lss x3.1 (A.len .iop (A.fL .blk 2 .iop x3.2.1))) (A.bd .iop (A.fL .blk 2 .iop x3.2.1) x3.1<|
 A.chk (A.orB (A.au (A.au (A.cmp .neq (A.fI .iop 0 (A.get .iop (A.fL .blk 2 .iop x3.2.1) x3.1)) (A.lit 8)))) (aip (A.fL .blk 2 .iop x3.2.1,x3.1,())))<|
 A.bL _ (aiq (A.fL .blk 2 .iop x3.2.1,x3.1,())) fun x4=>
 A.l1 (.l .bool) (A.lst .bool [A.mkX .bool (A.ay (A.cmp .neq (A.fI .iop 0 (A.get .iop (A.fL .blk 2 .iop x3.2.1) x3.1)) (A.lit 8)) (A.bl true) (A.au x4.1),())]) fun x5=>
 A.chk (A.cmp .leq (A.addN (A.len .bool x3.o.1) (A.len .bool x5.1)) (A.lit 1073741824))<|
 A.l1 (.l .bool) (A.app .bool x3.o.1 x5.1) fun x6=>
 A.l1 .i (A.arith .add .i64 x3.1 (A.lit 1)) fun x7=>
 A.inl _ (x7.1,x3.2.1,x3.2.2.1,x3.2.2.2.1,x3.q.1,x3.q.2.1,x3.q.2.2.1,x3.q.2.2.2.1,x6.1,()))<|
 A.inr _<|A.cl SB SE (x3.2.1,x3.o.1,()) fun x4=>
 A.ret _ (x4.1,x4.2.1,x4.2.2.1,x4.2.2.2.1,x4.q.1,x4.q.2.1,x4.q.2.2.1,())) (x2.1,x.1,A.lit 0,A.lit 0,A.lit 0,A.lit 0,A.lit 0,A.lit 0,x1.1,())
def H7 (A:Alg) (u7:Pt A jg) (vg:Ft A jg) (cB:Pt A bS) (cO:Ft A bS) (x:Tup A.ah [.x .blk]):Ot A BS:=
 A.l1 (.l .bool) (A.lst .bool []) fun x0=>
 A.cl u7 vg (x.1,()) fun x1=>
 A.cond (A.au x1.1) (A.ret _ (x0.1,()))<|
 A.l1 .i (A.lit 0) fun x2=>
 A.iter [.i,.x .blk,.l .bool] (fun x3=>
 A.cond (A.cmp .lss x3.1 (A.len .iop (A.fL .blk 2 .iop x3.2.1))) (A.bd .iop (A.fL .blk 2 .iop x3.2.1) x3.1<|
 A.l1 (.l .bool) (A.lst .bool [A.mkX .bool (A.cmp .geq (A.fI .iop 0 (A.get .iop (A.fL .blk 2 .iop x3.2.1) x3.1)) (A.lit 4),())]) fun x4=>
 A.chk (A.cmp .leq (A.addN (A.len .bool x3.2.2.1) (A.len .bool x4.1)) (A.lit 1073741824))<|
 A.l1 (.l .bool) (A.app .bool x3.2.2.1 x4.1) fun x5=>
 A.l1 .i (A.arith .add .i64 x3.1 (A.lit 1)) fun x6=>
 A.inl _ (x6.1,x3.2.1,x5.1,()))<|
 A.inr _<|A.bind [.x .blk,.l .bool] (A.cond (A.cmp .neq (A.fI .blk 3 x3.2.1) (A.lit 1)) (A.bd .bool x3.2.2.1 (A.fI .blk 4 x3.2.1)<|
 A.bd .bool x3.2.2.1 (A.fI .blk 4 x3.2.1)<|
 A.l1 .b (A.bl true) fun x4=>
 A.ret _ (x3.2.1,A.set .bool x3.2.2.1 (A.fI .blk 4 x3.2.1) (A.mkX .bool (x4.1,())),()))<|
 A.ret _ (x3.2.1,x3.2.2.1,())) fun x4=>
 A.bind [.x .blk,.l .bool] (A.cond (A.ay (A.cmp .eql (A.fI .blk 3 x4.1) (A.lit 3)) (A.bl true) (A.cmp .eql (A.fI .blk 3 x4.1) (A.lit 4))) (A.bd .bool x4.2.1 (A.fI .blk 5 x4.1)<|
 A.bd .bool x4.2.1 (A.fI .blk 5 x4.1)<|
 A.l1 .b (A.bl true) fun x5=>
 A.ret _ (x4.1,A.set .bool x4.2.1 (A.fI .blk 5 x4.1) (A.mkX .bool (x5.1,())),()))<|
 A.ret _ (x4.1,x4.2.1,())) fun x5=>
 A.l1 .i (A.arith .sub .i64 (A.len .iop (A.fL .blk 2 .iop x5.1)) (A.lit 1)) fun x6=>
 A.iter [.i,.x .blk,.l .bool] (fun x7=>
 A.cond (A.cmp .geq x7.1 (A.lit 0)) (A.kJ [.i,.x .blk,.l .bool] (A.bd .iop (A.fL .blk 2 .iop x7.2.1) x7.1<|
 A.l1 (.x .iop) (A.get .iop (A.fL .blk 2 .iop x7.2.1) x7.1) fun x8=>
 A.bd .bool x7.2.2.1 x7.1<|
 A.bd .bool x7.2.2.1 x7.1<|
 A.cond (A.au (A.fB .bool 0 (A.get .bool x7.2.2.1 x7.1))) (A.inl _ (x7.1,x7.2.1,x7.2.2.1,()))<|
 A.cl cB cO (A.fI .iop 0 x8.1,A.lit 3,A.lit 5,()) fun x9=>
 A.bind [.i,.x .blk,.l .bool,.x .iop] (A.cond (A.ay (A.ay x9.1 (A.bl true) (A.cmp .eql (A.fI .iop 0 x8.1) (A.lit 7))) (A.bl true) (A.cmp .eql (A.fI .iop 0 x8.1) (A.lit 8))) (A.bd .bool x7.2.2.1 (A.fI .iop 1 x8.1)<|
 A.bd .bool x7.2.2.1 (A.fI .iop 1 x8.1)<|
 A.l1 .b (A.bl true) fun x10=>
 A.ret _ (x7.1,x7.2.1,A.set .bool x7.2.2.1 (A.fI .iop 1 x8.1) (A.mkX .bool (x10.1,())),x8.1,()))<|
 A.ret _ (x7.1,x7.2.1,x7.2.2.1,x8.1,())) fun x10=>
 A.bind [.i,.x .blk,.l .bool] (A.cond (A.ay (A.cmp .eql (A.fI .iop 0 x10.2.2.2.1) (A.lit 3)) (A.bl true) (A.cmp .eql (A.fI .iop 0 x10.2.2.2.1) (A.lit 5))) (A.bd .bool x10.2.2.1 (A.fI .iop 2 x10.2.2.2.1)<|
 A.bd .bool x10.2.2.1 (A.fI .iop 2 x10.2.2.2.1)<|
 A.l1 .b (A.bl true) fun x11=>
 A.ret _ (x10.1,x10.2.1,A.set .bool x10.2.2.1 (A.fI .iop 2 x10.2.2.2.1) (A.mkX .bool (x11.1,())),()))<|
 A.ret _ (x10.1,x10.2.1,x10.2.2.1,())) fun x11=>
 A.inl _ (x11.1,x11.2.1,x11.2.2.1,())) fun x8=>
 A.l1 .i (A.arith .sub .i64 x8.1 (A.lit 1)) fun x9=>
 A.inl _ (x9.1,x8.2.1,x8.2.2.1,()))<|
 A.inr _<|A.ret _ (x7.2.2.1,())) (x6.1,x5.1,x5.2.1,())) (x2.1,x.1,x0.1,())
def H8 (A:Alg) (u7:Pt A jg) (vg:Ft A jg) (air:Pt A BS) (ais:Ft A BS) (SB:Pt A uQ) (SE:Ft A uQ) (x:Tup A.ah [.x .blk]):Ot A BU:=
 A.cl u7 vg (x.1,()) fun x0=>
 A.cond (A.au x0.1) (A.ret _ (A.lit 0,A.lit 0,A.lit 0,A.lit 0,A.lit 0,A.lit 0,A.bC .iop,()))<|
 A.cl air ais (x.1,()) fun x1=>
 A.cl SB SE (x.1,x1.1,()) fun x2=>
 A.ret _ (x2.1,x2.2.1,x2.2.2.1,x2.2.2.2.1,x2.q.1,x2.q.2.1,x2.q.2.2.1,())
def Mc (A:Alg) (ait:Pt A BP) (aiu:Ft A BP) (SF:Pt A uO) (SG:Ft A uO) (YZ:Pt A BU) (Y0:Ft A BU) (aiv:Pt A BR) (aiw:Ft A BR) (x:Tup A.ah [.x .blk]):Ot A BX:=
 A.cl SF SG (x.1,()) fun x0=>
 A.cl ait aiu (A.mkX .blk (x0.1,x0.2.1,x0.q.2.2.1,x0.2.2.1,x0.2.2.2.1,x0.q.1,x0.q.2.1,()),()) fun x1=>
 A.cl YZ Y0 (x1.1,()) fun x2=>
 A.cl aiv aiw (A.mkX .blk (x2.1,x2.2.1,x2.q.2.2.1,x2.2.2.1,x2.2.2.2.1,x2.q.1,x2.q.2.1,()),()) fun x3=>
 A.cl YZ Y0 (A.mkX .blk (x3.1,x3.2.1,x3.q.2.2.1,x3.2.2.1,x3.2.2.2.1,x3.q.1,x3.q.2.1,()),()) fun x4=>
 A.ret _ (x4.1,x4.2.1,x4.2.2.1,x4.2.2.2.1,x4.q.1,x4.q.2.1,x4.q.2.2.1,())
def H9 (A:Alg) (aO:Pt A cu) (aP:Ft A cu) (x:Tup A.ah [.l .u8,.i]):Ot A BZ:=
 A.cl aO aP (A.lit 4,x.1,x.2.1,()) fun x0=>
 A.l1 .i x0.1 fun x1=>
 A.cl aO aP (A.lit 4,x0.2.1,x0.2.2.1,()) fun x2=>
 A.l1 .i x2.1 fun x3=>
 A.cl aO aP (A.lit 14,x2.2.1,x2.2.2.1,()) fun x4=>
 A.l1 .b (A.cmp .eql x4.1 (A.lit 0)) fun x5=>
 A.bind [.i,.i,.i,.b,.l .u8,.i,.i,.i,.i,.i] (A.cond x5.1 (A.ret _ (x1.1,x3.1,x4.1,x5.1,x4.2.1,x4.2.2.1,A.lit 0,A.lit 0,A.lit 0,A.lit 0,()))<|
 A.l1 .b (A.cmp .eql x4.1 (A.lit 1)) fun x6=>
 A.ret _ (x1.1,x3.1,x4.1,x6.1,x4.2.1,x4.2.2.1,A.lit 0,A.lit 0,A.lit 0,A.lit 0,())) fun x6=>
 A.cond x6.2.2.2.1 (A.cl aO aP (A.lit 64,x6.q.1,x6.q.2.1,()) fun x7=>
 A.cl aO aP (A.lit 256,x7.2.1,x7.2.2.1,()) fun x8=>
 A.l1 (.l .i64) (A.lst .i64 [A.mkX .i64 (A.lit 0,()),A.mkX .i64 (A.lit 1,()),A.mkX .i64 (A.lit 2,()),A.mkX .i64 (x7.1,()),A.mkX .i64 (x8.1,()),A.mkX .i64 (A.lit 255,())]) fun x9=>
 A.cl aO aP (A.lit 6,x8.2.1,x8.2.2.1,()) fun x10=>
 A.bd .i64 x9.1 x10.1<|
 A.bd .i64 x9.1 x10.1<|
 A.ret _ (A.lit 1,x6.1,A.lit 0,A.fI .i64 0 (A.get .i64 x9.1 x10.1),x10.2.1,x10.2.2.1,()))<|
 A.l1 .b (A.cmp .eql x6.2.2.1 (A.lit 2)) fun x7=>
 A.cond x7.1 (A.ret _ (A.lit 2,x6.1,x6.2.1,A.lit 0,x6.q.1,x6.q.2.1,()))<|
 A.l1 .b (A.cmp .eql x6.2.2.1 (A.lit 3)) fun x8=>
 A.bind [.i,.i,.i,.b,.l .u8,.i,.i,.i,.i,.i] (A.cond x8.1 (A.ret _ (x6.1,x6.2.1,x6.2.2.1,x8.1,x6.q.1,x6.q.2.1,x6.q.2.2.1,x6.q.2.2.2.1,x6.o.1,x6.o.2.1,()))<|
 A.l1 .b (A.cmp .eql x6.2.2.1 (A.lit 4)) fun x9=>
 A.bind [.i,.i,.i,.b,.l .u8,.i,.i,.i,.i,.i] (A.cond x9.1 (A.ret _ (x6.1,x6.2.1,x6.2.2.1,x9.1,x6.q.1,x6.q.2.1,x6.q.2.2.1,x6.q.2.2.2.1,x6.o.1,x6.o.2.1,()))<|
 A.l1 .b (A.cmp .eql x6.2.2.1 (A.lit 5)) fun x10=>
 A.ret _ (x6.1,x6.2.1,x6.2.2.1,x10.1,x6.q.1,x6.q.2.1,x6.q.2.2.1,x6.q.2.2.2.1,x6.o.1,x6.o.2.1,())) fun x10=>
 A.ret _ (x10.1,x10.2.1,x10.2.2.1,x10.2.2.2.1,x10.q.1,x10.q.2.1,x10.q.2.2.1,x10.q.2.2.2.1,x10.o.1,x10.o.2.1,())) fun x9=>
 A.cond x9.2.2.2.1 (A.cl aO aP (A.lit 5,x9.q.1,x9.q.2.1,()) fun x10=>
 A.cl aO aP (A.lit 4,x10.2.1,x10.2.2.1,()) fun x11=>
 A.ret _ (A.arith .add .i64 (A.lit 3) x10.1,x9.1,x9.2.1,x11.1,x11.2.1,x11.2.2.1,()))<|
 A.l1 .b (A.cmp .eql x9.2.2.1 (A.lit 6)) fun x10=>
 A.cond x10.1 (A.cl aO aP (A.lit 16,x9.q.1,x9.q.2.1,()) fun x11=>
 A.l1 (.l .i64) (A.lst .i64 [A.mkX .i64 (A.lit 0,()),A.mkX .i64 (A.lit 1,()),A.mkX .i64 (A.lit 8,()),A.mkX .i64 (A.lit 15,()),A.mkX .i64 (x11.1,())]) fun x12=>
 A.cl aO aP (A.lit 5,x11.2.1,x11.2.2.1,()) fun x13=>
 A.bd .i64 x12.1 x13.1<|
 A.bd .i64 x12.1 x13.1<|
 A.ret _ (A.lit 8,x9.1,x9.2.1,A.fI .i64 0 (A.get .i64 x12.1 x13.1),x13.2.1,x13.2.2.1,()))<|
 A.l1 .b (A.cmp .eql x9.2.2.1 (A.lit 7)) fun x11=>
 A.bind [.i,.i,.i,.b,.l .u8,.i,.i,.i,.i,.i] (A.cond x11.1 (A.ret _ (x9.1,x9.2.1,x9.2.2.1,x11.1,x9.q.1,x9.q.2.1,x9.q.2.2.1,x9.q.2.2.2.1,x9.o.1,x9.o.2.1,()))<|
 A.l1 .b (A.cmp .eql x9.2.2.1 (A.lit 8)) fun x12=>
 A.ret _ (x9.1,x9.2.1,x9.2.2.1,x12.1,x9.q.1,x9.q.2.1,x9.q.2.2.1,x9.q.2.2.2.1,x9.o.1,x9.o.2.1,())) fun x12=>
 A.cond x12.2.2.2.1 (A.cl aO aP (A.lit 2,x12.q.1,x12.q.2.1,()) fun x13=>
 A.cl aO aP (A.lit 64,x13.2.1,x13.2.2.1,()) fun x14=>
 A.l1 (.l .i64) (A.lst .i64 [A.mkX .i64 (A.lit 0,()),A.mkX .i64 (A.lit 1,()),A.mkX .i64 (x14.1,()),A.mkX .i64 (A.lit 63,()),A.mkX .i64 (A.lit 64,()),A.mkX .i64 (A.lit 255,())]) fun x15=>
 A.cl aO aP (A.lit 6,x14.2.1,x14.2.2.1,()) fun x16=>
 A.bd .i64 x15.1 x16.1<|
 A.bd .i64 x15.1 x16.1<|
 A.ret _ (A.arith .add .i64 (A.lit 9) x13.1,x12.1,x12.2.1,A.fI .i64 0 (A.get .i64 x15.1 x16.1),x16.2.1,x16.2.2.1,()))<|
 A.l1 .b (A.cmp .eql x12.2.2.1 (A.lit 9)) fun x13=>
 A.cond x13.1 (A.cl aO aP (A.lit 2,x12.q.1,x12.q.2.1,()) fun x14=>
 A.cl aO aP (A.lit 20,x14.2.1,x14.2.2.1,()) fun x15=>
 A.cl aO aP (A.lit 64,x15.2.1,x15.2.2.1,()) fun x16=>
 A.l1 (.l .i64) (A.lst .i64 [A.mkX .i64 (x15.1,()),A.mkX .i64 (x16.1,()),A.mkX .i64 (A.lit 200,())]) fun x17=>
 A.cl aO aP (A.lit 3,x16.2.1,x16.2.2.1,()) fun x18=>
 A.bd .i64 x17.1 x18.1<|
 A.bd .i64 x17.1 x18.1<|
 A.ret _ (A.arith .add .i64 (A.lit 11) x14.1,x12.1,x12.2.1,A.fI .i64 0 (A.get .i64 x17.1 x18.1),x18.2.1,x18.2.2.1,()))<|
 A.l1 .b (A.cmp .eql x12.2.2.1 (A.lit 10)) fun x14=>
 A.cond x14.1 (A.cl aO aP (A.lit 2,x12.q.1,x12.q.2.1,()) fun x15=>
 A.ret _ (A.arith .add .i64 (A.lit 14) x15.1,x12.1,A.lit 0,A.lit 0,x15.2.1,x15.2.2.1,()))<|
 A.l1 .b (A.cmp .eql x12.2.2.1 (A.lit 11)) fun x15=>
 A.cond x15.1 (A.cl aO aP (A.lit 4,x12.q.1,x12.q.2.1,()) fun x16=>
 A.ret _ (A.lit 0,A.lit 0,A.lit 0,x16.1,x16.2.1,x16.2.2.1,()))<|
 A.l1 .b (A.cmp .eql x12.2.2.1 (A.lit 12)) fun x16=>
 A.cond x16.1 (A.ret _ (A.lit 13,A.lit 0,x12.2.1,A.lit 0,x12.q.1,x12.q.2.1,()))<|
 A.ret _ (A.lit 14,x12.1,A.lit 0,A.lit 0,x12.q.1,x12.q.2.1,())
def Ia (A:Alg) (x:Tup A.ah [.x .ins]):Ot A Ca:=
 A.l1 .b (A.bl false) fun x0=>
 A.l1 .b (A.cmp .eql (A.fI .ins 0 x.1) (A.lit 0)) fun x1=>
 A.cond x1.1 (A.l1 .b (A.ay (A.ay (A.cmp .eql (A.fI .ins 1 x.1) (A.lit 0)) (A.cmp .eql (A.fI .ins 2 x.1) (A.lit 0)) (A.bl false)) (A.cmp .leq (A.fI .ins 3 x.1) (A.lit 3)) (A.bl false)) fun x2=>
 A.ret _ (x2.1,()))<|
 A.l1 .b (A.cmp .eql (A.fI .ins 0 x.1) (A.lit 1)) fun x2=>
 A.cond x2.1 (A.l1 .b (A.cmp .eql (A.fI .ins 2 x.1) (A.lit 0)) fun x3=>
 A.ret _ (x3.1,()))<|
 A.l1 .b (A.cmp .eql (A.fI .ins 0 x.1) (A.lit 2)) fun x3=>
 A.cond x3.1 (A.l1 .b (A.cmp .eql (A.fI .ins 3 x.1) (A.lit 0)) fun x4=>
 A.ret _ (x4.1,()))<|
 A.l1 .b (A.cmp .eql (A.fI .ins 0 x.1) (A.lit 3)) fun x4=>
 A.bind [.i,.b,.x .ins] (A.cond x4.1 (A.ret _ (A.fI .ins 0 x.1,x4.1,x.1,()))<|
 A.l1 .b (A.cmp .eql (A.fI .ins 0 x.1) (A.lit 4)) fun x5=>
 A.bind [.i,.b,.x .ins] (A.cond x5.1 (A.ret _ (A.fI .ins 0 x.1,x5.1,x.1,()))<|
 A.l1 .b (A.cmp .eql (A.fI .ins 0 x.1) (A.lit 5)) fun x6=>
 A.bind [.i,.b,.x .ins] (A.cond x6.1 (A.ret _ (A.fI .ins 0 x.1,x6.1,x.1,()))<|
 A.l1 .b (A.cmp .eql (A.fI .ins 0 x.1) (A.lit 6)) fun x7=>
 A.bind [.i,.b,.x .ins] (A.cond x7.1 (A.ret _ (A.fI .ins 0 x.1,x7.1,x.1,()))<|
 A.l1 .b (A.cmp .eql (A.fI .ins 0 x.1) (A.lit 7)) fun x8=>
 A.ret _ (A.fI .ins 0 x.1,x8.1,x.1,())) fun x8=>
 A.ret _ (x8.1,x8.2.1,x8.2.2.1,())) fun x7=>
 A.ret _ (x7.1,x7.2.1,x7.2.2.1,())) fun x6=>
 A.ret _ (x6.1,x6.2.1,x6.2.2.1,())) fun x5=>
 A.cond x5.2.1 (A.l1 .b (A.cmp .lss (A.fI .ins 3 x5.2.2.1) (A.lit 4)) fun x6=>
 A.ret _ (x6.1,()))<|
 A.l1 .b (A.cmp .eql x5.1 (A.lit 8)) fun x6=>
 A.cond x6.1 (A.l1 .b (A.cmp .lss (A.fI .ins 3 x5.2.2.1) (A.lit 16)) fun x7=>
 A.ret _ (x7.1,()))<|
 A.l1 .b (A.cmp .eql x5.1 (A.lit 13)) fun x7=>
 A.cond x7.1 (A.l1 .b (A.ay (A.cmp .eql (A.fI .ins 1 x5.2.2.1) (A.lit 0)) (A.cmp .eql (A.fI .ins 3 x5.2.2.1) (A.lit 0)) (A.bl false)) fun x8=>
 A.ret _ (x8.1,()))<|
 A.l1 .b (A.cmp .eql x5.1 (A.lit 14)) fun x8=>
 A.bind [.b,.x .ins] (A.cond x8.1 (A.ret _ (x8.1,x5.2.2.1,()))<|
 A.l1 .b (A.cmp .eql x5.1 (A.lit 15)) fun x9=>
 A.ret _ (x9.1,x5.2.2.1,())) fun x9=>
 A.cond x9.1 (A.l1 .b (A.ay (A.cmp .eql (A.fI .ins 2 x9.2.1) (A.lit 0)) (A.cmp .eql (A.fI .ins 3 x9.2.1) (A.lit 0)) (A.bl false)) fun x10=>
 A.ret _ (x10.1,()))<|
 A.l1 .b (A.bl true) fun x10=>
 A.ret _ (x10.1,())
def Ib (A:Alg) (cB:Pt A bS) (cO:Ft A bS) (aix:Pt A Ca) (aiy:Ft A Ca) (x:Tup A.ah [.x .ins]):Ot A uR:=
 A.l1 .b (A.bl false) fun x0=>
 A.cl cB cO (A.fI .ins 0 x.1,A.lit 0,A.lit 15,()) fun x1=>
 A.chk (A.orB (A.au x1.1) (cB (A.fI .ins 1 x.1,A.lit 0,A.lit 3,())))<|
 A.bL _ (cO (A.fI .ins 1 x.1,A.lit 0,A.lit 3,())) fun x2=>
 A.chk (A.orB (A.au (A.ay x1.1 x2.1 (A.bl false))) (cB (A.fI .ins 2 x.1,A.lit 0,A.lit 3,())))<|
 A.bL _ (cO (A.fI .ins 2 x.1,A.lit 0,A.lit 3,())) fun x3=>
 A.chk (A.orB (A.au (A.ay (A.ay x1.1 x2.1 (A.bl false)) x3.1 (A.bl false))) (cB (A.fI .ins 3 x.1,A.lit 0,A.lit 255,())))<|
 A.bL _ (cO (A.fI .ins 3 x.1,A.lit 0,A.lit 255,())) fun x4=>
 A.chk (A.orB (A.au (A.ay (A.ay (A.ay x1.1 x2.1 (A.bl false)) x3.1 (A.bl false)) x4.1 (A.bl false))) (aix (x.1,())))<|
 A.bL _ (aiy (x.1,())) fun x5=>
 A.l1 .b (A.ay (A.ay (A.ay (A.ay x1.1 x2.1 (A.bl false)) x3.1 (A.bl false)) x4.1 (A.bl false)) x5.1 (A.bl false)) fun x6=>
 A.ret _ (x6.1,())
def Ic (A:Alg) (x:Tup A.ah [.i]):Ot A uS:=
 A.l1 .b (A.bl false) fun x0=>
 A.l1 .b (A.ay (A.ay (A.cmp .eql x.1 (A.lit 11)) (A.bl true) (A.cmp .eql x.1 (A.lit 12))) (A.bl true) (A.cmp .eql x.1 (A.lit 13))) fun x1=>
 A.ret _ (x1.1,())
def Ie (A:Alg) (SH:Pt A uS) (SK:Ft A uS) (SL:Pt A uR) (SN:Ft A uR) (x:Tup A.ah [.x .ins]):Ot A uT:=
 A.l1 .b (A.bl false) fun x0=>
 A.cl SL SN (x.1,()) fun x1=>
 A.chk (A.orB (A.au (A.ay x1.1 (A.cmp .neq (A.fI .ins 0 x.1) (A.lit 0)) (A.bl false))) (SH (A.fI .ins 0 x.1,())))<|
 A.bL _ (SK (A.fI .ins 0 x.1,())) fun x2=>
 A.l1 .b (A.ay (A.ay x1.1 (A.cmp .neq (A.fI .ins 0 x.1) (A.lit 0)) (A.bl false)) (A.au x2.1) (A.bl false)) fun x3=>
 A.ret _ (x3.1,())
def Ig (A:Alg) (aiz:Pt A BZ) (aiA:Ft A BZ) (aO:Pt A cu) (aP:Ft A cu) (SQ:Pt A uT) (SX:Ft A uT) (x:Tup A.ah [.l .u8,.i]):Ot A Cc:=
 A.cl aiz aiA (x.1,x.2.1,()) fun x0=>
 A.cl SQ SX (A.mkX .ins (x0.1,x0.2.1,x0.2.2.1,x0.2.2.2.1,()),()) fun x1=>
 A.cond (A.au x1.1) (A.cl aO aP (A.lit 4,x0.q.1,x0.q.2.1,()) fun x2=>
 A.ret _ (A.lit 3,x0.2.1,x0.2.2.1,x2.1,x2.2.1,x2.2.2.1,()))<|
 A.ret _ (x0.1,x0.2.1,x0.2.2.1,x0.2.2.2.1,x0.q.1,x0.q.2.1,())
def Ih (A:Alg) (Y1:Pt A Cc) (Y2:Ft A Cc) (aO:Pt A cu) (aP:Ft A cu) (x:Tup A.ah [.l .u8,.i]):Ot A Ce:=
 A.l1 (.l .ins) (A.lst .ins []) fun x0=>
 A.cl aO aP (A.lit 8,x.1,x.2.1,()) fun x1=>
 A.l1 .i x1.1 fun x2=>
 A.iter [.i,.l .u8,.i,.l .ins] (fun x3=>
 A.cond (A.cmp .gtr x3.1 (A.lit 0)) (A.cl Y1 Y2 (x3.2.1,x3.2.2.1,()) fun x4=>
 A.l1 (.l .ins) (A.lst .ins [A.mkX .ins (x4.1,x4.2.1,x4.2.2.1,x4.2.2.2.1,())]) fun x5=>
 A.chk (A.cmp .leq (A.addN (A.len .ins x3.2.2.2.1) (A.len .ins x5.1)) (A.lit 1073741824))<|
 A.l1 (.l .ins) (A.app .ins x3.2.2.2.1 x5.1) fun x6=>
 A.l1 .i (A.arith .sub .i64 x3.1 (A.lit 1)) fun x7=>
 A.inl _ (x7.1,x4.q.1,x4.q.2.1,x6.1,()))<|
 A.inr _<|A.cl aO aP (A.lit 3,x3.2.1,x3.2.2.1,()) fun x4=>
 A.l1 .b (A.cmp .eql x4.1 (A.lit 0)) fun x5=>
 A.cond x5.1 (A.cl aO aP (A.lit 2,x4.2.1,x4.2.2.1,()) fun x6=>
 A.cl aO aP (A.lit 4,x6.2.1,x6.2.2.1,()) fun x7=>
 A.cl aO aP (A.lit 4,x7.2.1,x7.2.2.1,()) fun x8=>
 A.cl aO aP (A.lit 64,x8.2.1,x8.2.2.1,()) fun x9=>
 A.l1 (.l .ins) (A.lst .ins [A.mkX .ins (A.arith .add .i64 (A.lit 11) x6.1,x7.1,x8.1,x9.1,())]) fun x10=>
 A.chk (A.cmp .leq (A.addN (A.len .ins x3.2.2.2.1) (A.len .ins x10.1)) (A.lit 1073741824))<|
 A.l1 (.l .ins) (A.app .ins x3.2.2.2.1 x10.1) fun x11=>
 A.ret _ (x9.2.1,x9.2.2.1,x11.1,()))<|
 A.l1 .b (A.cmp .eql x4.1 (A.lit 1)) fun x6=>
 A.cond x6.1 (A.cl aO aP (A.lit 4,x4.2.1,x4.2.2.1,()) fun x7=>
 A.l1 (.l .ins) (A.lst .ins [A.mkX .ins (A.lit 13,A.lit 0,x7.1,A.lit 0,())]) fun x8=>
 A.chk (A.cmp .leq (A.addN (A.len .ins x3.2.2.2.1) (A.len .ins x8.1)) (A.lit 1073741824))<|
 A.l1 (.l .ins) (A.app .ins x3.2.2.2.1 x8.1) fun x9=>
 A.ret _ (x7.2.1,x7.2.2.1,x9.1,()))<|
 A.cl Y1 Y2 (x4.2.1,x4.2.2.1,()) fun x7=>
 A.l1 (.l .ins) (A.lst .ins [A.mkX .ins (x7.1,x7.2.1,x7.2.2.1,x7.2.2.2.1,())]) fun x8=>
 A.chk (A.cmp .leq (A.addN (A.len .ins x3.2.2.2.1) (A.len .ins x8.1)) (A.lit 1073741824))<|
 A.l1 (.l .ins) (A.app .ins x3.2.2.2.1 x8.1) fun x9=>
 A.ret _ (x7.q.1,x7.q.2.1,x9.1,())) (x2.1,x1.2.1,x1.2.2.1,x0.1,())
def Ii (A:Alg) (SH:Pt A uS) (SK:Ft A uS) (SL:Pt A uR) (SN:Ft A uR) (cB:Pt A bS) (cO:Ft A bS) (SQ:Pt A uT) (SX:Ft A uT) (x:Tup A.ah [.i,.l .ins]):Ot A Cg:=
 A.l1 .b (A.bl false) fun x0=>
 A.cl cB cO (A.len .ins x.2.1,A.lit 1,A.lit 8,()) fun x1=>
 A.chk (A.orB (A.au (A.au (A.au x1.1))) (cB (x.1,A.lit 0,A.arith .sub .i64 (A.lit 64) (A.len .ins x.2.1),())))<|
 A.bL _ (cO (x.1,A.lit 0,A.arith .sub .i64 (A.lit 64) (A.len .ins x.2.1),())) fun x2=>
 A.cond (A.ay (A.au x1.1) (A.bl true) (A.au x2.1)) (A.l1 .b (A.bl false) fun x3=>
 A.ret _ (x3.1,()))<|
 A.l1 .i (A.lit 0) fun x3=>
 A.iter [.l .ins,.i] (fun x4=>
 A.cond (A.cmp .lss x4.2.1 (A.len .ins x4.1)) (A.bd .ins x4.1 x4.2.1<|
 A.cl SQ SX (A.get .ins x4.1 x4.2.1,()) fun x5=>
 A.chk (A.orB (A.au (A.jI (A.au x5.1) (A.au (A.cmp .lss x4.2.1 (A.arith .sub .i64 (A.len .ins x4.1) (A.lit 1)))))) (A.cmp .leq (A.lit 0) x4.2.1))<|
 A.chk (A.orB (A.au (A.jI (A.au x5.1) (A.au (A.cmp .lss x4.2.1 (A.arith .sub .i64 (A.len .ins x4.1) (A.lit 1)))))) (A.cmp .lss x4.2.1 (A.len .ins x4.1)))<|
 A.chk (A.orB (A.au (A.jI (A.au x5.1) (A.au (A.cmp .lss x4.2.1 (A.arith .sub .i64 (A.len .ins x4.1) (A.lit 1)))))) (SL (A.get .ins x4.1 x4.2.1,())))<|
 A.bL _ (SN (A.get .ins x4.1 x4.2.1,())) fun x6=>
 A.chk (A.orB (A.au (A.jI (A.au x5.1) (A.au (A.ay (A.cmp .lss x4.2.1 (A.arith .sub .i64 (A.len .ins x4.1) (A.lit 1))) (A.bl true) (A.au x6.1))))) (A.cmp .leq (A.lit 0) x4.2.1))<|
 A.chk (A.orB (A.au (A.jI (A.au x5.1) (A.au (A.ay (A.cmp .lss x4.2.1 (A.arith .sub .i64 (A.len .ins x4.1) (A.lit 1))) (A.bl true) (A.au x6.1))))) (A.cmp .lss x4.2.1 (A.len .ins x4.1)))<|
 A.chk (A.orB (A.au (A.jI (A.au x5.1) (A.au (A.ay (A.cmp .lss x4.2.1 (A.arith .sub .i64 (A.len .ins x4.1) (A.lit 1))) (A.bl true) (A.au x6.1))))) (SH (A.fI .ins 0 (A.get .ins x4.1 x4.2.1),())))<|
 A.bL _ (SK (A.fI .ins 0 (A.get .ins x4.1 x4.2.1),())) fun x7=>
 A.cond (A.ay (A.au x5.1) (A.ay (A.ay (A.cmp .lss x4.2.1 (A.arith .sub .i64 (A.len .ins x4.1) (A.lit 1))) (A.bl true) (A.au x6.1)) (A.bl true) (A.au x7.1)) (A.bl false)) (A.l1 .b (A.bl false) fun x8=>
 A.inr _<|A.ret _ (x8.1,()))<|
 A.l1 .i (A.arith .add .i64 x4.2.1 (A.lit 1)) fun x8=>
 A.inl _ (x4.1,x8.1,()))<|
 A.inr _<|A.l1 .b (A.bl true) fun x5=>
 A.ret _ (x5.1,())) (x.2.1,x3.1,())
def Ij (A:Alg) (x:Tup A.ah [.i,.i,.i,.i,.i,.i,.x .iop,.l .iop]):Ot A jh:=
 A.l1 .i (A.lit 0) fun x0=>
 A.l1 (.l .iop) (A.lst .iop [x.q.2.2.1]) fun x1=>
 A.chk (A.cmp .leq (A.addN (A.len .iop x.q.2.2.2.1) (A.len .iop x1.1)) (A.lit 1073741824))<|
 A.l1 (.l .iop) (A.app .iop x.q.2.2.2.1 x1.1) fun x2=>
 A.l1 .i (A.arith .sub .i64 (A.len .iop x2.1) (A.lit 1)) fun x3=>
 A.ret _ (x.1,x.2.1,x.2.2.1,x.2.2.2.1,x.q.1,x.q.2.1,x3.1,x2.1,())
def Ik (A:Alg) (l6:Pt A jh) (l7:Ft A jh) (x:Tup A.ah [.i,.i,.i,.i,.i,.i,.i,.i,.l .iop]):Ot A uU:=
 A.cl l6 l7 (x.1,x.2.1,x.2.2.1,x.2.2.2.1,x.q.1,x.q.2.1,A.mkX .iop (A.lit 8,x.q.2.2.2.1,A.lit 0,x.q.2.2.1,A.lit 0,()),x.o.1,()) fun x0=>
 A.l1 .i x0.q.2.2.1 fun x1=>
 A.ret _ (x0.1,x0.2.1,x0.2.2.1,x0.2.2.2.1,x0.q.1,x0.q.2.1,x0.q.2.2.2.1,())
def Il (A:Alg) (l6:Pt A jh) (l7:Ft A jh) (x:Tup A.ah [.i,.i,.i,.i,.i,.i,.i,.l .iop]):Ot A jT:=
 A.l1 .i (A.lit 0) fun x0=>
 A.cl l6 l7 (x.1,x.2.1,x.2.2.1,x.2.2.2.1,x.q.1,x.q.2.1,A.mkX .iop (A.lit 2,A.lit 0,A.lit 0,x.q.2.2.1,A.lit 0,()),x.q.2.2.2.1,()) fun x1=>
 A.l1 .i x1.q.2.2.1 fun x2=>
 A.ret _ (x1.1,x1.2.1,x1.2.2.1,x1.2.2.2.1,x1.q.1,x1.q.2.1,x2.1,x1.q.2.2.2.1,())
def Im (A:Alg) (pF:Pt A jT) (pG:Ft A jT) (l6:Pt A jh) (l7:Ft A jh) (x:Tup A.ah [.i,.i,.i,.i,.i,.i,.i,.i,.x .iop,.l .iop]):Ot A uV:=
 A.l1 .i (A.lit 0) fun x0=>
 A.cl pF pG (x.1,x.2.1,x.2.2.1,x.2.2.2.1,x.q.1,x.q.2.1,x.q.2.2.2.1,x.o.2.1,()) fun x1=>
 A.l1 .i x1.q.2.2.1 fun x2=>
 A.cl l6 l7 (x1.1,x1.2.1,x1.2.2.1,x1.2.2.2.1,x1.q.1,x1.q.2.1,x.o.1,x1.q.2.2.2.1,()) fun x3=>
 A.l1 .i x3.q.2.2.1 fun x4=>
 A.cl l6 l7 (x3.1,x3.2.1,x3.2.2.1,x3.2.2.2.1,x3.q.1,x3.q.2.1,A.mkX .iop (A.lit 3,x2.1,x4.1,x.q.2.2.1,A.lit 0,()),x3.q.2.2.2.1,()) fun x5=>
 A.l1 .i x5.q.2.2.1 fun x6=>
 A.ret _ (x5.1,x5.2.1,x5.2.2.1,x5.2.2.2.1,x5.q.1,x5.q.2.1,x6.1,x5.q.2.2.2.1,())
def Io (A:Alg) (x:Tup A.ah [.i]):Ot A Ch:=
 A.l1 .i (A.lit 0) fun x0=>
 A.l1 .i (A.lit 1) fun x1=>
 A.l1 .i (A.lit 0) fun x2=>
 A.iter [.i,.i,.i] (fun x3=>
 A.cond (A.cmp .lss x3.2.2.1 x3.1) (A.l1 .i (A.arith .add .i64 x3.2.1 x3.2.1) fun x4=>
 A.l1 .i (A.arith .add .i64 x3.2.2.1 (A.lit 1)) fun x5=>
 A.inl _ (x3.1,x4.1,x5.1,()))<|
 A.inr _<|A.l1 .i x3.2.1 fun x4=>
 A.ret _ (x4.1,())) (x.1,x1.1,x2.1,())
def Ip (A:Alg) (pF:Pt A jT) (pG:Ft A jT) (l6:Pt A jh) (l7:Ft A jh) (Md:Pt A uV) (Me:Ft A uV) (zk:Pt A uU) (zl:Ft A uU) (x:Tup A.ah [.i,.i,.i,.i,.i,.i,.x .ins,.i,.l .iop]):Ot A Ci:=
 A.cl Md Me (x.1,x.2.1,x.2.2.1,x.2.2.2.1,x.q.1,x.q.2.1,A.lit 1,A.fI .ins 2 x.q.2.2.1,A.mkX .iop (A.lit 1,A.lit 0,A.lit 0,A.fI .ins 3 x.q.2.2.1,A.lit 0,()),x.o.1,()) fun x0=>
 A.l1 .i x0.q.2.2.1 fun x1=>
 A.cond (A.cmp .eql (A.fI .ins 0 x.q.2.2.1) (A.lit 9)) (A.cl l6 l7 (x0.1,x0.2.1,x0.2.2.1,x0.2.2.2.1,x0.q.1,x0.q.2.1,A.mkX .iop (A.lit 4,x1.1,A.lit 0,A.lit 0,x.q.2.2.2.1,()),x0.q.2.2.2.1,()) fun x2=>
 A.l1 .i x2.q.2.2.1 fun x3=>
 A.cl zk zl (x2.1,x2.2.1,x2.2.2.1,x2.2.2.2.1,x2.q.1,x2.q.2.1,A.fI .ins 1 x.q.2.2.1,x3.1,x2.q.2.2.2.1,()) fun x4=>
 A.ret _ (x4.1,x4.2.1,x4.2.2.1,x4.2.2.2.1,x4.q.1,x4.q.2.1,x4.q.2.2.1,()))<|
 A.cl pF pG (x0.1,x0.2.1,x0.2.2.1,x0.2.2.2.1,x0.q.1,x0.q.2.1,A.fI .ins 1 x.q.2.2.1,x0.q.2.2.2.1,()) fun x2=>
 A.l1 .i x2.q.2.2.1 fun x3=>
 A.cl l6 l7 (x2.1,x2.2.1,x2.2.2.1,x2.2.2.2.1,x2.q.1,x2.q.2.1,A.mkX .iop (A.lit 5,x1.1,x3.1,A.lit 0,x.q.2.2.2.1,()),x2.q.2.2.2.1,()) fun x4=>
 A.l1 .i x4.q.2.2.1 fun x5=>
 A.ret _ (x4.1,x4.2.1,x4.2.2.1,x4.2.2.2.1,x4.q.1,x4.q.2.1,x4.q.2.2.2.1,())
def Iq (A:Alg) (pF:Pt A jT) (pG:Ft A jT) (x:Tup A.ah [.i,.i,.i,.i,.i,.i,.x .ins,.l .iop]):Ot A Cj:=
 A.cond (A.cmp .eql (A.fI .ins 0 x.q.2.2.1) (A.lit 13)) (A.cl pF pG (x.1,x.2.1,x.2.2.1,x.2.2.2.1,x.q.1,x.q.2.1,A.fI .ins 2 x.q.2.2.1,x.q.2.2.2.1,()) fun x0=>
 A.l1 .i x0.q.2.2.1 fun x1=>
 A.l1 .i (A.lit 2) fun x2=>
 A.l1 .i x1.1 fun x3=>
 A.l1 .i (A.lit 0) fun x4=>
 A.ret _ (x0.1,x0.2.1,x2.1,x3.1,x0.q.1,x4.1,x0.q.2.2.2.1,()))<|
 A.cl pF pG (x.1,x.2.1,x.2.2.1,x.2.2.2.1,x.q.1,x.q.2.1,A.fI .ins 1 x.q.2.2.1,x.q.2.2.2.1,()) fun x0=>
 A.l1 .i x0.q.2.2.1 fun x1=>
 A.cl pF pG (x0.1,x0.2.1,x0.2.2.1,x0.2.2.2.1,x0.q.1,x0.q.2.1,A.fI .ins 2 x.q.2.2.1,x0.q.2.2.2.1,()) fun x2=>
 A.l1 .i x2.q.2.2.1 fun x3=>
 A.l1 .i (A.lit 3) fun x4=>
 A.bind [.i,.i,.x .ins,.i,.i,.i,.i,.i,.i,.i,.i,.i,.i,.i,.i,.l .iop] (A.cond (A.cmp .eql (A.fI .ins 0 x.q.2.2.1) (A.lit 12)) (A.l1 .i (A.lit 4) fun x5=>
 A.ret _ (x1.1,x3.1,x.q.2.2.1,A.lit 0,A.lit 0,A.lit 0,A.lit 0,A.lit 0,A.lit 0,x2.1,x2.2.1,x5.1,x2.2.2.2.1,x2.q.1,x2.q.2.1,x2.q.2.2.2.1,()))<|
 A.ret _ (x1.1,x3.1,x.q.2.2.1,A.lit 0,A.lit 0,A.lit 0,A.lit 0,A.lit 0,A.lit 0,x2.1,x2.2.1,x4.1,x2.2.2.2.1,x2.q.1,x2.q.2.1,x2.q.2.2.2.1,())) fun x5=>
 A.l1 .i x5.1 fun x6=>
 A.l1 .i x5.2.1 fun x7=>
 A.l1 .i (A.fI .ins 3 x5.2.2.1) fun x8=>
 A.ret _ (x5.o.2.1,x5.o.2.2.1,x5.o.2.2.2.1,x6.1,x7.1,x8.1,x5.o.q.2.2.2.1,())
def Ir (A:Alg) (pF:Pt A jT) (pG:Ft A jT) (aiB:Pt A Cj) (aiC:Ft A Cj) (l6:Pt A jh) (l7:Ft A jh) (aiD:Pt A Ci) (aiE:Ft A Ci) (Md:Pt A uV) (Me:Ft A uV) (zk:Pt A uU) (zl:Ft A uU) (aiF:Pt A Ch) (aiG:Ft A Ch) (x:Tup A.ah [.i,.i,.i,.i,.i,.i,.x .ins,.i,.l .iop]):Ot A Ck:=
 A.l1 .b (A.cmp .eql (A.fI .ins 0 x.q.2.2.1) (A.lit 1)) fun x0=>
 A.cond x0.1 (A.cl l6 l7 (x.1,x.2.1,x.2.2.1,x.2.2.2.1,x.q.1,x.q.2.1,A.mkX .iop (A.lit 1,A.lit 0,A.lit 0,A.fI .ins 3 x.q.2.2.1,A.lit 0,()),x.o.1,()) fun x1=>
 A.l1 .i x1.q.2.2.1 fun x2=>
 A.cl zk zl (x1.1,x1.2.1,x1.2.2.1,x1.2.2.2.1,x1.q.1,x1.q.2.1,A.fI .ins 1 x.q.2.2.1,x2.1,x1.q.2.2.2.1,()) fun x3=>
 A.ret _ (x3.1,x3.2.1,x3.2.2.1,x3.2.2.2.1,x3.q.1,x3.q.2.1,x3.q.2.2.1,()))<|
 A.l1 .b (A.cmp .eql (A.fI .ins 0 x.q.2.2.1) (A.lit 2)) fun x1=>
 A.cond x1.1 (A.cl pF pG (x.1,x.2.1,x.2.2.1,x.2.2.2.1,x.q.1,x.q.2.1,A.fI .ins 2 x.q.2.2.1,x.o.1,()) fun x2=>
 A.l1 .i x2.q.2.2.1 fun x3=>
 A.cl zk zl (x2.1,x2.2.1,x2.2.2.1,x2.2.2.2.1,x2.q.1,x2.q.2.1,A.fI .ins 1 x.q.2.2.1,x3.1,x2.q.2.2.2.1,()) fun x4=>
 A.ret _ (x4.1,x4.2.1,x4.2.2.1,x4.2.2.2.1,x4.q.1,x4.q.2.1,x4.q.2.2.1,()))<|
 A.l1 .b (A.cmp .eql (A.fI .ins 0 x.q.2.2.1) (A.lit 8)) fun x2=>
 A.cond x2.1 (A.cl aiF aiG (A.fI .ins 3 x.q.2.2.1,()) fun x3=>
 A.cl Md Me (x.1,x.2.1,x.2.2.1,x.2.2.2.1,x.q.1,x.q.2.1,A.lit 3,A.fI .ins 2 x.q.2.2.1,A.mkX .iop (A.lit 1,A.lit 0,A.lit 0,x3.1,A.lit 0,()),x.o.1,()) fun x4=>
 A.l1 .i x4.q.2.2.1 fun x5=>
 A.cl zk zl (x4.1,x4.2.1,x4.2.2.1,x4.2.2.2.1,x4.q.1,x4.q.2.1,A.fI .ins 1 x.q.2.2.1,x5.1,x4.q.2.2.2.1,()) fun x6=>
 A.ret _ (x6.1,x6.2.1,x6.2.2.1,x6.2.2.2.1,x6.q.1,x6.q.2.1,x6.q.2.2.1,()))<|
 A.l1 .b (A.cmp .eql (A.fI .ins 0 x.q.2.2.1) (A.lit 9)) fun x3=>
 A.bind [.i,.i,.b,.l .iop,.i,.i,.i,.i,.i,.i,.x .ins,.i,.i,.i,.i,.i,.i] (A.cond x3.1 (A.ret _ (x.q.2.2.2.1,A.fI .ins 0 x.q.2.2.1,x3.1,x.o.1,x.1,x.2.1,x.2.2.1,x.2.2.2.1,x.q.1,x.q.2.1,x.q.2.2.1,A.lit 0,A.lit 0,A.lit 0,A.lit 0,A.lit 0,A.lit 0,()))<|
 A.l1 .b (A.cmp .eql (A.fI .ins 0 x.q.2.2.1) (A.lit 10)) fun x4=>
 A.ret _ (x.q.2.2.2.1,A.fI .ins 0 x.q.2.2.1,x4.1,x.o.1,x.1,x.2.1,x.2.2.1,x.2.2.2.1,x.q.1,x.q.2.1,x.q.2.2.1,A.lit 0,A.lit 0,A.lit 0,A.lit 0,A.lit 0,A.lit 0,())) fun x4=>
 A.cond x4.2.2.1 (A.cl aiD aiE (x4.q.1,x4.q.2.1,x4.q.2.2.1,x4.q.2.2.2.1,x4.o.1,x4.o.2.1,x4.o.2.2.1,x4.1,x4.2.2.2.1,()) fun x5=>
 A.ret _ (x5.1,x5.2.1,x5.2.2.1,x5.2.2.2.1,x5.q.1,x5.q.2.1,x5.q.2.2.1,()))<|
 A.l1 .b (A.cmp .eql x4.2.1 (A.lit 14)) fun x5=>
 A.cond x5.1 (A.cl pF pG (x4.q.1,x4.q.2.1,x4.q.2.2.1,x4.q.2.2.2.1,x4.o.1,x4.o.2.1,A.fI .ins 1 x4.o.2.2.1,x4.2.2.2.1,()) fun x6=>
 A.l1 .i x6.q.2.2.1 fun x7=>
 A.cl l6 l7 (x6.1,x6.2.1,x6.2.2.1,x6.2.2.2.1,x6.q.1,x6.q.2.1,A.mkX .iop (A.lit 7,x7.1,A.lit 0,A.lit 0,x4.1,()),x6.q.2.2.2.1,()) fun x8=>
 A.l1 .i x8.q.2.2.1 fun x9=>
 A.ret _ (x8.1,x8.2.1,x8.2.2.1,x8.2.2.2.1,x8.q.1,x8.q.2.1,x8.q.2.2.2.1,()))<|
 A.l1 .b (A.cmp .eql x4.2.1 (A.lit 15)) fun x6=>
 A.cond x6.1 (A.cl l6 l7 (x4.q.1,x4.q.2.1,x4.q.2.2.1,x4.q.2.2.2.1,x4.o.1,x4.o.2.1,A.mkX .iop (A.lit 6,A.lit 0,A.lit 0,A.lit 0,x4.1,()),x4.2.2.2.1,()) fun x7=>
 A.l1 .i x7.q.2.2.1 fun x8=>
 A.cl zk zl (x7.1,x7.2.1,x7.2.2.1,x7.2.2.2.1,x7.q.1,x7.q.2.1,A.fI .ins 1 x4.o.2.2.1,x8.1,x7.q.2.2.2.1,()) fun x9=>
 A.ret _ (x9.1,x9.2.1,x9.2.2.1,x9.2.2.2.1,x9.q.1,x9.q.2.1,x9.q.2.2.1,()))<|
 A.l1 .b (A.cmp .eql x4.2.1 (A.lit 11)) fun x7=>
 A.bind [.b,.l .iop,.i,.i,.i,.i,.i,.i,.x .ins,.i,.i,.i,.i,.i,.i] (A.cond x7.1 (A.ret _ (x7.1,x4.2.2.2.1,x4.q.1,x4.q.2.1,x4.q.2.2.1,x4.q.2.2.2.1,x4.o.1,x4.o.2.1,x4.o.2.2.1,x4.o.2.2.2.1,x4.o.q.1,x4.o.q.2.1,x4.o.q.2.2.1,x4.o.q.2.2.2.1,x4.o.o.1,()))<|
 A.l1 .b (A.cmp .eql x4.2.1 (A.lit 12)) fun x8=>
 A.bind [.b,.l .iop,.i,.i,.i,.i,.i,.i,.x .ins,.i,.i,.i,.i,.i,.i] (A.cond x8.1 (A.ret _ (x8.1,x4.2.2.2.1,x4.q.1,x4.q.2.1,x4.q.2.2.1,x4.q.2.2.2.1,x4.o.1,x4.o.2.1,x4.o.2.2.1,x4.o.2.2.2.1,x4.o.q.1,x4.o.q.2.1,x4.o.q.2.2.1,x4.o.q.2.2.2.1,x4.o.o.1,()))<|
 A.l1 .b (A.cmp .eql x4.2.1 (A.lit 13)) fun x9=>
 A.ret _ (x9.1,x4.2.2.2.1,x4.q.1,x4.q.2.1,x4.q.2.2.1,x4.q.2.2.2.1,x4.o.1,x4.o.2.1,x4.o.2.2.1,x4.o.2.2.2.1,x4.o.q.1,x4.o.q.2.1,x4.o.q.2.2.1,x4.o.q.2.2.2.1,x4.o.o.1,())) fun x9=>
 A.ret _ (x9.1,x9.2.1,x9.2.2.1,x9.2.2.2.1,x9.q.1,x9.q.2.1,x9.q.2.2.1,x9.q.2.2.2.1,x9.o.1,x9.o.2.1,x9.o.2.2.1,x9.o.2.2.2.1,x9.o.q.1,x9.o.q.2.1,x9.o.q.2.2.1,())) fun x8=>
 A.cond x8.1 (A.cl aiB aiC (x8.2.2.1,x8.2.2.2.1,x8.q.1,x8.q.2.1,x8.q.2.2.1,x8.q.2.2.2.1,x8.o.1,x8.2.1,()) fun x9=>
 A.ret _ (x9.1,x9.2.1,x9.2.2.1,x9.2.2.2.1,x9.q.1,x9.q.2.1,x9.q.2.2.1,()))<|
 A.cl Md Me (x8.2.2.1,x8.2.2.2.1,x8.q.1,x8.q.2.1,x8.q.2.2.1,x8.q.2.2.2.1,A.arith .add .i64 (A.arith .sub .i64 (A.fI .ins 0 x8.o.1) (A.lit 3)) (A.lit 1),A.fI .ins 2 x8.o.1,A.mkX .iop (A.lit 2,A.lit 0,A.lit 0,A.fI .ins 3 x8.o.1,A.lit 0,()),x8.2.1,()) fun x9=>
 A.l1 .i x9.q.2.2.1 fun x10=>
 A.cl zk zl (x9.1,x9.2.1,x9.2.2.1,x9.2.2.2.1,x9.q.1,x9.q.2.1,A.fI .ins 1 x8.o.1,x10.1,x9.q.2.2.2.1,()) fun x11=>
 A.ret _ (x11.1,x11.2.1,x11.2.2.1,x11.2.2.2.1,x11.q.1,x11.q.2.1,x11.q.2.2.1,())
def Iu (A:Alg) (aiH:Pt A Cg) (aiI:Ft A Cg) (aiJ:Pt A Ck) (aiK:Ft A Ck) (x:Tup A.ah [.i,.l .ins]):Ot A Cm:=
 A.cl aiH aiI (x.1,x.2.1,()) fun x0=>
 A.cond (A.au x0.1) (A.ret _ (A.lit 0,A.lit 0,A.lit 0,A.lit 0,A.lit 0,A.lit 0,A.bC .iop,()))<|
 A.l1 .i (A.lit 0) fun x1=>
 A.iter [.l .ins,.i,.i,.i,.i,.i,.i,.i,.i,.i,.i,.i,.i,.i,.l .iop] (fun x2=>
 A.cond (A.cmp .lss x2.2.1 (A.len .ins x2.1)) (A.bd .ins x2.1 x2.2.1<|
 A.cl aiJ aiK (x2.o.1,x2.o.2.1,x2.o.2.2.1,x2.o.2.2.2.1,x2.o.q.1,x2.o.q.2.1,A.get .ins x2.1 x2.2.1,x2.2.1,x2.o.q.2.2.1,()) fun x3=>
 A.l1 .i (A.arith .add .i64 x2.2.1 (A.lit 1)) fun x4=>
 A.inl _ (x2.1,x4.1,x2.2.2.1,x2.2.2.2.1,x2.q.1,x2.q.2.1,x2.q.2.2.1,x2.q.2.2.2.1,x3.1,x3.2.1,x3.2.2.1,x3.2.2.2.1,x3.q.1,x3.q.2.1,x3.q.2.2.1,()))<|
 A.inr _<|A.ret _ (x2.o.1,x2.o.2.1,x2.o.2.2.1,x2.o.2.2.2.1,x2.o.q.1,x2.o.q.2.1,x2.o.q.2.2.1,())) (x.2.1,x1.1,A.lit 0,A.lit 0,A.lit 0,A.lit 0,A.lit 0,A.lit 0,x.1,A.len .ins x.2.1,A.lit 1,A.lit 0,A.lit 0,A.arith .add .i64 x.1 (A.len .ins x.2.1),A.bC .iop,())
def Iw (A:Alg) (aiL:Pt A Cm) (aiM:Ft A Cm) (aiN:Pt A BX) (aiO:Ft A BX) (SF:Pt A uO) (SG:Ft A uO) (aO:Pt A cu) (aP:Ft A cu) (aiP:Pt A Ce) (aiQ:Ft A Ce) (x:Tup A.ah [.l .u8,.i]):Ot A Cn:=
 A.cl aiP aiQ (x.1,x.2.1,()) fun x0=>
 A.cl aO aP (A.lit 50,x0.1,x0.2.1,()) fun x1=>
 A.l1 (.l .i64) (A.lst .i64 [A.mkX .i64 (A.lit 0,()),A.mkX .i64 (A.lit 1,()),A.mkX .i64 (x1.1,()),A.mkX .i64 (A.arith .sub .i64 (A.lit 64) (A.len .ins x0.2.2.1),())]) fun x2=>
 A.cl aO aP (A.lit 4,x1.2.1,x1.2.2.1,()) fun x3=>
 A.bd .i64 x2.1 x3.1<|
 A.bd .i64 x2.1 x3.1<|
 A.cl aiL aiM (A.fI .i64 0 (A.get .i64 x2.1 x3.1),x0.2.2.1,()) fun x4=>
 A.cl aO aP (A.lit 5,x3.2.1,x3.2.2.1,()) fun x5=>
 A.l1 .b (A.cmp .eql x5.1 (A.lit 0)) fun x6=>
 A.cond x6.1 (A.cl aiN aiO (A.mkX .blk (x4.1,x4.2.1,x4.q.2.2.1,x4.2.2.1,x4.2.2.2.1,x4.q.1,x4.q.2.1,()),()) fun x7=>
 A.ret _ (x7.1,x7.2.1,x7.2.2.1,x7.2.2.2.1,x7.q.1,x7.q.2.1,x5.2.1,x5.2.2.1,x7.q.2.2.1,()))<|
 A.l1 .b (A.cmp .eql x5.1 (A.lit 1)) fun x7=>
 A.cond x7.1 (A.cl SF SG (A.mkX .blk (x4.1,x4.2.1,x4.q.2.2.1,x4.2.2.1,x4.2.2.2.1,x4.q.1,x4.q.2.1,()),()) fun x8=>
 A.ret _ (x8.1,x8.2.1,x8.2.2.1,x8.2.2.2.1,x8.q.1,x8.q.2.1,x5.2.1,x5.2.2.1,x8.q.2.2.1,()))<|
 A.ret _ (x4.1,x4.2.1,x4.2.2.1,x4.2.2.2.1,x4.q.1,x4.q.2.1,x5.2.1,x5.2.2.1,x4.q.2.2.1,())
def Y3 (A:Alg) (x:Tup A.ah [.i]):Ot A L6:=
 A.l1 .b (A.bl false) fun x0=>
 A.l1 .b (A.cmp .neq x.1 x.1) fun x1=>
 A.ret _ (x1.1,())
def Y4 (A:Alg) (Y5:Pt A L6) (Y6:Ft A L6) (x:Tup A.ah [.i,.i]):Ot A Ef:=
 A.l1 .i (A.lit 0) fun x0=>
 A.cl Y5 Y6 (x.1,()) fun x1=>
 A.l1 .b x1.1 fun x2=>
 A.cl Y5 Y6 (x.2.1,()) fun x3=>
 A.l1 .b x3.1 fun x4=>
 A.cond x2.1 (A.cond x4.1 (A.l1 .i (A.lit 0) fun x5=>
 A.ret _ (x5.1,()))<|
 A.l1 .i (A.lit (-1)) fun x5=>
 A.ret _ (x5.1,()))<|
 A.cond x4.1 (A.l1 .i (A.lit 1) fun x5=>
 A.ret _ (x5.1,()))<|
 A.cond (A.cmp .lss x.1 x.2.1) (A.l1 .i (A.lit (-1)) fun x5=>
 A.ret _ (x5.1,()))<|
 A.cond (A.cmp .gtr x.1 x.2.1) (A.l1 .i (A.lit 1) fun x5=>
 A.ret _ (x5.1,()))<|
 A.l1 .i (A.lit 0) fun x5=>
 A.ret _ (x5.1,())
def Y7 (A:Alg) (x:Tup A.ah [.l .i64]):Ot A L8:=
 A.l1 .i (A.lit 0) fun x0=>
 A.l1 .i (A.lit 0) fun x1=>
 A.iter [.i,.l .i64,.i,.i] (fun x2=>
 A.cond (A.cmp .lss x2.2.2.2.1 x2.2.2.1) (A.bd .i64 x2.2.1 x2.2.2.2.1<|
 A.l1 .i (A.fI .i64 0 (A.get .i64 x2.2.1 x2.2.2.2.1)) fun x3=>
 A.cond (A.cmp .neq x3.1 x2.1) (A.l1 .i x3.1 fun x4=>
 A.inr _<|A.ret _ (x4.1,()))<|
 A.inl _ (x2.1,x2.2.1,x2.2.2.1,A.arith .add .i64 x2.2.2.2.1 (A.lit 1),()))<|
 A.inr _<|A.l1 .i x2.1 fun x3=>
 A.ret _ (x3.1,())) (x1.1,x.1,A.len .i64 x.1,A.lit 0,())
def Pn (A:Alg) (XE:Pt A Ef) (XF:Ft A Ef) (x:Tup A.ah [.l .i64,.l .i64]):Ot A J6:=
 A.l1 .i (A.lit 0) fun x0=>
 A.iter [.l .i64,.l .i64,.l .i64,.i,.i] (fun x1=>
 A.cond (A.cmp .lss x1.q.1 x1.2.2.2.1) (A.bd .i64 x1.2.2.1 x1.q.1<|
 A.l1 .i x1.q.1 fun x2=>
 A.l1 .i (A.fI .i64 0 (A.get .i64 x1.2.2.1 x1.q.1)) fun x3=>
 A.cond (A.cmp .geq x2.1 (A.len .i64 x1.2.1)) (A.l1 .i (A.lit 1) fun x4=>
 A.inr _<|A.ret _ (x4.1,()))<|
 A.bd .i64 x1.2.1 x2.1<|
 A.l1 .i (A.fI .i64 0 (A.get .i64 x1.2.1 x2.1)) fun x4=>
 A.cl XE XF (x3.1,x4.1,()) fun x5=>
 A.l1 .i x5.1 fun x6=>
 A.cond (A.cmp .neq x6.1 (A.lit 0)) (A.l1 .i x6.1 fun x7=>
 A.inr _<|A.ret _ (x7.1,()))<|
 A.inl _ (x1.1,x1.2.1,x1.2.2.1,x1.2.2.2.1,A.arith .add .i64 x1.q.1 (A.lit 1),()))<|
 A.inr _<|A.cond (A.cmp .lss (A.len .i64 x1.1) (A.len .i64 x1.2.1)) (A.l1 .i (A.lit (-1)) fun x2=>
 A.ret _ (x2.1,()))<|
 A.l1 .i (A.lit 0) fun x2=>
 A.ret _ (x2.1,())) (x.1,x.2.1,x.1,A.len .i64 x.1,A.lit 0,())
def Po (A:Alg) (aiR:Pt A L8) (aiS:Ft A L8) (XE:Pt A Ef) (XF:Ft A Ef) (am0:Pt A J6) (am1:Ft A J6) (x:Tup A.ah [.l .i64,.l .i64]):Ot A nZ:=
 A.l1 .i (A.lit 0) fun x0=>
 A.cl XE XF (A.len .i64 x.1,A.len .i64 x.2.1,()) fun x1=>
 A.cl am0 am1 (x.1,x.2.1,()) fun x2=>
 A.l1 (.l .i64) (A.lst .i64 [A.mkX .i64 (x1.1,()),A.mkX .i64 (x2.1,())]) fun x3=>
 A.cl aiR aiS (x3.1,()) fun x4=>
 A.l1 .i x4.1 fun x5=>
 A.ret _ (x5.1,())
def Pp (A:Alg) (x:Tup A.ah [.i,.i,.i]):Ot A dB:=
 A.l1 .b (A.bl false) fun x0=>
 A.l1 .b (A.ay (A.cmp .leq x.2.1 x.1) (A.cmp .leq x.1 x.2.2.1) (A.bl false)) fun x1=>
 A.ret _ (x1.1,())
def Y8 (A:Alg) (Y5:Pt A L6) (Y6:Ft A L6) (x:Tup A.ah [.i,.i]):Ot A Eh:=
 A.l1 .b (A.bl false) fun x0=>
 A.cl Y5 Y6 (x.1,()) fun x1=>
 A.chk (A.orB (A.au x1.1) (Y5 (x.2.1,())))<|
 A.bL _ (Y6 (x.2.1,())) fun x2=>
 A.l1 .b (A.ay (A.ay x1.1 (A.au x2.1) (A.bl false)) (A.bl true) (A.cmp .lss x.1 x.2.1)) fun x3=>
 A.ret _ (x3.1,())
def Iy (A:Alg) (Y9:Pt A Eh) (Za:Ft A Eh) (x:Tup A.ah [.l .i64]):Ot A Cq:=
 A.l1 .b (A.bl false) fun x0=>
 A.l1 .i (A.arith .sub .i64 (A.len .i64 x.1) (A.lit 1)) fun x1=>
 A.iter [.l .i64,.i] (fun x2=>
 A.cond (A.cmp .gtr x2.2.1 (A.lit 0)) (A.bd .i64 x2.1 x2.2.1<|
 A.bd .i64 x2.1 (A.arith .sub .i64 x2.2.1 (A.lit 1))<|
 A.cl Y9 Za (A.fI .i64 0 (A.get .i64 x2.1 x2.2.1),A.fI .i64 0 (A.get .i64 x2.1 (A.arith .sub .i64 x2.2.1 (A.lit 1))),()) fun x3=>
 A.cond x3.1 (A.l1 .b (A.bl false) fun x4=>
 A.inr _<|A.ret _ (x4.1,()))<|
 A.l1 .i (A.arith .sub .i64 x2.2.1 (A.lit 1)) fun x4=>
 A.inl _ (x2.1,x4.1,()))<|
 A.inr _<|A.l1 .b (A.bl true) fun x3=>
 A.ret _ (x3.1,())) (x.1,x1.1,())
def Pq (A:Alg) (x:Tup A.ah [.i,.i]):Ot A J7:=
 A.l1 .b (A.bl false) fun x0=>
 A.l1 .b (A.cmp .geq x.1 x.2.1) fun x1=>
 A.ret _ (x1.1,x.2.1,())
def Iz (A:Alg) (am2:Pt A J7) (am3:Ft A J7) (x:Tup A.ah [.l .i64,.i]):Ot A Cr:=
 A.l1 .i (A.lit 0) fun x0=>
 A.iter [.l .i64,.i,.i,.i] (fun x1=>
 A.cond (A.cmp .lss x1.2.2.1 x1.2.1) (A.l1 .i x1.2.2.1 fun x2=>
 A.bd .i64 x1.1 x2.1<|
 A.cl am2 am3 (A.fI .i64 0 (A.get .i64 x1.1 x2.1),x1.2.2.2.1,()) fun x3=>
 A.cond x3.1 (A.l1 .i x2.1 fun x4=>
 A.inr _<|A.ret _ (x4.1,x3.2.1,()))<|
 A.inl _ (x1.1,x1.2.1,A.arith .add .i64 x1.2.2.1 (A.lit 1),x3.2.1,()))<|
 A.inr _<|A.l1 .i (A.lit (-1)) fun x2=>
 A.ret _ (x2.1,x1.2.2.2.1,())) (x.1,A.len .i64 x.1,A.lit 0,x.2.1,())
def IB (A:Alg) (aiT:Pt A Cr) (aiU:Ft A Cr) (x:Tup A.ah [.l .i64,.i]):Ot A Cu:=
 A.l1 .b (A.bl false) fun x0=>
 A.cl aiT aiU (x.1,x.2.1,()) fun x1=>
 A.l1 .b (A.cmp .geq x1.1 (A.lit 0)) fun x2=>
 A.ret _ (x2.1,x1.2.1,())
def Pv (A:Alg) (aiV:Pt A Cu) (aiW:Ft A Cu) (x:Tup A.ah [.x .poly,.i]):Ot A Ad:=
 A.l1 .b (A.bl false) fun x0=>
 A.iter [.l .mono,.i,.i,.i] (fun x1=>
 A.cond (A.cmp .lss x1.2.2.1 x1.2.1) (A.bd .mono x1.1 x1.2.2.1<|
 A.l1 (.x .mono) (A.get .mono x1.1 x1.2.2.1) fun x2=>
 A.cl aiV aiW (A.fL .mono 1 .i64 x2.1,x1.2.2.2.1,()) fun x3=>
 A.cond x3.1 (A.l1 .b (A.bl false) fun x4=>
 A.inr _<|A.ret _ (x4.1,()))<|
 A.inl _ (x1.1,x1.2.1,A.arith .add .i64 x1.2.2.1 (A.lit 1),x3.2.1,()))<|
 A.inr _<|A.l1 .b (A.bl true) fun x2=>
 A.ret _ (x2.1,())) (A.fL .poly 0 .mono x.1,A.len .mono (A.fL .poly 0 .mono x.1),A.lit 0,x.2.1,())
def Pw (A:Alg) (x:Tup A.ah [.x .mono]):Ot A J8:=
 A.l1 .b (A.bl false) fun x0=>
 A.chk (A.orB (A.au (A.cmp .gtr (A.len .i64 (A.fL .mono 1 .i64 x.1)) (A.lit 0))) (A.cmp .leq (A.lit 0) (A.lit 0)))<|
 A.chk (A.orB (A.au (A.cmp .gtr (A.len .i64 (A.fL .mono 1 .i64 x.1)) (A.lit 0))) (A.cmp .lss (A.lit 0) (A.len .i64 (A.fL .mono 1 .i64 x.1))))<|
 A.l1 .b (A.ay (A.cmp .gtr (A.len .i64 (A.fL .mono 1 .i64 x.1)) (A.lit 0)) (A.cmp .lss (A.fI .i64 0 (A.get .i64 (A.fL .mono 1 .i64 x.1) (A.lit 0))) (A.lit 0)) (A.bl false)) fun x1=>
 A.ret _ (x1.1,())
def IC (A:Alg) (am4:Pt A J8) (am5:Ft A J8) (x:Tup A.ah [.l .mono]):Ot A Cv:=
 A.l1 .i (A.lit 0) fun x0=>
 A.iter [.l .mono,.i,.i] (fun x1=>
 A.cond (A.cmp .lss x1.2.2.1 x1.2.1) (A.l1 .i x1.2.2.1 fun x2=>
 A.bd .mono x1.1 x2.1<|
 A.cl am4 am5 (A.get .mono x1.1 x2.1,()) fun x3=>
 A.cond x3.1 (A.l1 .i x2.1 fun x4=>
 A.inr _<|A.ret _ (x4.1,()))<|
 A.inl _ (x1.1,x1.2.1,A.arith .add .i64 x1.2.2.1 (A.lit 1),()))<|
 A.inr _<|A.l1 .i (A.lit (-1)) fun x2=>
 A.ret _ (x2.1,())) (x.1,A.len .mono x.1,A.lit 0,())
def IE (A:Alg) (aiX:Pt A Cv) (aiY:Ft A Cv) (x:Tup A.ah [.l .mono]):Ot A Cw:=
 A.l1 .b (A.bl false) fun x0=>
 A.cl aiX aiY (x.1,()) fun x1=>
 A.l1 .b (A.cmp .geq x1.1 (A.lit 0)) fun x2=>
 A.ret _ (x2.1,())
def Px (A:Alg) (gu:Pt A dB) (gy:Ft A dB) (Vu:Pt A Ad) (Vv:Ft A Ad) (aiZ:Pt A Cq) (ai0:Ft A Cq) (IG:Pt A nZ) (II:Ft A nZ) (ai1:Pt A Cw) (ai2:Ft A Cw) (x:Tup A.ah [.x .poly]):Ot A jl:=
 A.l1 .b (A.bl false) fun x0=>
 A.iter [.l .mono,.i,.i,.x .poly] (fun x1=>
 A.cond (A.cmp .lss x1.2.2.1 x1.2.1) (A.bd .mono x1.1 x1.2.2.1<|
 A.l1 .i x1.2.2.1 fun x2=>
 A.l1 (.x .mono) (A.get .mono x1.1 x1.2.2.1) fun x3=>
 A.cl gu gy (A.fI .mono 0 x3.1,A.lit 1,A.lit 65535,()) fun x4=>
 A.chk (A.orB (A.au (A.au (A.ay (A.au x4.1) (A.bl true) (A.cmp .gtr (A.len .i64 (A.fL .mono 1 .i64 x3.1)) (A.lit 4))))) (aiZ (A.fL .mono 1 .i64 x3.1,())))<|
 A.bL _ (ai0 (A.fL .mono 1 .i64 x3.1,())) fun x5=>
 A.chk (A.orB (A.au (A.jI (A.au (A.ay (A.ay (A.au x4.1) (A.bl true) (A.cmp .gtr (A.len .i64 (A.fL .mono 1 .i64 x3.1)) (A.lit 4))) (A.bl true) (A.au x5.1))) (A.cmp .gtr x2.1 (A.lit 0)))) (A.cmp .leq (A.lit 0) (A.arith .sub .i64 x2.1 (A.lit 1))))<|
 A.chk (A.orB (A.au (A.jI (A.au (A.ay (A.ay (A.au x4.1) (A.bl true) (A.cmp .gtr (A.len .i64 (A.fL .mono 1 .i64 x3.1)) (A.lit 4))) (A.bl true) (A.au x5.1))) (A.cmp .gtr x2.1 (A.lit 0)))) (A.cmp .lss (A.arith .sub .i64 x2.1 (A.lit 1)) (A.len .mono (A.fL .poly 0 .mono x1.2.2.2.1))))<|
 A.chk (A.orB (A.au (A.jI (A.au (A.ay (A.ay (A.au x4.1) (A.bl true) (A.cmp .gtr (A.len .i64 (A.fL .mono 1 .i64 x3.1)) (A.lit 4))) (A.bl true) (A.au x5.1))) (A.cmp .gtr x2.1 (A.lit 0)))) (IG (A.fL .mono 1 .i64 (A.get .mono (A.fL .poly 0 .mono x1.2.2.2.1) (A.arith .sub .i64 x2.1 (A.lit 1))),A.fL .mono 1 .i64 x3.1,())))<|
 A.bL _ (II (A.fL .mono 1 .i64 (A.get .mono (A.fL .poly 0 .mono x1.2.2.2.1) (A.arith .sub .i64 x2.1 (A.lit 1))),A.fL .mono 1 .i64 x3.1,())) fun x6=>
 A.cond (A.ay (A.ay (A.ay (A.au x4.1) (A.bl true) (A.cmp .gtr (A.len .i64 (A.fL .mono 1 .i64 x3.1)) (A.lit 4))) (A.bl true) (A.au x5.1)) (A.bl true) (A.ay (A.cmp .gtr x2.1 (A.lit 0)) (A.cmp .geq x6.1 (A.lit 0)) (A.bl false))) (A.l1 .b (A.bl false) fun x7=>
 A.inr _<|A.ret _ (x7.1,()))<|
 A.inl _ (x1.1,x1.2.1,A.arith .add .i64 x1.2.2.1 (A.lit 1),x1.2.2.2.1,()))<|
 A.inr _<|A.chk (A.orB (A.au (A.cmp .leq (A.len .mono (A.fL .poly 0 .mono x1.2.2.2.1)) (A.lit 12))) (Vu (x1.2.2.2.1,A.lit 200,())))<|
 A.bL _ (Vv (x1.2.2.2.1,A.lit 200,())) fun x2=>
 A.chk (A.orB (A.au (A.ay (A.cmp .leq (A.len .mono (A.fL .poly 0 .mono x1.2.2.2.1)) (A.lit 12)) x2.1 (A.bl false))) (ai1 (A.fL .poly 0 .mono x1.2.2.2.1,())))<|
 A.bL _ (ai2 (A.fL .poly 0 .mono x1.2.2.2.1,())) fun x3=>
 A.l1 .b (A.ay (A.ay (A.cmp .leq (A.len .mono (A.fL .poly 0 .mono x1.2.2.2.1)) (A.lit 12)) x2.1 (A.bl false)) (A.au x3.1) (A.bl false)) fun x4=>
 A.ret _ (x4.1,())) (A.fL .poly 0 .mono x.1,A.len .mono (A.fL .poly 0 .mono x.1),A.lit 0,x.1,())
def Py (A:Alg) (mO:Pt A jl) (mP:Ft A jl) (x:Tup A.ah [.x .poly]):Ot A Ae:=
 A.l1 .i (A.lit 0) fun x0=>
 A.l1 .b (A.bl false) fun x1=>
 A.cl mO mP (x.1,()) fun x2=>
 A.l1 .b (A.au x2.1) fun x3=>
 A.cond x3.1 (A.l1 .i (A.lit 0) fun x4=>
 A.l1 .b (A.bl false) fun x5=>
 A.ret _ (x4.1,x5.1,()))<|
 A.l1 .b (A.cmp .eql (A.len .mono (A.fL .poly 0 .mono x.1)) (A.lit 0)) fun x4=>
 A.cond x4.1 (A.l1 .i (A.lit 0) fun x5=>
 A.l1 .b (A.bl true) fun x6=>
 A.ret _ (x5.1,x6.1,()))<|
 A.chk (A.orB (A.au (A.cmp .eql (A.len .mono (A.fL .poly 0 .mono x.1)) (A.lit 1))) (A.cmp .leq (A.lit 0) (A.lit 0)))<|
 A.chk (A.orB (A.au (A.cmp .eql (A.len .mono (A.fL .poly 0 .mono x.1)) (A.lit 1))) (A.cmp .lss (A.lit 0) (A.len .mono (A.fL .poly 0 .mono x.1))))<|
 A.l1 .b (A.ay (A.cmp .eql (A.len .mono (A.fL .poly 0 .mono x.1)) (A.lit 1)) (A.cmp .eql (A.len .i64 (A.fL .mono 1 .i64 (A.get .mono (A.fL .poly 0 .mono x.1) (A.lit 0)))) (A.lit 0)) (A.bl false)) fun x5=>
 A.cond x5.1 (A.bd .mono (A.fL .poly 0 .mono x.1) (A.lit 0)<|
 A.l1 .i (A.fI .mono 0 (A.get .mono (A.fL .poly 0 .mono x.1) (A.lit 0))) fun x6=>
 A.l1 .b (A.bl true) fun x7=>
 A.ret _ (x6.1,x7.1,()))<|
 A.l1 .i (A.lit 0) fun x6=>
 A.l1 .b (A.bl false) fun x7=>
 A.ret _ (x6.1,x7.1,())
def Pz (A:Alg) (aiR:Pt A L8) (aiS:Ft A L8) (XE:Pt A Ef) (XF:Ft A Ef) (IG:Pt A nZ) (II:Ft A nZ) (x:Tup A.ah [.x .poly,.x .poly]):Ot A vK:=
 A.l1 .i (A.lit 0) fun x0=>
 A.cl XE XF (A.len .mono (A.fL .poly 0 .mono x.1),A.len .mono (A.fL .poly 0 .mono x.2.1),()) fun x1=>
 A.l1 .i x1.1 fun x2=>
 A.cond (A.cmp .neq x2.1 (A.lit 0)) (A.l1 .i x2.1 fun x3=>
 A.ret _ (x3.1,()))<|
 A.iter [.l .mono,.i,.i,.x .poly] (fun x3=>
 A.cond (A.cmp .lss x3.2.2.1 x3.2.1) (A.bd .mono x3.1 x3.2.2.1<|
 A.l1 .i x3.2.2.1 fun x4=>
 A.l1 (.x .mono) (A.get .mono x3.1 x3.2.2.1) fun x5=>
 A.bd .mono (A.fL .poly 0 .mono x3.2.2.2.1) x4.1<|
 A.bd .mono (A.fL .poly 0 .mono x3.2.2.2.1) x4.1<|
 A.cl IG II (A.fL .mono 1 .i64 x5.1,A.fL .mono 1 .i64 (A.get .mono (A.fL .poly 0 .mono x3.2.2.2.1) x4.1),()) fun x6=>
 A.cl XE XF (A.fI .mono 0 x5.1,A.fI .mono 0 (A.get .mono (A.fL .poly 0 .mono x3.2.2.2.1) x4.1),()) fun x7=>
 A.cl aiR aiS (A.lst .i64 [A.mkX .i64 (x6.1,()),A.mkX .i64 (x7.1,())],()) fun x8=>
 A.l1 .i x8.1 fun x9=>
 A.cond (A.cmp .neq x9.1 (A.lit 0)) (A.l1 .i x9.1 fun x10=>
 A.inr _<|A.ret _ (x10.1,()))<|
 A.inl _ (x3.1,x3.2.1,A.arith .add .i64 x3.2.2.1 (A.lit 1),x3.2.2.2.1,()))<|
 A.inr _<|A.l1 .i (A.lit 0) fun x4=>
 A.ret _ (x4.1,())) (A.fL .poly 0 .mono x.1,A.len .mono (A.fL .poly 0 .mono x.1),A.lit 0,x.2.1,())
def PD (A:Alg) (x:Tup A.ah [.l .i64]):Ot A Af:=
 A.chk (A.cmp .leq (A.len .i64 x.1) (A.lit 1073741824))<|
 A.l1 (.l .i64) x.1 fun x0=>
 A.ret _ (x0.1,())
def PE (A:Alg) (Zb:Pt A Af) (Zc:Ft A Af) (x:Tup A.ah [.x .poly]):Ot A vL:=
 A.iter [.l .mono,.i,.i,.l .mono] (fun x0=>
 A.cond (A.cmp .lss x0.2.2.1 x0.2.1) (A.bd .mono x0.1 x0.2.2.1<|
 A.l1 (.x .mono) (A.get .mono x0.1 x0.2.2.1) fun x1=>
 A.cl Zb Zc (A.fL .mono 1 .i64 x1.1,()) fun x2=>
 A.l1 (.l .mono) (A.lst .mono [A.mkX .mono (A.fI .mono 0 x1.1,x2.1,())]) fun x3=>
 A.chk (A.cmp .leq (A.addN (A.len .mono x0.2.2.2.1) (A.len .mono x3.1)) (A.lit 1073741824))<|
 A.l1 (.l .mono) (A.app .mono x0.2.2.2.1 x3.1) fun x4=>
 A.inl _ (x0.1,x0.2.1,A.arith .add .i64 x0.2.2.1 (A.lit 1),x4.1,()))<|
 A.inr _<|A.ret _ (x0.2.2.2.1,())) (A.fL .poly 0 .mono x.1,A.len .mono (A.fL .poly 0 .mono x.1),A.lit 0,A.bC .mono,())
def PG (A:Alg) (Ay:Pt A vL) (Az:Ft A vL) (x:Tup A.ah [.l .poly]):Ot A J9:=
 A.iter [.l .poly,.i,.i,.l .poly] (fun x0=>
 A.cond (A.cmp .lss x0.2.2.1 x0.2.1) (A.bd .poly x0.1 x0.2.2.1<|
 A.l1 (.x .poly) (A.get .poly x0.1 x0.2.2.1) fun x1=>
 A.cl Ay Az (x1.1,()) fun x2=>
 A.l1 (.l .poly) (A.lst .poly [A.mkX .poly (x2.1,())]) fun x3=>
 A.chk (A.cmp .leq (A.addN (A.len .poly x0.2.2.2.1) (A.len .poly x3.1)) (A.lit 1073741824))<|
 A.l1 (.l .poly) (A.app .poly x0.2.2.2.1 x3.1) fun x4=>
 A.inl _ (x0.1,x0.2.1,A.arith .add .i64 x0.2.2.1 (A.lit 1),x4.1,()))<|
 A.inr _<|A.ret _ (x0.2.2.2.1,())) (x.1,A.len .poly x.1,A.lit 0,A.bC .poly,())
def PI (A:Alg) (Ay:Pt A vL) (Az:Ft A vL) (afy:Pt A J9) (afz:Ft A J9) (x:Tup A.ah [.x .sym]):Ot A Ka:=
 A.cl afy afz (A.fL .sym 1 .poly x.1,()) fun x0=>
 A.cl Ay Az (A.mkX .poly (A.fL .sym 3 .mono x.1,()),()) fun x1=>
 A.cl Ay Az (A.mkX .poly (A.fL .sym 4 .mono x.1,()),()) fun x2=>
 A.iter [.l .ev,.i,.i,.i,.i,.i,.i,.l .ev,.l .poly,.l .mono,.l .mono] (fun x3=>
 A.cond (A.cmp .lss x3.2.2.1 x3.2.1) (A.bd .ev x3.1 x3.2.2.1<|
 A.l1 (.x .ev) (A.get .ev x3.1 x3.2.2.1) fun x4=>
 A.cl Ay Az (A.mkX .poly (A.fL .ev 2 .mono x4.1,()),()) fun x5=>
 A.cl Ay Az (A.mkX .poly (A.fL .ev 3 .mono x4.1,()),()) fun x6=>
 A.cl afy afz (A.fL .ev 4 .poly x4.1,()) fun x7=>
 A.l1 (.l .ev) (A.lst .ev [A.mkX .ev (A.fI .ev 0 x4.1,A.fI .ev 1 x4.1,x5.1,x6.1,x7.1,())]) fun x8=>
 A.chk (A.cmp .leq (A.addN (A.len .ev x3.q.2.2.2.1) (A.len .ev x8.1)) (A.lit 1073741824))<|
 A.l1 (.l .ev) (A.app .ev x3.q.2.2.2.1 x8.1) fun x9=>
 A.inl _ (x3.1,x3.2.1,A.arith .add .i64 x3.2.2.1 (A.lit 1),x3.2.2.2.1,x3.q.1,x3.q.2.1,x3.q.2.2.1,x9.1,x3.o.1,x3.o.2.1,x3.o.2.2.1,()))<|
 A.inr _<|A.ret _ (x3.q.2.1,x3.q.2.2.1,x3.q.2.2.2.1,x3.o.1,x3.o.2.1,x3.o.2.2.1,())) (A.fL .sym 0 .ev x.1,A.len .ev (A.fL .sym 0 .ev x.1),A.lit 0,A.lit 0,A.lit 0,A.fI .sym 2 x.1,A.fI .sym 5 x.1,A.bC .ev,x0.1,x1.1,x2.1,())
def PK (A:Alg) (PL:Pt A vK) (PN:Ft A vK) (x:Tup A.ah [.x .poly,.x .poly]):Ot A vM:=
 A.l1 .b (A.bl false) fun x0=>
 A.cl PL PN (x.1,x.2.1,()) fun x1=>
 A.l1 .b (A.cmp .eql x1.1 (A.lit 0)) fun x2=>
 A.ret _ (x2.1,())
def PO (A:Alg) (gu:Pt A dB) (gy:Ft A dB) (x:Tup A.ah [.i]):Ot A jJ:=
 A.l1 .b (A.bl false) fun x0=>
 A.cl gu gy (x.1,A.lit 0,A.lit 65535,()) fun x1=>
 A.l1 .b x1.1 fun x2=>
 A.ret _ (x2.1,())
def PS (A:Alg) (sV:Pt A jJ) (sW:Ft A jJ) (x:Tup A.ah [.i,.i,.i]):Ot A Kc:=
 A.l1 .b (A.bl false) fun x0=>
 A.cl sV sW (x.2.1,()) fun x1=>
 A.chk (A.orB (A.au x1.1) (sV (x.2.2.1,())))<|
 A.bL _ (sW (x.2.2.1,())) fun x2=>
 A.l1 .b (A.ay (A.ay x1.1 x2.1 (A.bl false)) (A.ay (A.ay (A.cmp .eql x.1 (A.lit 1)) (A.cmp .eql x.2.1 x.2.2.1) (A.bl false)) (A.bl true) (A.ay (A.cmp .eql x.1 (A.lit 2)) (A.cmp .lss x.2.1 x.2.2.1) (A.bl false))) (A.bl false)) fun x3=>
 A.ret _ (x3.1,())
def PU (A:Alg) (PW:Pt A Ae) (PX:Ft A Ae) (mO:Pt A jl) (mP:Ft A jl) (PL:Pt A vK) (PN:Ft A vK) (am6:Pt A Ka) (am7:Ft A Ka) (DX:Pt A vM) (DY:Ft A vM) (am8:Pt A Kc) (am9:Ft A Kc) (x:Tup A.ah [.x .sym,.i]):Ot A Ke:=
 A.cl mO mP (A.mkX .poly (A.fL .sym 3 .mono x.1,()),()) fun x0=>
 A.chk (A.orB (A.au (A.au (A.au x0.1))) (mO (A.mkX .poly (A.fL .sym 4 .mono x.1,()),())))<|
 A.bL _ (mP (A.mkX .poly (A.fL .sym 4 .mono x.1,()),())) fun x1=>
 A.cond (A.ay (A.au x0.1) (A.bl true) (A.au x1.1)) (A.ret _ (A.mkX .sym (A.bC .ev,A.bC .poly,A.lit 0,A.bC .mono,A.bC .mono,A.lit 0,()),()))<|
 A.cl am6 am7 (x.1,()) fun x2=>
 A.cl PW PX (A.mkX .poly (A.fL .sym 3 .mono x.1,()),()) fun x3=>
 A.l1 .i x3.1 fun x4=>
 A.l1 .b x3.2.1 fun x5=>
 A.cl PW PX (A.mkX .poly (A.fL .sym 4 .mono x.1,()),()) fun x6=>
 A.l1 .i x6.1 fun x7=>
 A.l1 .b x6.2.1 fun x8=>
 A.l1 .i (A.arith .add .i64 (A.arith .sub .i64 (A.fI .sym 2 x.1) (A.lit 3)) (A.lit 1)) fun x9=>
 A.l1 .b (A.ay (A.cmp .eql (A.fI .sym 2 x.1) (A.lit 2)) x5.1 (A.bl false)) fun x10=>
 A.bind [.i,.i,.i,.i,.l .ev,.l .poly,.l .mono,.l .mono] (A.cond x10.1 (A.l1 .i (A.lit 1) fun x11=>
 A.l1 .i x4.1 fun x12=>
 A.ret _ (A.lit 0,A.lit 0,x11.1,x12.1,x2.2.2.1,x2.2.2.2.1,A.bC .mono,A.bC .mono,()))<|
 A.l1 .b (A.ay (A.cmp .neq (A.fI .sym 2 x.1) (A.lit 3)) (A.cmp .neq (A.fI .sym 2 x.1) (A.lit 4)) (A.bl false)) fun x11=>
 A.bind [.i,.i,.i,.i,.l .ev,.l .poly,.l .mono,.l .mono] (A.cond x11.1 (A.ret _ (A.lit 0,A.lit 0,x2.1,x2.2.1,x2.2.2.1,x2.2.2.2.1,x2.q.1,x2.q.2.1,()))<|
 A.cl DX DY (A.mkX .poly (A.fL .sym 3 .mono x.1,()),A.mkX .poly (A.fL .sym 4 .mono x.1,()),()) fun x12=>
 A.l1 .b (A.ay x12.1 (A.bl true) (A.ay x5.1 x8.1 (A.bl false))) fun x13=>
 A.bind [.i,.i,.i,.i,.l .ev,.l .poly,.l .mono,.l .mono] (A.cond x13.1 (A.cl DX DY (A.mkX .poly (A.fL .sym 3 .mono x.1,()),A.mkX .poly (A.fL .sym 4 .mono x.1,()),()) fun x14=>
 A.chk (A.orB (A.au (A.jI (A.au (A.ay x14.1 (A.cmp .eql (A.fI .sym 2 x.1) (A.lit 3)) (A.bl false))) (A.ay x5.1 x8.1 (A.bl false)))) (am8 (x9.1,x4.1,x7.1,())))<|
 A.bL _ (am9 (x9.1,x4.1,x7.1,())) fun x15=>
 A.l1 .b (A.ay (A.ay x14.1 (A.cmp .eql (A.fI .sym 2 x.1) (A.lit 3)) (A.bl false)) (A.bl true) (A.ay (A.ay x5.1 x8.1 (A.bl false)) x15.1 (A.bl false))) fun x16=>
 A.l1 .i (A.lit 1) fun x17=>
 A.bind [.i,.i,.i,.i,.l .ev,.l .poly] (A.cond (A.au x16.1) (A.l1 .i x.2.1 fun x18=>
 A.ret _ (A.lit 0,A.lit 0,x17.1,x18.1,x2.2.2.1,x2.2.2.2.1,()))<|
 A.ret _ (A.lit 0,A.lit 0,x17.1,x2.2.1,x2.2.2.1,x2.2.2.2.1,())) fun x18=>
 A.ret _ (x18.1,x18.2.1,x18.2.2.1,x18.2.2.2.1,x18.q.1,x18.q.2.1,A.bC .mono,A.bC .mono,()))<|
 A.chk (A.orB (A.au (A.cmp .eql (A.fI .sym 2 x.1) (A.lit 3))) (PL (A.mkX .poly (A.fL .sym 3 .mono x.1,()),A.mkX .poly (A.fL .sym 4 .mono x.1,()),())))<|
 A.bL _ (PN (A.mkX .poly (A.fL .sym 3 .mono x.1,()),A.mkX .poly (A.fL .sym 4 .mono x.1,()),())) fun x14=>
 A.l1 .b (A.ay (A.cmp .eql (A.fI .sym 2 x.1) (A.lit 3)) (A.cmp .gtr x14.1 (A.lit 0)) (A.bl false)) fun x15=>
 A.bind [.i,.i,.i,.i,.l .ev,.l .poly,.l .mono,.l .mono] (A.cond x15.1 (A.ret _ (A.lit 0,A.lit 0,x2.1,x2.2.1,x2.2.2.1,x2.2.2.2.1,x2.q.2.1,x2.q.1,()))<|
 A.ret _ (A.lit 0,A.lit 0,x2.1,x2.2.1,x2.2.2.1,x2.2.2.2.1,x2.q.1,x2.q.2.1,())) fun x16=>
 A.ret _ (x16.1,x16.2.1,x16.2.2.1,x16.2.2.2.1,x16.q.1,x16.q.2.1,x16.q.2.2.1,x16.q.2.2.2.1,())) fun x14=>
 A.ret _ (x14.1,x14.2.1,x14.2.2.1,x14.2.2.2.1,x14.q.1,x14.q.2.1,x14.q.2.2.1,x14.q.2.2.2.1,())) fun x12=>
 A.ret _ (x12.1,x12.2.1,x12.2.2.1,x12.2.2.2.1,x12.q.1,x12.q.2.1,x12.q.2.2.1,x12.q.2.2.2.1,())) fun x11=>
 A.ret _ (A.mkX .sym (x11.q.1,x11.q.2.1,x11.2.2.1,x11.q.2.2.1,x11.q.2.2.2.1,x11.2.2.2.1,()),())
def PY (A:Alg) (sV:Pt A jJ) (sW:Ft A jJ) (x:Tup A.ah []):Ot A Kg:=
 A.l1 .b (A.bl false) fun x0=>
 A.cl sV sW (A.lit 1,()) fun x1=>
 A.l1 .b x1.1 fun x2=>
 A.ret _ (x2.1,())
def Da (A:Alg) (aO:Pt A cu) (aP:Ft A cu) (Hq:Pt A mX) (Hr:Ft A mX) (x:Tup A.ah [.x .blk,.l .u8,.i]):Ot A Cx:=
 A.cl Hq Hr (x.1,()) fun x0=>
 A.cond (A.cmp .eql (A.len .iop x0.q.2.2.1) (A.lit 0)) (A.l1 .i (A.arith .add .i64 x0.q.2.1 (A.lit 1)) fun x1=>
 A.ret _ (x0.1,x0.2.1,x0.2.2.1,x0.2.2.2.1,x0.q.1,x1.1,x.2.1,x.2.2.1,x0.q.2.2.1,()))<|
 A.cl aO aP (A.len .iop x0.q.2.2.1,x.2.1,x.2.2.1,()) fun x1=>
 A.l1 .i x1.1 fun x2=>
 A.cl aO aP (A.lit 9,x1.2.1,x1.2.2.1,()) fun x3=>
 A.l1 .b (A.cmp .eql x3.1 (A.lit 0)) fun x4=>
 A.bind [.l .u8,.i,.i,.i,.i,.i,.i,.i,.i,.i,.i,.i,.i,.i,.l .iop] (A.cond x4.1 (A.bd .iop x0.q.2.2.1 x2.1<|
 A.bd .iop x0.q.2.2.1 x2.1<|
 A.bd .iop x0.q.2.2.1 x2.1<|
 A.bd .iop x0.q.2.2.1 x2.1<|
 A.l1 .i (A.arith .add .i64 (A.fI .iop 3 (A.get .iop x0.q.2.2.1 x2.1)) (A.lit 1)) fun x5=>
 A.ret _ (x3.2.1,x3.2.2.1,A.lit 0,A.lit 0,A.lit 0,A.lit 0,A.lit 0,A.lit 0,x0.1,x0.2.1,x0.2.2.1,x0.2.2.2.1,x0.q.1,x0.q.2.1,A.set .iop x0.q.2.2.1 x2.1 (A.mkX .iop (A.fI .iop 0 (A.get .iop x0.q.2.2.1 x2.1),A.fI .iop 1 (A.get .iop x0.q.2.2.1 x2.1),A.fI .iop 2 (A.get .iop x0.q.2.2.1 x2.1),x5.1,A.fI .iop 4 (A.get .iop x0.q.2.2.1 x2.1),())),()))<|
 A.l1 .b (A.cmp .eql x3.1 (A.lit 1)) fun x5=>
 A.bind [.l .u8,.i,.i,.i,.i,.i,.i,.i,.i,.i,.i,.i,.i,.i,.l .iop] (A.cond x5.1 (A.cl aO aP (A.arith .add .i64 x2.1 (A.lit 1),x3.2.1,x3.2.2.1,()) fun x6=>
 A.bd .iop x0.q.2.2.1 x2.1<|
 A.bd .iop x0.q.2.2.1 x2.1<|
 A.l1 .i x6.1 fun x7=>
 A.ret _ (x6.2.1,x6.2.2.1,A.lit 0,A.lit 0,A.lit 0,A.lit 0,A.lit 0,A.lit 0,x0.1,x0.2.1,x0.2.2.1,x0.2.2.2.1,x0.q.1,x0.q.2.1,A.set .iop x0.q.2.2.1 x2.1 (A.mkX .iop (A.fI .iop 0 (A.get .iop x0.q.2.2.1 x2.1),x7.1,A.fI .iop 2 (A.get .iop x0.q.2.2.1 x2.1),A.fI .iop 3 (A.get .iop x0.q.2.2.1 x2.1),A.fI .iop 4 (A.get .iop x0.q.2.2.1 x2.1),())),()))<|
 A.l1 .b (A.cmp .eql x3.1 (A.lit 2)) fun x6=>
 A.bind [.l .u8,.i,.i,.i,.i,.i,.i,.i,.i,.i,.i,.i,.i,.i,.l .iop] (A.cond x6.1 (A.cl aO aP (A.arith .add .i64 x2.1 (A.lit 1),x3.2.1,x3.2.2.1,()) fun x7=>
 A.bd .iop x0.q.2.2.1 x2.1<|
 A.bd .iop x0.q.2.2.1 x2.1<|
 A.l1 .i x7.1 fun x8=>
 A.ret _ (x7.2.1,x7.2.2.1,A.lit 0,A.lit 0,A.lit 0,A.lit 0,A.lit 0,A.lit 0,x0.1,x0.2.1,x0.2.2.1,x0.2.2.2.1,x0.q.1,x0.q.2.1,A.set .iop x0.q.2.2.1 x2.1 (A.mkX .iop (A.fI .iop 0 (A.get .iop x0.q.2.2.1 x2.1),A.fI .iop 1 (A.get .iop x0.q.2.2.1 x2.1),x8.1,A.fI .iop 3 (A.get .iop x0.q.2.2.1 x2.1),A.fI .iop 4 (A.get .iop x0.q.2.2.1 x2.1),())),()))<|
 A.l1 .b (A.cmp .eql x3.1 (A.lit 3)) fun x7=>
 A.bind [.l .u8,.i,.i,.i,.i,.i,.i,.i,.i,.i,.i,.i,.i,.i,.l .iop] (A.cond x7.1 (A.cl aO aP (A.arith .add .i64 x0.2.1 (A.lit 1),x3.2.1,x3.2.2.1,()) fun x8=>
 A.bd .iop x0.q.2.2.1 x2.1<|
 A.bd .iop x0.q.2.2.1 x2.1<|
 A.l1 .i x8.1 fun x9=>
 A.ret _ (x8.2.1,x8.2.2.1,A.lit 0,A.lit 0,A.lit 0,A.lit 0,A.lit 0,A.lit 0,x0.1,x0.2.1,x0.2.2.1,x0.2.2.2.1,x0.q.1,x0.q.2.1,A.set .iop x0.q.2.2.1 x2.1 (A.mkX .iop (A.fI .iop 0 (A.get .iop x0.q.2.2.1 x2.1),A.fI .iop 1 (A.get .iop x0.q.2.2.1 x2.1),A.fI .iop 2 (A.get .iop x0.q.2.2.1 x2.1),A.fI .iop 3 (A.get .iop x0.q.2.2.1 x2.1),x9.1,())),()))<|
 A.l1 .b (A.cmp .eql x3.1 (A.lit 4)) fun x8=>
 A.bind [.l .u8,.i,.i,.i,.i,.i,.i,.i,.i,.i,.i,.i,.i,.i,.l .iop] (A.cond x8.1 (A.cl aO aP (A.lit 66,x3.2.1,x3.2.2.1,()) fun x9=>
 A.l1 .i x9.1 fun x10=>
 A.ret _ (x9.2.1,x9.2.2.1,A.lit 0,A.lit 0,A.lit 0,A.lit 0,A.lit 0,A.lit 0,x0.1,x0.2.1,x0.2.2.1,x0.2.2.2.1,x0.q.1,x10.1,x0.q.2.2.1,()))<|
 A.l1 .b (A.cmp .eql x3.1 (A.lit 5)) fun x9=>
 A.bind [.l .u8,.i,.i,.i,.i,.i,.i,.i,.i,.i,.i,.i,.i,.i,.l .iop] (A.cond x9.1 (A.cl aO aP (A.lit 4,x3.2.1,x3.2.2.1,()) fun x10=>
 A.l1 .i (A.arith .add .i64 (A.lit 1) x10.1) fun x11=>
 A.ret _ (x10.2.1,x10.2.2.1,A.lit 0,A.lit 0,A.lit 0,A.lit 0,A.lit 0,A.lit 0,x0.1,x0.2.1,x11.1,x0.2.2.2.1,x0.q.1,x0.q.2.1,x0.q.2.2.1,()))<|
 A.l1 .b (A.cmp .eql x3.1 (A.lit 6)) fun x10=>
 A.bind [.l .u8,.i,.i,.i,.i,.i,.i,.i,.i,.i,.i,.i,.i,.i,.l .iop] (A.cond x10.1 (A.bind [.l .u8,.i,.i,.i,.i,.i,.i,.i,.i,.i,.i,.i,.i,.i,.l .iop] (A.cond (A.cmp .gtr x2.1 (A.lit 0)) (A.bd .iop x0.q.2.2.1 x2.1<|
 A.bd .iop x0.q.2.2.1 x2.1<|
 A.l1 (.x .iop) (A.get .iop x0.q.2.2.1 x2.1) fun x11=>
 A.bd .iop x0.q.2.2.1 (A.arith .sub .i64 x2.1 (A.lit 1))<|
 A.bd .iop x0.q.2.2.1 (A.arith .sub .i64 x2.1 (A.lit 1))<|
 A.bd .iop x0.q.2.2.1 x2.1<|
 A.bd .iop x0.q.2.2.1 x2.1<|
 A.l1 (.x .iop) (A.get .iop x0.q.2.2.1 (A.arith .sub .i64 x2.1 (A.lit 1))) fun x12=>
 A.bd .iop (A.set .iop x0.q.2.2.1 x2.1 x12.1) (A.arith .sub .i64 x2.1 (A.lit 1))<|
 A.bd .iop (A.set .iop x0.q.2.2.1 x2.1 x12.1) (A.arith .sub .i64 x2.1 (A.lit 1))<|
 A.l1 (.x .iop) x11.1 fun x13=>
 A.ret _ (x3.2.1,x3.2.2.1,A.lit 0,A.lit 0,A.lit 0,A.lit 0,A.lit 0,A.lit 0,x0.1,x0.2.1,x0.2.2.1,x0.2.2.2.1,x0.q.1,x0.q.2.1,A.set .iop (A.set .iop x0.q.2.2.1 x2.1 x12.1) (A.arith .sub .i64 x2.1 (A.lit 1)) x13.1,()))<|
 A.ret _ (x3.2.1,x3.2.2.1,A.lit 0,A.lit 0,A.lit 0,A.lit 0,A.lit 0,A.lit 0,x0.1,x0.2.1,x0.2.2.1,x0.2.2.2.1,x0.q.1,x0.q.2.1,x0.q.2.2.1,())) fun x11=>
 A.ret _ (x11.1,x11.2.1,x11.2.2.1,x11.2.2.2.1,x11.q.1,x11.q.2.1,x11.q.2.2.1,x11.q.2.2.2.1,x11.o.1,x11.o.2.1,x11.o.2.2.1,x11.o.2.2.2.1,x11.o.q.1,x11.o.q.2.1,x11.o.q.2.2.1,()))<|
 A.l1 .b (A.cmp .eql x3.1 (A.lit 7)) fun x11=>
 A.bind [.l .u8,.i,.i,.i,.i,.i,.i,.i,.i,.i,.i,.i,.i,.i,.l .iop] (A.cond x11.1 (A.cl aO aP (A.lit 3,x3.2.1,x3.2.2.1,()) fun x12=>
 A.bd .iop x0.q.2.2.1 x2.1<|
 A.bd .iop x0.q.2.2.1 x2.1<|
 A.ret _ (x12.2.1,x12.2.2.1,A.lit 0,A.lit 0,A.lit 0,A.lit 0,A.lit 0,A.lit 0,x0.1,x0.2.1,x0.2.2.1,x0.2.2.2.1,x0.q.1,x0.q.2.1,A.set .iop x0.q.2.2.1 x2.1 (A.mkX .iop (A.lit 1,A.lit 0,A.lit 0,x12.1,A.lit 0,())),()))<|
 A.chk (A.cmp .leq (A.lit 0) (A.lit 0))<|
 A.chk (A.cmp .leq (A.lit 0) x2.1)<|
 A.chk (A.cmp .leq x2.1 (A.len .iop x0.q.2.2.1))<|
 A.chk (A.cmp .eql (A.lit 0) (A.lit 0))<|
 A.chk (A.cmp .leq (A.lit 0) (A.Ec x2.1 (A.lit 0)))<|
 A.chk (A.cmp .leq (A.Ec x2.1 (A.lit 0)) (A.len .iop x0.q.2.2.1))<|
 A.ret _ (x3.2.1,x3.2.2.1,A.lit 0,A.lit 0,A.lit 0,A.lit 0,A.lit 0,A.lit 0,x0.1,x0.2.1,x0.2.2.1,x0.2.2.2.1,x0.q.1,x0.q.2.1,A.sub .iop x0.q.2.2.1 (A.lit 0) (A.Ec x2.1 (A.lit 0)),())) fun x12=>
 A.ret _ (x12.1,x12.2.1,x12.2.2.1,x12.2.2.2.1,x12.q.1,x12.q.2.1,x12.q.2.2.1,x12.q.2.2.2.1,x12.o.1,x12.o.2.1,x12.o.2.2.1,x12.o.2.2.2.1,x12.o.q.1,x12.o.q.2.1,x12.o.q.2.2.1,())) fun x11=>
 A.ret _ (x11.1,x11.2.1,x11.2.2.1,x11.2.2.2.1,x11.q.1,x11.q.2.1,x11.q.2.2.1,x11.q.2.2.2.1,x11.o.1,x11.o.2.1,x11.o.2.2.1,x11.o.2.2.2.1,x11.o.q.1,x11.o.q.2.1,x11.o.q.2.2.1,())) fun x10=>
 A.ret _ (x10.1,x10.2.1,x10.2.2.1,x10.2.2.2.1,x10.q.1,x10.q.2.1,x10.q.2.2.1,x10.q.2.2.2.1,x10.o.1,x10.o.2.1,x10.o.2.2.1,x10.o.2.2.2.1,x10.o.q.1,x10.o.q.2.1,x10.o.q.2.2.1,())) fun x9=>
 A.ret _ (x9.1,x9.2.1,x9.2.2.1,x9.2.2.2.1,x9.q.1,x9.q.2.1,x9.q.2.2.1,x9.q.2.2.2.1,x9.o.1,x9.o.2.1,x9.o.2.2.1,x9.o.2.2.2.1,x9.o.q.1,x9.o.q.2.1,x9.o.q.2.2.1,())) fun x8=>
 A.ret _ (x8.1,x8.2.1,x8.2.2.1,x8.2.2.2.1,x8.q.1,x8.q.2.1,x8.q.2.2.1,x8.q.2.2.2.1,x8.o.1,x8.o.2.1,x8.o.2.2.1,x8.o.2.2.2.1,x8.o.q.1,x8.o.q.2.1,x8.o.q.2.2.1,())) fun x7=>
 A.ret _ (x7.1,x7.2.1,x7.2.2.1,x7.2.2.2.1,x7.q.1,x7.q.2.1,x7.q.2.2.1,x7.q.2.2.2.1,x7.o.1,x7.o.2.1,x7.o.2.2.1,x7.o.2.2.2.1,x7.o.q.1,x7.o.q.2.1,x7.o.q.2.2.1,())) fun x6=>
 A.ret _ (x6.1,x6.2.1,x6.2.2.1,x6.2.2.2.1,x6.q.1,x6.q.2.1,x6.q.2.2.1,x6.q.2.2.2.1,x6.o.1,x6.o.2.1,x6.o.2.2.1,x6.o.2.2.2.1,x6.o.q.1,x6.o.q.2.1,x6.o.q.2.2.1,())) fun x5=>
 A.ret _ (x5.o.1,x5.o.2.1,x5.o.2.2.1,x5.o.2.2.2.1,x5.o.q.1,x5.o.q.2.1,x5.1,x5.2.1,x5.o.q.2.2.1,())
def IJ (A:Alg) (SY:Pt A um) (S9:Ft A um) (aO:Pt A cu) (aP:Ft A cu) (ai3:Pt A Cx) (ai4:Ft A Cx) (ai5:Pt A Cn) (ai6:Ft A Cn) (x:Tup A.ah [.i,.l .u8,.i]):Ot A Cy:=
 A.cl ai5 ai6 (x.2.1,x.2.2.1,()) fun x0=>
 A.cl SY S9 (x.1,x0.q.2.2.1,x0.q.2.2.2.1,()) fun x1=>
 A.kJ [.l .u8,.i,.i,.i,.i,.i,.i,.i,.i,.i,.i,.i,.i,.i,.l .iop] (A.cond x1.1 (A.cl aO aP (A.lit 6,x1.2.1,x1.2.2.1,()) fun x2=>
 A.l1 .b (A.cmp .eql x2.1 (A.lit 0)) fun x3=>
 A.kJ [.l .u8,.i,.i,.i,.i,.i,.i,.i,.i,.i,.i,.i,.i,.i,.l .iop] (A.cond x3.1 (A.l1 (.l .i64) (A.lst .i64 [A.mkX .i64 (A.lit 0,()),A.mkX .i64 (A.lit 9,())]) fun x4=>
 A.cl aO aP (A.lit 2,x2.2.1,x2.2.2.1,()) fun x5=>
 A.bd .i64 x4.1 x5.1<|
 A.bd .i64 x4.1 x5.1<|
 A.l1 .i (A.fI .i64 0 (A.get .i64 x4.1 x5.1)) fun x6=>
 A.inl _ (x5.2.1,x5.2.2.1,A.lit 0,A.lit 0,A.lit 0,A.lit 0,A.lit 0,A.lit 0,x0.1,x6.1,x0.2.2.1,x0.2.2.2.1,x0.q.1,x0.q.2.1,x0.o.1,()))<|
 A.l1 .b (A.cmp .eql x2.1 (A.lit 1)) fun x4=>
 A.kJ [.l .u8,.i,.i,.i,.i,.i,.i,.i,.i,.i,.i,.i,.i,.i,.l .iop] (A.cond x4.1 (A.l1 (.l .i64) (A.lst .i64 [A.mkX .i64 (A.lit (-1),()),A.mkX .i64 (A.lit 64,())]) fun x5=>
 A.cl aO aP (A.lit 2,x2.2.1,x2.2.2.1,()) fun x6=>
 A.bd .i64 x5.1 x6.1<|
 A.bd .i64 x5.1 x6.1<|
 A.l1 .i (A.fI .i64 0 (A.get .i64 x5.1 x6.1)) fun x7=>
 A.inl _ (x6.2.1,x6.2.2.1,A.lit 0,A.lit 0,A.lit 0,A.lit 0,A.lit 0,A.lit 0,x7.1,x0.2.1,x0.2.2.1,x0.2.2.2.1,x0.q.1,x0.q.2.1,x0.o.1,()))<|
 A.l1 .b (A.cmp .eql x2.1 (A.lit 2)) fun x5=>
 A.kJ [.l .u8,.i,.i,.i,.i,.i,.i,.i,.i,.i,.i,.i,.i,.i,.l .iop] (A.cond x5.1 (A.iter [.l .u8,.i,.i,.i,.i,.i,.i,.i,.i,.i,.i,.i,.i,.i,.l .iop] (fun x6=>
 A.cond (A.cmp .leq (A.len .iop x6.o.q.2.2.1) (A.lit 48)) (A.l1 (.l .iop) (A.lst .iop [A.mkX .iop (A.lit 1,A.lit 0,A.lit 0,A.lit 0,A.lit 0,())]) fun x7=>
 A.chk (A.cmp .leq (A.addN (A.len .iop x6.o.q.2.2.1) (A.len .iop x7.1)) (A.lit 1073741824))<|
 A.l1 (.l .iop) (A.app .iop x6.o.q.2.2.1 x7.1) fun x8=>
 A.inl _ (x6.1,x6.2.1,x6.2.2.1,x6.2.2.2.1,x6.q.1,x6.q.2.1,x6.q.2.2.1,x6.q.2.2.2.1,x6.o.1,x6.o.2.1,x6.o.2.2.1,x6.o.2.2.2.1,x6.o.q.1,x6.o.q.2.1,x8.1,()))<|
 A.inr _<|A.inl _ (x6.1,x6.2.1,x6.2.2.1,x6.2.2.2.1,x6.q.1,x6.q.2.1,x6.q.2.2.1,x6.q.2.2.2.1,x6.o.1,x6.o.2.1,x6.o.2.2.1,x6.o.2.2.2.1,x6.o.q.1,x6.o.q.2.1,x6.o.q.2.2.1,())) (x2.2.1,x2.2.2.1,A.lit 0,A.lit 0,A.lit 0,A.lit 0,A.lit 0,A.lit 0,x0.1,x0.2.1,x0.2.2.1,x0.2.2.2.1,x0.q.1,x0.q.2.1,x0.o.1,()))<|
 A.l1 .b (A.cmp .eql x2.1 (A.lit 3)) fun x6=>
 A.kJ [.l .u8,.i,.i,.i,.i,.i,.i,.i,.i,.i,.i,.i,.i,.i,.l .iop] (A.cond x6.1 (A.l1 (.l .i64) (A.lst .i64 [A.mkX .i64 (A.lit 0,()),A.mkX .i64 (A.lit 5,())]) fun x7=>
 A.cl aO aP (A.lit 2,x2.2.1,x2.2.2.1,()) fun x8=>
 A.bd .i64 x7.1 x8.1<|
 A.bd .i64 x7.1 x8.1<|
 A.l1 .i (A.fI .i64 0 (A.get .i64 x7.1 x8.1)) fun x9=>
 A.inl _ (x8.2.1,x8.2.2.1,A.lit 0,A.lit 0,A.lit 0,A.lit 0,A.lit 0,A.lit 0,x0.1,x0.2.1,x9.1,x0.2.2.2.1,x0.q.1,x0.q.2.1,x0.o.1,()))<|
 A.l1 .b (A.cmp .eql x2.1 (A.lit 4)) fun x7=>
 A.cond x7.1 (A.cl aO aP (A.lit 3,x2.2.1,x2.2.2.1,()) fun x8=>
 A.bd .i64 (A.lst .i64 [A.mkX .i64 (A.lit 0,()),A.mkX .i64 (A.lit 9,()),A.mkX .i64 (A.lit 8,())]) x8.1<|
 A.chk (A.cmp .leq (A.addN (A.len .iop x0.o.1) (A.len .iop (A.lst .iop [A.mkX .iop (A.fI .i64 0 (A.get .i64 (A.lst .i64 [A.mkX .i64 (A.lit 0,()),A.mkX .i64 (A.lit 9,()),A.mkX .i64 (A.lit 8,())]) x8.1),A.len .iop x0.o.1,A.lit 0,A.lit 0,A.lit 0,())]))) (A.lit 1073741824))<|
 A.l1 (.l .iop) (A.app .iop x0.o.1 (A.lst .iop [A.mkX .iop (A.fI .i64 0 (A.get .i64 (A.lst .i64 [A.mkX .i64 (A.lit 0,()),A.mkX .i64 (A.lit 9,()),A.mkX .i64 (A.lit 8,())]) x8.1),A.len .iop x0.o.1,A.lit 0,A.lit 0,A.lit 0,())])) fun x9=>
 A.inl _ (x8.2.1,x8.2.2.1,A.lit 0,A.lit 0,A.lit 0,A.lit 0,A.lit 0,A.lit 0,x0.1,x0.2.1,x0.2.2.1,x0.2.2.2.1,x0.q.1,x0.q.2.1,x9.1,()))<|
 A.cl ai3 ai4 (A.mkX .blk (x0.1,x0.2.1,x0.o.1,x0.2.2.1,x0.2.2.2.1,x0.q.1,x0.q.2.1,()),x2.2.1,x2.2.2.1,()) fun x8=>
 A.inr _<|A.inr _<|A.inr _<|A.inr _<|A.inr _<|A.ret _ (A.mkX .blk (x8.1,x8.2.1,x8.o.1,x8.2.2.1,x8.2.2.2.1,x8.q.1,x8.q.2.1,()),x8.q.2.2.1,x8.q.2.2.2.1,())) fun x7=>
 A.inl _ (x7.1,x7.2.1,x7.2.2.1,x7.2.2.2.1,x7.q.1,x7.q.2.1,x7.q.2.2.1,x7.q.2.2.2.1,x7.o.1,x7.o.2.1,x7.o.2.2.1,x7.o.2.2.2.1,x7.o.q.1,x7.o.q.2.1,x7.o.q.2.2.1,())) fun x6=>
 A.inl _ (x6.1,x6.2.1,x6.2.2.1,x6.2.2.2.1,x6.q.1,x6.q.2.1,x6.q.2.2.1,x6.q.2.2.2.1,x6.o.1,x6.o.2.1,x6.o.2.2.1,x6.o.2.2.2.1,x6.o.q.1,x6.o.q.2.1,x6.o.q.2.2.1,())) fun x5=>
 A.inl _ (x5.1,x5.2.1,x5.2.2.1,x5.2.2.2.1,x5.q.1,x5.q.2.1,x5.q.2.2.1,x5.q.2.2.2.1,x5.o.1,x5.o.2.1,x5.o.2.2.1,x5.o.2.2.2.1,x5.o.q.1,x5.o.q.2.1,x5.o.q.2.2.1,())) fun x4=>
 A.inl _ (x4.1,x4.2.1,x4.2.2.1,x4.2.2.2.1,x4.q.1,x4.q.2.1,x4.q.2.2.1,x4.q.2.2.2.1,x4.o.1,x4.o.2.1,x4.o.2.2.1,x4.o.2.2.2.1,x4.o.q.1,x4.o.q.2.1,x4.o.q.2.2.1,()))<|
 A.inl _ (x1.2.1,x1.2.2.1,A.lit 0,A.lit 0,A.lit 0,A.lit 0,A.lit 0,A.lit 0,x0.1,x0.2.1,x0.2.2.1,x0.2.2.2.1,x0.q.1,x0.q.2.1,x0.o.1,())) fun x2=>
 A.ret _ (A.mkX .blk (x2.o.1,x2.o.2.1,x2.o.q.2.2.1,x2.o.2.2.1,x2.o.2.2.2.1,x2.o.q.1,x2.o.q.2.1,()),x2.1,x2.2.1,())
def PZ (A:Alg) (gu:Pt A dB) (gy:Ft A dB) (x:Tup A.ah [.i]):Ot A Ag:=
 A.l1 .b (A.bl false) fun x0=>
 A.cl gu gy (x.1,A.lit 1,A.lit 5,()) fun x1=>
 A.l1 .b x1.1 fun x2=>
 A.ret _ (x2.1,())
def P5 (A:Alg) (gu:Pt A dB) (gy:Ft A dB) (x:Tup A.ah [.i]):Ot A Ah:=
 A.l1 .b (A.bl false) fun x0=>
 A.cl gu gy (x.1,A.lit 0,A.lit 3,()) fun x1=>
 A.l1 .b x1.1 fun x2=>
 A.ret _ (x2.1,())
def P6 (A:Alg) (gu:Pt A dB) (gy:Ft A dB) (Zd:Pt A Ag) (Ze:Ft A Ag) (Vu:Pt A Ad) (Vv:Ft A Ad) (mO:Pt A jl) (mP:Ft A jl) (Vw:Pt A Ah) (Vx:Ft A Ah) (x:Tup A.ah [.x .atom,.i]):Ot A Ai:=
 A.l1 .b (A.bl false) fun x0=>
 A.cond (A.cmp .eql (A.fI .atom 0 x.1) (A.lit 4)) (A.cl Zd Ze (A.fI .atom 1 x.1,()) fun x1=>
 A.chk (A.orB (A.au x1.1) (mO (A.mkX .poly (A.fL .atom 2 .mono x.1,()),())))<|
 A.bL _ (mP (A.mkX .poly (A.fL .atom 2 .mono x.1,()),())) fun x2=>
 A.chk (A.orB (A.au (A.ay x1.1 x2.1 (A.bl false))) (mO (A.mkX .poly (A.fL .atom 3 .mono x.1,()),())))<|
 A.bL _ (mP (A.mkX .poly (A.fL .atom 3 .mono x.1,()),())) fun x3=>
 A.chk (A.orB (A.au (A.ay (A.ay x1.1 x2.1 (A.bl false)) x3.1 (A.bl false))) (Vu (A.mkX .poly (A.fL .atom 2 .mono x.1,()),x.2.1,())))<|
 A.bL _ (Vv (A.mkX .poly (A.fL .atom 2 .mono x.1,()),x.2.1,())) fun x4=>
 A.chk (A.orB (A.au (A.ay (A.ay (A.ay x1.1 x2.1 (A.bl false)) x3.1 (A.bl false)) x4.1 (A.bl false))) (Vu (A.mkX .poly (A.fL .atom 3 .mono x.1,()),x.2.1,())))<|
 A.bL _ (Vv (A.mkX .poly (A.fL .atom 3 .mono x.1,()),x.2.1,())) fun x5=>
 A.l1 .b (A.ay (A.ay (A.ay (A.ay x1.1 x2.1 (A.bl false)) x3.1 (A.bl false)) x4.1 (A.bl false)) x5.1 (A.bl false)) fun x6=>
 A.ret _ (x6.1,()))<|
 A.cond (A.cmp .gtr (A.arith .add .i64 (A.len .mono (A.fL .atom 2 .mono x.1)) (A.len .mono (A.fL .atom 3 .mono x.1))) (A.lit 0)) (A.l1 .b (A.bl false) fun x1=>
 A.ret _ (x1.1,()))<|
 A.chk (A.orB (A.au (A.cmp .eql (A.fI .atom 0 x.1) (A.lit 1))) (Vw (A.fI .atom 1 x.1,())))<|
 A.bL _ (Vx (A.fI .atom 1 x.1,())) fun x1=>
 A.chk (A.orB (A.au (A.jI (A.au (A.ay (A.cmp .eql (A.fI .atom 0 x.1) (A.lit 1)) x1.1 (A.bl false))) (A.ay (A.cmp .eql (A.fI .atom 0 x.1) (A.lit 2)) (A.bl true) (A.cmp .eql (A.fI .atom 0 x.1) (A.lit 3))))) (gu (A.fI .atom 1 x.1,A.lit 0,A.lit 199,())))<|
 A.bL _ (gy (A.fI .atom 1 x.1,A.lit 0,A.lit 199,())) fun x2=>
 A.l1 .b (A.ay (A.ay (A.cmp .eql (A.fI .atom 0 x.1) (A.lit 1)) x1.1 (A.bl false)) (A.bl true) (A.ay (A.ay (A.cmp .eql (A.fI .atom 0 x.1) (A.lit 2)) (A.bl true) (A.cmp .eql (A.fI .atom 0 x.1) (A.lit 3))) x2.1 (A.bl false))) fun x3=>
 A.ret _ (x3.1,())
def P7 (A:Alg) (DX:Pt A vM) (DY:Ft A vM) (x:Tup A.ah [.x .atom,.x .atom]):Ot A Kh:=
 A.l1 .b (A.bl false) fun x0=>
 A.chk (A.orB (A.au (A.ay (A.cmp .eql (A.fI .atom 0 x.1) (A.fI .atom 0 x.2.1)) (A.cmp .eql (A.fI .atom 1 x.1) (A.fI .atom 1 x.2.1)) (A.bl false))) (DX (A.mkX .poly (A.fL .atom 2 .mono x.1,()),A.mkX .poly (A.fL .atom 2 .mono x.2.1,()),())))<|
 A.bL _ (DY (A.mkX .poly (A.fL .atom 2 .mono x.1,()),A.mkX .poly (A.fL .atom 2 .mono x.2.1,()),())) fun x1=>
 A.chk (A.orB (A.au (A.ay (A.ay (A.cmp .eql (A.fI .atom 0 x.1) (A.fI .atom 0 x.2.1)) (A.cmp .eql (A.fI .atom 1 x.1) (A.fI .atom 1 x.2.1)) (A.bl false)) x1.1 (A.bl false))) (DX (A.mkX .poly (A.fL .atom 3 .mono x.1,()),A.mkX .poly (A.fL .atom 3 .mono x.2.1,()),())))<|
 A.bL _ (DY (A.mkX .poly (A.fL .atom 3 .mono x.1,()),A.mkX .poly (A.fL .atom 3 .mono x.2.1,()),())) fun x2=>
 A.l1 .b (A.ay (A.ay (A.ay (A.cmp .eql (A.fI .atom 0 x.1) (A.fI .atom 0 x.2.1)) (A.cmp .eql (A.fI .atom 1 x.1) (A.fI .atom 1 x.2.1)) (A.bl false)) x1.1 (A.bl false)) x2.1 (A.bl false)) fun x3=>
 A.ret _ (x3.1,())
def P8 (A:Alg) (ana:Pt A Kh) (anb:Ft A Kh) (x:Tup A.ah [.x .atom,.x .atom]):Ot A Ki:=
 A.l1 .b (A.bl false) fun x0=>
 A.cl ana anb (x.2.1,x.1,()) fun x1=>
 A.l1 .b x1.1 fun x2=>
 A.ret _ (x2.1,x.2.1,())
def IK (A:Alg) (ane:Pt A Ki) (anf:Ft A Ki) (x:Tup A.ah [.l .atom,.x .atom]):Ot A Cz:=
 A.l1 .i (A.lit 0) fun x0=>
 A.iter [.l .atom,.i,.i,.x .atom] (fun x1=>
 A.cond (A.cmp .lss x1.2.2.1 x1.2.1) (A.l1 .i x1.2.2.1 fun x2=>
 A.bd .atom x1.1 x2.1<|
 A.cl ane anf (A.get .atom x1.1 x2.1,x1.2.2.2.1,()) fun x3=>
 A.cond x3.1 (A.l1 .i x2.1 fun x4=>
 A.inr _<|A.ret _ (x4.1,x3.2.1,()))<|
 A.inl _ (x1.1,x1.2.1,A.arith .add .i64 x1.2.2.1 (A.lit 1),x3.2.1,()))<|
 A.inr _<|A.l1 .i (A.lit (-1)) fun x2=>
 A.ret _ (x2.1,x1.2.2.2.1,())) (x.1,A.len .atom x.1,A.lit 0,x.2.1,())
def P9 (A:Alg) (ai7:Pt A Cz) (ai8:Ft A Cz) (x:Tup A.ah [.x .tab,.x .atom]):Ot A Aj:=
 A.l1 .i (A.lit 0) fun x0=>
 A.cl ai7 ai8 (A.fL .tab 0 .atom x.1,x.2.1,()) fun x1=>
 A.l1 .i x1.1 fun x2=>
 A.ret _ (x2.1,())
def Qa (A:Alg) (Zf:Pt A Ai) (Zg:Ft A Ai) (Zh:Pt A Aj) (Zi:Ft A Aj) (x:Tup A.ah [.x .tab]):Ot A Ak:=
 A.l1 .b (A.bl false) fun x0=>
 A.iter [.l .atom,.i,.i,.x .tab] (fun x1=>
 A.cond (A.cmp .lss x1.2.2.1 x1.2.1) (A.bd .atom x1.1 x1.2.2.1<|
 A.l1 .i x1.2.2.1 fun x2=>
 A.l1 (.x .atom) (A.get .atom x1.1 x1.2.2.1) fun x3=>
 A.cl Zf Zg (x3.1,x2.1,()) fun x4=>
 A.chk (A.orB (A.au (A.au (A.au x4.1))) (Zh (x1.2.2.2.1,x3.1,())))<|
 A.bL _ (Zi (x1.2.2.2.1,x3.1,())) fun x5=>
 A.cond (A.ay (A.au x4.1) (A.bl true) (A.cmp .neq x5.1 x2.1)) (A.l1 .b (A.bl false) fun x6=>
 A.inr _<|A.ret _ (x6.1,()))<|
 A.inl _ (x1.1,x1.2.1,A.arith .add .i64 x1.2.2.1 (A.lit 1),x1.2.2.2.1,()))<|
 A.inr _<|A.l1 .b (A.cmp .leq (A.len .atom (A.fL .tab 0 .atom x1.2.2.2.1)) (A.lit 200)) fun x2=>
 A.ret _ (x2.1,())) (A.fL .tab 0 .atom x.1,A.len .atom (A.fL .tab 0 .atom x.1),A.lit 0,x.1,())
def Qb (A:Alg) (gu:Pt A dB) (gy:Ft A dB) (x:Tup A.ah [.x .iop]):Ot A Al:=
 A.l1 .b (A.bl false) fun x0=>
 A.l1 .b (A.bl false) fun x1=>
 A.l1 .b (A.bl false) fun x2=>
 A.l1 .b (A.bl false) fun x3=>
 A.l1 .b (A.ay (A.ay (A.cmp .neq (A.fI .iop 0 x.1) (A.lit 1)) (A.cmp .neq (A.fI .iop 0 x.1) (A.lit 2)) (A.bl false)) (A.cmp .neq (A.fI .iop 0 x.1) (A.lit 6)) (A.bl false)) fun x4=>
 A.l1 .b (A.ay (A.cmp .eql (A.fI .iop 0 x.1) (A.lit 3)) (A.bl true) (A.cmp .eql (A.fI .iop 0 x.1) (A.lit 5))) fun x5=>
 A.l1 .b (A.ay (A.ay (A.ay (A.cmp .eql (A.fI .iop 0 x.1) (A.lit 1)) (A.bl true) (A.cmp .eql (A.fI .iop 0 x.1) (A.lit 2))) (A.bl true) (A.cmp .eql (A.fI .iop 0 x.1) (A.lit 3))) (A.bl true) (A.cmp .eql (A.fI .iop 0 x.1) (A.lit 8))) fun x6=>
 A.cl gu gy (A.fI .iop 0 x.1,A.lit 4,A.lit 7,()) fun x7=>
 A.l1 .b x7.1 fun x8=>
 A.l1 .b x4.1 fun x9=>
 A.l1 .b x5.1 fun x10=>
 A.l1 .b x6.1 fun x11=>
 A.l1 .b x8.1 fun x12=>
 A.ret _ (x9.1,x10.1,x11.1,x12.1,())
def Qc (A:Alg) (gu:Pt A dB) (gy:Ft A dB) (x:Tup A.ah [.x .iop]):Ot A Kj:=
 A.l1 .b (A.bl false) fun x0=>
 A.cl gu gy (A.fI .iop 0 x.1,A.lit 1,A.lit 4,()) fun x1=>
 A.l1 .b (A.ay x1.1 (A.bl true) (A.cmp .eql (A.fI .iop 0 x.1) (A.lit 6))) fun x2=>
 A.ret _ (x2.1,())
def Qd (A:Alg) (ang:Pt A Kj) (anh:Ft A Kj) (gu:Pt A dB) (gy:Ft A dB) (x:Tup A.ah [.x .blk,.i,.i]):Ot A Am:=
 A.l1 .b (A.bl false) fun x0=>
 A.cl gu gy (x.2.1,A.lit 0,A.arith .sub .i64 x.2.2.1 (A.lit 1),()) fun x1=>
 A.chk (A.orB (A.au x1.1) (A.cmp .leq (A.lit 0) x.2.1))<|
 A.chk (A.orB (A.au x1.1) (A.cmp .lss x.2.1 (A.len .iop (A.fL .blk 2 .iop x.1))))<|
 A.chk (A.orB (A.au x1.1) (ang (A.get .iop (A.fL .blk 2 .iop x.1) x.2.1,())))<|
 A.bL _ (anh (A.get .iop (A.fL .blk 2 .iop x.1) x.2.1,())) fun x2=>
 A.l1 .b (A.ay x1.1 x2.1 (A.bl false)) fun x3=>
 A.ret _ (x3.1,())
def Qe (A:Alg) (Qf:Pt A Am) (Qg:Ft A Am) (Zj:Pt A Al) (Zk:Ft A Al) (sV:Pt A jJ) (sW:Ft A jJ) (gu:Pt A dB) (gy:Ft A dB) (Zd:Pt A Ag) (Ze:Ft A Ag) (Vw:Pt A Ah) (Vx:Ft A Ah) (x:Tup A.ah [.x .blk,.i]):Ot A Kk:=
 A.l1 .b (A.bl false) fun x0=>
 A.bd .iop (A.fL .blk 2 .iop x.1) x.2.1<|
 A.l1 (.x .iop) (A.get .iop (A.fL .blk 2 .iop x.1) x.2.1) fun x1=>
 A.cl gu gy (A.fI .iop 0 x1.1,A.lit 1,A.lit 8,()) fun x2=>
 A.cond (A.au x2.1) (A.l1 .b (A.bl false) fun x3=>
 A.ret _ (x3.1,()))<|
 A.cl Zj Zk (x1.1,()) fun x3=>
 A.l1 .b x3.1 fun x4=>
 A.l1 .b x3.2.1 fun x5=>
 A.l1 .b x3.2.2.1 fun x6=>
 A.l1 .b x3.2.2.2.1 fun x7=>
 A.cl sV sW (A.fI .iop 3 x1.1,()) fun x8=>
 A.cl Vw Vx (A.fI .iop 3 x1.1,()) fun x9=>
 A.cl Zd Ze (A.fI .iop 3 x1.1,()) fun x10=>
 A.cl Vw Vx (A.fI .iop 3 x1.1,()) fun x11=>
 A.l1 .b (A.ay (A.cmp .eql (A.fI .iop 0 x1.1) (A.lit 1)) x8.1 (A.ay (A.cmp .eql (A.fI .iop 0 x1.1) (A.lit 2)) x9.1 (A.ay (A.cmp .eql (A.fI .iop 0 x1.1) (A.lit 3)) x10.1 (A.ay (A.cmp .eql (A.fI .iop 0 x1.1) (A.lit 8)) x11.1 (A.bl false))))) fun x12=>
 A.chk (A.orB (A.au x4.1) (Qf (x.1,A.fI .iop 1 x1.1,x.2.1,())))<|
 A.bL _ (Qg (x.1,A.fI .iop 1 x1.1,x.2.1,())) fun x13=>
 A.chk (A.orB (A.au (A.jI (A.ay (A.ay x4.1 x13.1 (A.bl false)) (A.bl true) (A.ay (A.au x4.1) (A.cmp .eql (A.fI .iop 1 x1.1) (A.lit 0)) (A.bl false))) x5.1)) (Qf (x.1,A.fI .iop 2 x1.1,x.2.1,())))<|
 A.bL _ (Qg (x.1,A.fI .iop 2 x1.1,x.2.1,())) fun x14=>
 A.chk (A.orB (A.au (A.jI (A.ay (A.ay (A.ay (A.ay x4.1 x13.1 (A.bl false)) (A.bl true) (A.ay (A.au x4.1) (A.cmp .eql (A.fI .iop 1 x1.1) (A.lit 0)) (A.bl false))) (A.ay (A.ay x5.1 x14.1 (A.bl false)) (A.bl true) (A.ay (A.au x5.1) (A.cmp .eql (A.fI .iop 2 x1.1) (A.lit 0)) (A.bl false))) (A.bl false)) (A.ay (A.ay x6.1 x12.1 (A.bl false)) (A.bl true) (A.ay (A.au x6.1) (A.cmp .eql (A.fI .iop 3 x1.1) (A.lit 0)) (A.bl false))) (A.bl false)) x7.1)) (gu (A.fI .iop 4 x1.1,A.lit 0,A.arith .sub .i64 (A.fI .blk 1 x.1) (A.lit 1),())))<|
 A.bL _ (gy (A.fI .iop 4 x1.1,A.lit 0,A.arith .sub .i64 (A.fI .blk 1 x.1) (A.lit 1),())) fun x15=>
 A.l1 .b (A.ay (A.ay (A.ay (A.ay (A.ay x4.1 x13.1 (A.bl false)) (A.bl true) (A.ay (A.au x4.1) (A.cmp .eql (A.fI .iop 1 x1.1) (A.lit 0)) (A.bl false))) (A.ay (A.ay x5.1 x14.1 (A.bl false)) (A.bl true) (A.ay (A.au x5.1) (A.cmp .eql (A.fI .iop 2 x1.1) (A.lit 0)) (A.bl false))) (A.bl false)) (A.ay (A.ay x6.1 x12.1 (A.bl false)) (A.bl true) (A.ay (A.au x6.1) (A.cmp .eql (A.fI .iop 3 x1.1) (A.lit 0)) (A.bl false))) (A.bl false)) (A.ay (A.ay x7.1 x15.1 (A.bl false)) (A.bl true) (A.ay (A.au x7.1) (A.cmp .eql (A.fI .iop 4 x1.1) (A.lit 0)) (A.bl false))) (A.bl false)) fun x16=>
 A.ret _ (x16.1,())
def Qh (A:Alg) (x:Tup A.ah [.x .blk]):Ot A Ao:=
 A.l1 .b (A.bl false) fun x0=>
 A.l1 .b (A.bl false) fun x1=>
 A.l1 .b (A.bl false) fun x2=>
 A.l1 .b (A.cmp .neq (A.fI .blk 3 x.1) (A.lit 1)) fun x3=>
 A.l1 .b (A.cmp .geq (A.fI .blk 3 x.1) (A.lit 3)) fun x4=>
 A.l1 .b (A.cmp .neq (A.fI .blk 3 x.1) (A.lit 2)) fun x5=>
 A.ret _ (x3.1,x4.1,x5.1,())
def Qi (A:Alg) (Zl:Pt A Ao) (Zm:Ft A Ao) (Qf:Pt A Am) (Qg:Ft A Am) (sV:Pt A jJ) (sW:Ft A jJ) (gu:Pt A dB) (gy:Ft A dB) (x:Tup A.ah [.x .blk]):Ot A Kl:=
 A.l1 .b (A.bl false) fun x0=>
 A.cl Zl Zm (x.1,()) fun x1=>
 A.l1 .b x1.1 fun x2=>
 A.l1 .b x1.2.1 fun x3=>
 A.l1 .b x1.2.2.1 fun x4=>
 A.cl gu gy (A.fI .blk 3 x.1,A.lit 1,A.lit 4,()) fun x5=>
 A.chk (A.orB (A.au (A.jI x5.1 x2.1)) (Qf (x.1,A.fI .blk 4 x.1,A.len .iop (A.fL .blk 2 .iop x.1),())))<|
 A.bL _ (Qg (x.1,A.fI .blk 4 x.1,A.len .iop (A.fL .blk 2 .iop x.1),())) fun x6=>
 A.chk (A.orB (A.au (A.jI (A.ay x5.1 (A.ay (A.ay x2.1 x6.1 (A.bl false)) (A.bl true) (A.ay (A.au x2.1) (A.cmp .eql (A.fI .blk 4 x.1) (A.lit 0)) (A.bl false))) (A.bl false)) x3.1)) (Qf (x.1,A.fI .blk 5 x.1,A.len .iop (A.fL .blk 2 .iop x.1),())))<|
 A.bL _ (Qg (x.1,A.fI .blk 5 x.1,A.len .iop (A.fL .blk 2 .iop x.1),())) fun x7=>
 A.chk (A.orB (A.au (A.jI (A.ay (A.ay x5.1 (A.ay (A.ay x2.1 x6.1 (A.bl false)) (A.bl true) (A.ay (A.au x2.1) (A.cmp .eql (A.fI .blk 4 x.1) (A.lit 0)) (A.bl false))) (A.bl false)) (A.ay (A.ay x3.1 x7.1 (A.bl false)) (A.bl true) (A.ay (A.au x3.1) (A.cmp .eql (A.fI .blk 5 x.1) (A.lit 0)) (A.bl false))) (A.bl false)) x4.1)) (sV (A.fI .blk 6 x.1,())))<|
 A.bL _ (sW (A.fI .blk 6 x.1,())) fun x8=>
 A.l1 .b (A.ay (A.ay (A.ay x5.1 (A.ay (A.ay x2.1 x6.1 (A.bl false)) (A.bl true) (A.ay (A.au x2.1) (A.cmp .eql (A.fI .blk 4 x.1) (A.lit 0)) (A.bl false))) (A.bl false)) (A.ay (A.ay x3.1 x7.1 (A.bl false)) (A.bl true) (A.ay (A.au x3.1) (A.cmp .eql (A.fI .blk 5 x.1) (A.lit 0)) (A.bl false))) (A.bl false)) (A.ay (A.ay x4.1 x8.1 (A.bl false)) (A.bl true) (A.ay (A.au x4.1) (A.cmp .eql (A.fI .blk 6 x.1) (A.lit 0)) (A.bl false))) (A.bl false)) fun x9=>
 A.ret _ (x9.1,())
def Qj (A:Alg) (ani:Pt A Kl) (anj:Ft A Kl) (ank:Pt A Kk) (anl:Ft A Kk) (gu:Pt A dB) (gy:Ft A dB) (x:Tup A.ah [.x .blk]):Ot A Km:=
 A.l1 .b (A.bl false) fun x0=>
 A.cl gu gy (A.fI .blk 1 x.1,A.lit 1,A.lit 8,()) fun x1=>
 A.chk (A.orB (A.au (A.au (A.au x1.1))) (gu (A.fI .blk 0 x.1,A.lit 0,A.arith .sub .i64 (A.lit 64) (A.fI .blk 1 x.1),())))<|
 A.bL _ (gy (A.fI .blk 0 x.1,A.lit 0,A.arith .sub .i64 (A.lit 64) (A.fI .blk 1 x.1),())) fun x2=>
 A.cond (A.ay (A.ay (A.au x1.1) (A.bl true) (A.au x2.1)) (A.bl true) (A.cmp .gtr (A.len .iop (A.fL .blk 2 .iop x.1)) (A.lit 48))) (A.l1 .b (A.bl false) fun x3=>
 A.ret _ (x3.1,()))<|
 A.iter [.i,.i,.x .blk] (fun x3=>
 A.cond (A.cmp .lss x3.2.1 x3.1) (A.l1 .i x3.2.1 fun x4=>
 A.cl ank anl (x3.2.2.1,x4.1,()) fun x5=>
 A.cond (A.au x5.1) (A.l1 .b (A.bl false) fun x6=>
 A.inr _<|A.ret _ (x6.1,()))<|
 A.inl _ (x3.1,A.arith .add .i64 x3.2.1 (A.lit 1),x3.2.2.1,()))<|
 A.inr _<|A.cl ani anj (x3.2.2.1,()) fun x4=>
 A.l1 .b x4.1 fun x5=>
 A.ret _ (x5.1,())) (A.len .iop (A.fL .blk 2 .iop x.1),A.lit 0,x.1,())
def Qk (A:Alg) (x:Tup A.ah [.l .atom]):Ot A Kn:=
 A.chk (A.cmp .leq (A.lit 0) (A.lit 0))<|
 A.chk (A.cmp .leq (A.lit 0) (A.len .atom x.1))<|
 A.chk (A.cmp .leq (A.len .atom x.1) (A.len .atom x.1))<|
 A.chk (A.cmp .eql (A.len .atom x.1) (A.len .atom x.1))<|
 A.ret _ (A.sub .atom x.1 (A.lit 0) (A.len .atom x.1),())
def Ql (A:Alg) (Zf:Pt A Ai) (Zg:Ft A Ai) (Zh:Pt A Aj) (Zi:Ft A Aj) (anm:Pt A Kn) (ano:Ft A Kn) (x:Tup A.ah [.x .tab,.x .atom]):Ot A Ap:=
 A.l1 .i (A.lit 0) fun x0=>
 A.cl Zh Zi (x.1,x.2.1,()) fun x1=>
 A.l1 .i x1.1 fun x2=>
 A.cond (A.cmp .geq x2.1 (A.lit 0)) (A.l1 (.x .tab) x.1 fun x3=>
 A.l1 .i x2.1 fun x4=>
 A.ret _ (x3.1,x4.1,()))<|
 A.cl Zf Zg (x.2.1,A.len .atom (A.fL .tab 0 .atom x.1),()) fun x3=>
 A.cond (A.ay (A.au x3.1) (A.bl true) (A.cmp .eql (A.len .atom (A.fL .tab 0 .atom x.1)) (A.lit 200))) (A.l1 (.x .tab) x.1 fun x4=>
 A.l1 .i (A.lit (-1)) fun x5=>
 A.ret _ (x4.1,x5.1,()))<|
 A.cl anm ano (A.fL .tab 0 .atom x.1,()) fun x4=>
 A.chk (A.orB (A.cmp .lss (A.lit 0) (A.len .atom (A.lst .atom [x.2.1]))) (A.cmp .eql (A.len .atom x4.1) (A.lit 0)))<|
 A.chk (A.cmp .leq (A.addN (A.len .atom x4.1) (A.len .atom (A.lst .atom [x.2.1]))) (A.lit 1073741824))<|
 A.l1 (.l .atom) (A.app .atom x4.1 (A.lst .atom [x.2.1])) fun x5=>
 A.l1 .i (A.len .atom (A.fL .tab 0 .atom x.1)) fun x6=>
 A.ret _ (A.mkX .tab (x5.1,()),x6.1,())
def Qm (A:Alg) (gu:Pt A dB) (gy:Ft A dB) (x:Tup A.ah [.i]):Ot A Aq:=
 A.cl gu gy (x.1,A.lit 0,A.lit 199,()) fun x0=>
 A.cond (A.au x0.1) (A.ret _ (A.bC .mono,()))<|
 A.l1 (.l .i64) (A.lst .i64 [A.mkX .i64 (x.1,())]) fun x1=>
 A.l1 (.l .mono) (A.lst .mono [A.mkX .mono (A.lit 1,x1.1,())]) fun x2=>
 A.ret _ (x2.1,())
def Qn (A:Alg) (Zn:Pt A Aq) (Zo:Ft A Aq) (Zp:Pt A Ap) (Zq:Ft A Ap) (x:Tup A.ah [.i,.i,.l .atom,.b]):Ot A Ar:=
 A.cl Zp Zq (A.mkX .tab (x.2.2.1,()),A.mkX .atom (x.1,x.2.1,A.bC .mono,A.bC .mono,()),()) fun x0=>
 A.l1 (.x .tab) x0.1 fun x1=>
 A.l1 .i x0.2.1 fun x2=>
 A.cond (A.cmp .lss x2.1 (A.lit 0)) (A.l1 .b (A.bl true) fun x3=>
 A.ret _ (A.mkX .poly (A.bC .mono,()),x.2.2.1,x3.1,()))<|
 A.l1 (.x .tab) x1.1 fun x3=>
 A.cl Zn Zo (x2.1,()) fun x4=>
 A.ret _ (A.mkX .poly (x4.1,()),A.fL .tab 0 .atom x3.1,x.2.2.2.1,())
def Qo (A:Alg) (Vy:Pt A Ar) (Vz:Ft A Ar) (x:Tup A.ah [.l .atom,.b]):Ot A Ko:=
 A.iter [.i,.l .atom,.b,.l .poly] (fun x0=>
 A.cond (A.cmp .lss x0.1 (A.lit 4)) (A.l1 .i x0.1 fun x1=>
 A.cl Vy Vz (A.lit 1,x1.1,x0.2.1,x0.2.2.1,()) fun x2=>
 A.l1 (.l .poly) (A.lst .poly [x2.1]) fun x3=>
 A.chk (A.cmp .leq (A.addN (A.len .poly x0.2.2.2.1) (A.len .poly x3.1)) (A.lit 1073741824))<|
 A.l1 (.l .poly) (A.app .poly x0.2.2.2.1 x3.1) fun x4=>
 A.inl _ (A.arith .add .i64 x0.1 (A.lit 1),x2.2.1,x2.2.2.1,x4.1,()))<|
 A.inr _<|A.ret _ (x0.2.1,x0.2.2.1,x0.2.2.2.1,())) (A.lit 0,x.1,x.2.1,A.bC .poly,())
def Qp (A:Alg) (gu:Pt A dB) (gy:Ft A dB) (x:Tup A.ah [.x .iop]):Ot A Kq:=
 A.l1 .b (A.bl false) fun x0=>
 A.cl gu gy (A.fI .iop 0 x.1,A.lit 4,A.lit 7,()) fun x1=>
 A.l1 .b x1.1 fun x2=>
 A.ret _ (x2.1,())
def Qq (A:Alg) (x:Tup A.ah [.l .poly]):Ot A Kr:=
 A.chk (A.cmp .neq (A.len .poly x.1) (A.lit 0))<|
 A.cond (A.bl false) (A.ret _ (x.1,A.bC .poly,()))<|
 A.l1 (.l .poly) (A.lst .poly []) fun x0=>
 A.chk (A.cmp .leq (A.addN (A.len .poly x0.1) (A.len .poly x.1)) (A.lit 1073741824))<|
 A.l1 (.l .poly) (A.app .poly x0.1 x.1) fun x1=>
 A.ret _ (x.1,x1.1,())
def Qr (A:Alg) (gu:Pt A dB) (gy:Ft A dB) (x:Tup A.ah [.i]):Ot A vN:=
 A.cl gu gy (x.1,A.lit 1,A.lit 65535,()) fun x0=>
 A.cond (A.au x0.1) (A.ret _ (A.bC .mono,()))<|
 A.l1 (.l .mono) (A.lst .mono [A.mkX .mono (x.1,A.bC .i64,())]) fun x1=>
 A.ret _ (x1.1,())
def Qs (A:Alg) (x:Tup A.ah [.i]):Ot A vO:=
 A.l1 .i (A.lit 0) fun x0=>
 A.l1 .i (A.arith .and .i64 x.1 (A.lit 65535)) fun x1=>
 A.ret _ (x1.1,())
def Qt (A:Alg) (sV:Pt A jJ) (sW:Ft A jJ) (IL:Pt A vO) (IQ:Ft A vO) (x:Tup A.ah [.i,.i,.i]):Ot A Kt:=
 A.l1 .i (A.lit 0) fun x0=>
 A.cl sV sW (x.2.1,()) fun x1=>
 A.chk (A.orB (A.au (A.au (A.au x1.1))) (sV (x.2.2.1,())))<|
 A.bL _ (sW (x.2.2.1,())) fun x2=>
 A.cond (A.ay (A.au x1.1) (A.bl true) (A.au x2.1)) (A.l1 .i (A.lit 0) fun x3=>
 A.ret _ (x3.1,()))<|
 A.l1 .b (A.cmp .eql x.1 (A.lit 1)) fun x3=>
 A.cond x3.1 (A.cl IL IQ (A.arith .add .i64 x.2.1 x.2.2.1,()) fun x4=>
 A.l1 .i x4.1 fun x5=>
 A.ret _ (x5.1,()))<|
 A.l1 .b (A.cmp .eql x.1 (A.lit 2)) fun x4=>
 A.cond x4.1 (A.cl IL IQ (A.arith .sub .i64 x.2.1 x.2.2.1,()) fun x5=>
 A.l1 .i x5.1 fun x6=>
 A.ret _ (x6.1,()))<|
 A.l1 .b (A.cmp .eql x.1 (A.lit 3)) fun x5=>
 A.cond x5.1 (A.cl IL IQ (A.arith .mul .i64 x.2.1 x.2.2.1,()) fun x6=>
 A.l1 .i x6.1 fun x7=>
 A.ret _ (x7.1,()))<|
 A.l1 .b (A.cmp .eql x.1 (A.lit 4)) fun x6=>
 A.cond x6.1 (A.l1 .i (A.arith .and .i64 x.2.1 x.2.2.1) fun x7=>
 A.ret _ (x7.1,()))<|
 A.l1 .b (A.cmp .eql x.1 (A.lit 5)) fun x7=>
 A.cond x7.1 (A.l1 .i (A.arith .xor .i64 x.2.1 x.2.2.1) fun x8=>
 A.ret _ (x8.1,()))<|
 A.l1 .i (A.lit 0) fun x8=>
 A.ret _ (x8.1,())
def Qu (A:Alg) (IG:Pt A nZ) (II:Ft A nZ) (x:Tup A.ah [.x .mono,.x .mono]):Ot A Au:=
 A.l1 .i (A.lit 0) fun x0=>
 A.cl IG II (A.fL .mono 1 .i64 x.1,A.fL .mono 1 .i64 x.2.1,()) fun x1=>
 A.l1 .i x1.1 fun x2=>
 A.ret _ (x2.1,())
def IU (A:Alg) (Qv:Pt A Au) (Qw:Ft A Au) (x:Tup A.ah [.i,.i,.l .mono]):Ot A CB:=
 A.l1 .i (A.arith .add .i64 x.1 (A.lit 1)) fun x0=>
 A.iter [.i,.i,.i,.l .mono] (fun x1=>
 A.cond (A.cmp .lss x1.2.2.1 x1.2.1) (A.l1 .i x1.2.2.1 fun x2=>
 A.iter [.i,.i,.i,.i,.l .mono] (fun x3=>
 A.chk (A.orB (A.au (A.cmp .gtr x3.2.2.2.1 x3.1)) (A.cmp .leq (A.lit 0) x3.2.2.2.1))<|
 A.chk (A.orB (A.au (A.cmp .gtr x3.2.2.2.1 x3.1)) (A.cmp .lss x3.2.2.2.1 (A.len .mono x3.q.1)))<|
 A.chk (A.orB (A.au (A.cmp .gtr x3.2.2.2.1 x3.1)) (A.cmp .leq (A.lit 0) x3.2.2.2.1))<|
 A.chk (A.orB (A.au (A.cmp .gtr x3.2.2.2.1 x3.1)) (A.cmp .lss x3.2.2.2.1 (A.len .mono x3.q.1)))<|
 A.chk (A.orB (A.au (A.cmp .gtr x3.2.2.2.1 x3.1)) (A.cmp .leq (A.lit 0) (A.arith .sub .i64 x3.2.2.2.1 (A.lit 1))))<|
 A.chk (A.orB (A.au (A.cmp .gtr x3.2.2.2.1 x3.1)) (A.cmp .lss (A.arith .sub .i64 x3.2.2.2.1 (A.lit 1)) (A.len .mono x3.q.1)))<|
 A.chk (A.orB (A.au (A.cmp .gtr x3.2.2.2.1 x3.1)) (A.cmp .leq (A.lit 0) (A.arith .sub .i64 x3.2.2.2.1 (A.lit 1))))<|
 A.chk (A.orB (A.au (A.cmp .gtr x3.2.2.2.1 x3.1)) (A.cmp .lss (A.arith .sub .i64 x3.2.2.2.1 (A.lit 1)) (A.len .mono x3.q.1)))<|
 A.chk (A.orB (A.au (A.cmp .gtr x3.2.2.2.1 x3.1)) (Qv (A.get .mono x3.q.1 x3.2.2.2.1,A.get .mono x3.q.1 (A.arith .sub .i64 x3.2.2.2.1 (A.lit 1)),())))<|
 A.bL _ (Qw (A.get .mono x3.q.1 x3.2.2.2.1,A.get .mono x3.q.1 (A.arith .sub .i64 x3.2.2.2.1 (A.lit 1)),())) fun x4=>
 A.cond (A.ay (A.cmp .gtr x3.2.2.2.1 x3.1) (A.cmp .lss x4.1 (A.lit 0)) (A.bl false)) (A.bd .mono x3.q.1 (A.arith .sub .i64 x3.2.2.2.1 (A.lit 1))<|
 A.bd .mono x3.q.1 (A.arith .sub .i64 x3.2.2.2.1 (A.lit 1))<|
 A.bd .mono x3.q.1 x3.2.2.2.1<|
 A.bd .mono x3.q.1 x3.2.2.2.1<|
 A.bd .mono x3.q.1 x3.2.2.2.1<|
 A.bd .mono x3.q.1 x3.2.2.2.1<|
 A.l1 (.x .mono) (A.get .mono x3.q.1 (A.arith .sub .i64 x3.2.2.2.1 (A.lit 1))) fun x5=>
 A.bd .mono (A.set .mono x3.q.1 x3.2.2.2.1 x5.1) (A.arith .sub .i64 x3.2.2.2.1 (A.lit 1))<|
 A.bd .mono (A.set .mono x3.q.1 x3.2.2.2.1 x5.1) (A.arith .sub .i64 x3.2.2.2.1 (A.lit 1))<|
 A.l1 (.x .mono) (A.get .mono x3.q.1 x3.2.2.2.1) fun x6=>
 A.l1 .i (A.arith .sub .i64 x3.2.2.2.1 (A.lit 1)) fun x7=>
 A.inl _ (x3.1,x3.2.1,x3.2.2.1,x7.1,A.set .mono (A.set .mono x3.q.1 x3.2.2.2.1 x5.1) (A.arith .sub .i64 x3.2.2.2.1 (A.lit 1)) x6.1,()))<|
 A.inr _<|A.l1 .i (A.arith .add .i64 x3.2.2.1 (A.lit 1)) fun x5=>
 A.inl _ (x3.1,x3.2.1,x5.1,x3.q.1,())) (x1.1,x1.2.1,x1.2.2.1,x2.1,x1.2.2.2.1,()))<|
 A.inr _<|A.ret _ (x1.2.2.2.1,())) (x.1,x.2.1,x0.1,x.2.2.1,())
def IV (A:Alg) (x:Tup A.ah [.i,.i,.i,.l .mono]):Ot A CF:=
 A.l1 .i (A.lit 0) fun x0=>
 A.iter [.i,.i,.i,.i,.l .mono] (fun x1=>
 A.cond (A.cmp .lss x1.2.2.2.1 x1.2.2.1) (A.bd .mono x1.q.1 (A.arith .add .i64 x1.2.1 x1.2.2.2.1)<|
 A.bd .mono x1.q.1 (A.arith .add .i64 x1.2.1 x1.2.2.2.1)<|
 A.bd .mono x1.q.1 (A.arith .add .i64 x1.1 x1.2.2.2.1)<|
 A.bd .mono x1.q.1 (A.arith .add .i64 x1.1 x1.2.2.2.1)<|
 A.bd .mono x1.q.1 (A.arith .add .i64 x1.1 x1.2.2.2.1)<|
 A.bd .mono x1.q.1 (A.arith .add .i64 x1.1 x1.2.2.2.1)<|
 A.l1 (.x .mono) (A.get .mono x1.q.1 (A.arith .add .i64 x1.2.1 x1.2.2.2.1)) fun x2=>
 A.bd .mono (A.set .mono x1.q.1 (A.arith .add .i64 x1.1 x1.2.2.2.1) x2.1) (A.arith .add .i64 x1.2.1 x1.2.2.2.1)<|
 A.bd .mono (A.set .mono x1.q.1 (A.arith .add .i64 x1.1 x1.2.2.2.1) x2.1) (A.arith .add .i64 x1.2.1 x1.2.2.2.1)<|
 A.l1 (.x .mono) (A.get .mono x1.q.1 (A.arith .add .i64 x1.1 x1.2.2.2.1)) fun x3=>
 A.l1 .i (A.arith .add .i64 x1.2.2.2.1 (A.lit 1)) fun x4=>
 A.inl _ (x1.1,x1.2.1,x1.2.2.1,x4.1,A.set .mono (A.set .mono x1.q.1 (A.arith .add .i64 x1.1 x1.2.2.2.1) x2.1) (A.arith .add .i64 x1.2.1 x1.2.2.2.1) x3.1,()))<|
 A.inr _<|A.ret _ (x1.q.1,())) (x.1,x.2.1,x.2.2.1,x0.1,x.2.2.2.1,())
def IW (A:Alg) (Ta:Pt A CF) (Tc:Ft A CF) (x:Tup A.ah [.i,.i,.i,.l .mono]):Ot A CG:=
 A.l1 .i (A.arith .sub .i64 x.2.1 x.1) fun x0=>
 A.l1 .i (A.arith .sub .i64 x.2.2.1 x.2.1) fun x1=>
 A.iter [.i,.i,.i,.l .mono] (fun x2=>
 A.cond (A.cmp .neq x2.2.1 x2.2.2.1) (A.bind [.i,.i,.i,.l .mono] (A.cond (A.cmp .gtr x2.2.1 x2.2.2.1) (A.cl Ta Tc (A.arith .sub .i64 x2.1 x2.2.1,x2.1,x2.2.2.1,x2.2.2.2.1,()) fun x3=>
 A.l1 .i (A.arith .sub .i64 x2.2.1 x2.2.2.1) fun x4=>
 A.ret _ (x2.1,x4.1,x2.2.2.1,x3.1,()))<|
 A.cl Ta Tc (A.arith .sub .i64 x2.1 x2.2.1,A.arith .sub .i64 (A.arith .add .i64 x2.1 x2.2.2.1) x2.2.1,x2.2.1,x2.2.2.2.1,()) fun x3=>
 A.l1 .i (A.arith .sub .i64 x2.2.2.1 x2.2.1) fun x4=>
 A.ret _ (x2.1,x2.2.1,x4.1,x3.1,())) fun x3=>
 A.inl _ (x3.1,x3.2.1,x3.2.2.1,x3.2.2.2.1,()))<|
 A.inr _<|A.cl Ta Tc (A.arith .sub .i64 x2.1 x2.2.1,x2.1,x2.2.1,x2.2.2.2.1,()) fun x3=>
 A.ret _ (x3.1,())) (x.2.1,x0.1,x1.1,x.2.2.2.1,())
def IX (A:Alg) (Qv:Pt A Au) (Qw:Ft A Au) (ai9:Pt A CG) (aja:Ft A CG) (IY:Pt A og) (IZ:Ft A og) (x:Tup A.ah [.i,.i,.i,.l .mono]):Ot A og:=
 A.cond (A.cmp .eql (A.arith .sub .i64 x.2.1 x.1) (A.lit 1)) (A.l1 .i x.2.1 fun x0=>
 A.l1 .i x.2.2.1 fun x1=>
 A.iter [.i,.i,.i,.l .mono] (fun x2=>
 A.cond (A.cmp .lss x2.2.1 x2.2.2.1) (A.chk (A.cmp .leq (A.lit 0) (A.lit 1))<|
 A.l1 .i (A.conv .i64 (A.arith .shr .u64 (A.conv .u64 (A.arith .add .i64 x2.2.1 x2.2.2.1)) (A.lit 1))) fun x3=>
 A.bd .mono x2.2.2.2.1 x3.1<|
 A.bd .mono x2.2.2.2.1 x3.1<|
 A.bd .mono x2.2.2.2.1 x2.1<|
 A.bd .mono x2.2.2.2.1 x2.1<|
 A.cl Qv Qw (A.get .mono x2.2.2.2.1 x3.1,A.get .mono x2.2.2.2.1 x2.1,()) fun x4=>
 A.bind [.i,.i,.i,.l .mono] (A.cond (A.cmp .lss x4.1 (A.lit 0)) (A.l1 .i (A.arith .add .i64 x3.1 (A.lit 1)) fun x5=>
 A.ret _ (x2.1,x5.1,x2.2.2.1,x2.2.2.2.1,()))<|
 A.l1 .i x3.1 fun x5=>
 A.ret _ (x2.1,x2.2.1,x5.1,x2.2.2.2.1,())) fun x5=>
 A.inl _ (x5.1,x5.2.1,x5.2.2.1,x5.2.2.2.1,()))<|
 A.inr _<|A.l1 .i x2.1 fun x3=>
 A.iter [.i,.i,.l .mono] (fun x4=>
 A.cond (A.cmp .lss x4.2.1 (A.arith .sub .i64 x4.1 (A.lit 1))) (A.bd .mono x4.2.2.1 (A.arith .add .i64 x4.2.1 (A.lit 1))<|
 A.bd .mono x4.2.2.1 (A.arith .add .i64 x4.2.1 (A.lit 1))<|
 A.bd .mono x4.2.2.1 x4.2.1<|
 A.bd .mono x4.2.2.1 x4.2.1<|
 A.bd .mono x4.2.2.1 x4.2.1<|
 A.bd .mono x4.2.2.1 x4.2.1<|
 A.l1 (.x .mono) (A.get .mono x4.2.2.1 (A.arith .add .i64 x4.2.1 (A.lit 1))) fun x5=>
 A.bd .mono (A.set .mono x4.2.2.1 x4.2.1 x5.1) (A.arith .add .i64 x4.2.1 (A.lit 1))<|
 A.bd .mono (A.set .mono x4.2.2.1 x4.2.1 x5.1) (A.arith .add .i64 x4.2.1 (A.lit 1))<|
 A.l1 (.x .mono) (A.get .mono x4.2.2.1 x4.2.1) fun x6=>
 A.l1 .i (A.arith .add .i64 x4.2.1 (A.lit 1)) fun x7=>
 A.inl _ (x4.1,x7.1,A.set .mono (A.set .mono x4.2.2.1 x4.2.1 x5.1) (A.arith .add .i64 x4.2.1 (A.lit 1)) x6.1,()))<|
 A.inr _<|A.ret _ (x4.2.2.1,())) (x2.2.1,x3.1,x2.2.2.2.1,())) (x.1,x0.1,x1.1,x.2.2.2.1,()))<|
 A.cond (A.cmp .eql (A.arith .sub .i64 x.2.2.1 x.2.1) (A.lit 1)) (A.l1 .i x.1 fun x0=>
 A.l1 .i x.2.1 fun x1=>
 A.iter [.i,.i,.i,.l .mono] (fun x2=>
 A.cond (A.cmp .lss x2.2.1 x2.2.2.1) (A.chk (A.cmp .leq (A.lit 0) (A.lit 1))<|
 A.l1 .i (A.conv .i64 (A.arith .shr .u64 (A.conv .u64 (A.arith .add .i64 x2.2.1 x2.2.2.1)) (A.lit 1))) fun x3=>
 A.bd .mono x2.2.2.2.1 x2.1<|
 A.bd .mono x2.2.2.2.1 x2.1<|
 A.bd .mono x2.2.2.2.1 x3.1<|
 A.bd .mono x2.2.2.2.1 x3.1<|
 A.cl Qv Qw (A.get .mono x2.2.2.2.1 x2.1,A.get .mono x2.2.2.2.1 x3.1,()) fun x4=>
 A.bind [.i,.i,.i,.l .mono] (A.cond (A.au (A.cmp .lss x4.1 (A.lit 0))) (A.l1 .i (A.arith .add .i64 x3.1 (A.lit 1)) fun x5=>
 A.ret _ (x2.1,x5.1,x2.2.2.1,x2.2.2.2.1,()))<|
 A.l1 .i x3.1 fun x5=>
 A.ret _ (x2.1,x2.2.1,x5.1,x2.2.2.2.1,())) fun x5=>
 A.inl _ (x5.1,x5.2.1,x5.2.2.1,x5.2.2.2.1,()))<|
 A.inr _<|A.l1 .i x2.1 fun x3=>
 A.iter [.i,.i,.l .mono] (fun x4=>
 A.cond (A.cmp .gtr x4.2.1 x4.1) (A.bd .mono x4.2.2.1 (A.arith .sub .i64 x4.2.1 (A.lit 1))<|
 A.bd .mono x4.2.2.1 (A.arith .sub .i64 x4.2.1 (A.lit 1))<|
 A.bd .mono x4.2.2.1 x4.2.1<|
 A.bd .mono x4.2.2.1 x4.2.1<|
 A.bd .mono x4.2.2.1 x4.2.1<|
 A.bd .mono x4.2.2.1 x4.2.1<|
 A.l1 (.x .mono) (A.get .mono x4.2.2.1 (A.arith .sub .i64 x4.2.1 (A.lit 1))) fun x5=>
 A.bd .mono (A.set .mono x4.2.2.1 x4.2.1 x5.1) (A.arith .sub .i64 x4.2.1 (A.lit 1))<|
 A.bd .mono (A.set .mono x4.2.2.1 x4.2.1 x5.1) (A.arith .sub .i64 x4.2.1 (A.lit 1))<|
 A.l1 (.x .mono) (A.get .mono x4.2.2.1 x4.2.1) fun x6=>
 A.l1 .i (A.arith .sub .i64 x4.2.1 (A.lit 1)) fun x7=>
 A.inl _ (x4.1,x7.1,A.set .mono (A.set .mono x4.2.2.1 x4.2.1 x5.1) (A.arith .sub .i64 x4.2.1 (A.lit 1)) x6.1,()))<|
 A.inr _<|A.ret _ (x4.2.2.1,())) (x2.2.1,x3.1,x2.2.2.2.1,())) (x.2.1,x0.1,x1.1,x.2.2.2.1,()))<|
 A.chk (A.cmp .leq (A.lit 0) (A.lit 1))<|
 A.l1 .i (A.conv .i64 (A.arith .shr .u64 (A.conv .u64 (A.arith .add .i64 x.1 x.2.2.1)) (A.lit 1))) fun x0=>
 A.l1 .i (A.arith .add .i64 x0.1 x.2.1) fun x1=>
 A.l1 .i (A.lit 0) fun x2=>
 A.l1 .i (A.lit 0) fun x3=>
 A.bind [.i,.i,.i,.i,.i,.i,.i,.l .mono] (A.cond (A.cmp .gtr x.2.1 x0.1) (A.l1 .i (A.arith .sub .i64 x1.1 x.2.2.1) fun x4=>
 A.l1 .i x0.1 fun x5=>
 A.ret _ (x.1,x.2.1,x.2.2.1,x0.1,x1.1,x4.1,x5.1,x.2.2.2.1,()))<|
 A.l1 .i x.1 fun x4=>
 A.l1 .i x.2.1 fun x5=>
 A.ret _ (x.1,x.2.1,x.2.2.1,x0.1,x1.1,x4.1,x5.1,x.2.2.2.1,())) fun x4=>
 A.l1 .i (A.arith .sub .i64 x4.q.1 (A.lit 1)) fun x5=>
 A.iter [.i,.i,.i,.i,.i,.i,.i,.i,.l .mono] (fun x6=>
 A.cond (A.cmp .lss x6.q.2.1 x6.q.2.2.1) (A.chk (A.cmp .leq (A.lit 0) (A.lit 1))<|
 A.l1 .i (A.conv .i64 (A.arith .shr .u64 (A.conv .u64 (A.arith .add .i64 x6.q.2.1 x6.q.2.2.1)) (A.lit 1))) fun x7=>
 A.bd .mono x6.o.1 (A.arith .sub .i64 x6.q.2.2.2.1 x7.1)<|
 A.bd .mono x6.o.1 (A.arith .sub .i64 x6.q.2.2.2.1 x7.1)<|
 A.bd .mono x6.o.1 x7.1<|
 A.bd .mono x6.o.1 x7.1<|
 A.cl Qv Qw (A.get .mono x6.o.1 (A.arith .sub .i64 x6.q.2.2.2.1 x7.1),A.get .mono x6.o.1 x7.1,()) fun x8=>
 A.bind [.i,.i,.i,.i,.i,.i,.i,.i,.l .mono] (A.cond (A.au (A.cmp .lss x8.1 (A.lit 0))) (A.l1 .i (A.arith .add .i64 x7.1 (A.lit 1)) fun x9=>
 A.ret _ (x6.1,x6.2.1,x6.2.2.1,x6.2.2.2.1,x6.q.1,x9.1,x6.q.2.2.1,x6.q.2.2.2.1,x6.o.1,()))<|
 A.l1 .i x7.1 fun x9=>
 A.ret _ (x6.1,x6.2.1,x6.2.2.1,x6.2.2.2.1,x6.q.1,x6.q.2.1,x9.1,x6.q.2.2.2.1,x6.o.1,())) fun x9=>
 A.inl _ (x9.1,x9.2.1,x9.2.2.1,x9.2.2.2.1,x9.q.1,x9.q.2.1,x9.q.2.2.1,x9.q.2.2.2.1,x9.o.1,()))<|
 A.inr _<|A.l1 .i (A.arith .sub .i64 x6.q.1 x6.q.2.1) fun x7=>
 A.bind [.i,.i,.i,.i,.i,.l .mono] (A.cond (A.ay (A.cmp .lss x6.q.2.1 x6.2.1) (A.cmp .lss x6.2.1 x7.1) (A.bl false)) (A.cl ai9 aja (x6.q.2.1,x6.2.1,x7.1,x6.o.1,()) fun x8=>
 A.ret _ (x6.1,x6.2.2.1,x6.2.2.2.1,x6.q.2.1,x7.1,x8.1,()))<|
 A.ret _ (x6.1,x6.2.2.1,x6.2.2.2.1,x6.q.2.1,x7.1,x6.o.1,())) fun x8=>
 A.bind [.i,.i,.i,.l .mono] (A.cond (A.ay (A.cmp .lss x8.1 x8.2.2.2.1) (A.cmp .lss x8.2.2.2.1 x8.2.2.1) (A.bl false)) (A.cl IY IZ (x8.1,x8.2.2.2.1,x8.2.2.1,x8.q.2.1,()) fun x9=>
 A.ret _ (x8.2.1,x8.2.2.1,x8.q.1,x9.1,()))<|
 A.ret _ (x8.2.1,x8.2.2.1,x8.q.1,x8.q.2.1,())) fun x9=>
 A.bind [.l .mono] (A.cond (A.ay (A.cmp .lss x9.2.1 x9.2.2.1) (A.cmp .lss x9.2.2.1 x9.1) (A.bl false)) (A.cl IY IZ (x9.2.1,x9.2.2.1,x9.1,x9.2.2.2.1,()) fun x10=>
 A.ret _ (x10.1,()))<|
 A.ret _ (x9.2.2.2.1,())) fun x10=>
 A.ret _ (x10.1,())) (x4.1,x4.2.1,x4.2.2.1,x4.2.2.2.1,x4.q.1,x4.q.2.1,x4.q.2.2.1,x5.1,x4.q.2.2.2.1,())
def I4 (A:Alg) (Zr:Pt A CB) (Zt:Ft A CB) (IY:Pt A og) (IZ:Ft A og) (x:Tup A.ah [.i,.l .mono]):Ot A CJ:=
 A.l1 .i (A.lit 20) fun x0=>
 A.l1 .i (A.lit 0) fun x1=>
 A.l1 .i x0.1 fun x2=>
 A.iter [.i,.i,.i,.i,.l .mono] (fun x3=>
 A.cond (A.cmp .leq x3.2.2.2.1 x3.1) (A.cl Zr Zt (x3.2.2.1,x3.2.2.2.1,x3.q.1,()) fun x4=>
 A.l1 .i x3.2.2.2.1 fun x5=>
 A.l1 .i (A.arith .add .i64 x3.2.2.2.1 x3.2.1) fun x6=>
 A.inl _ (x3.1,x3.2.1,x5.1,x6.1,x4.1,()))<|
 A.inr _<|A.cl Zr Zt (x3.2.2.1,x3.1,x3.q.1,()) fun x4=>
 A.iter [.i,.i,.l .mono] (fun x5=>
 A.cond (A.cmp .lss x5.2.1 x5.1) (A.l1 .i (A.lit 0) fun x6=>
 A.l1 .i (A.arith .mul .i64 (A.lit 2) x5.2.1) fun x7=>
 A.iter [.i,.i,.i,.i,.l .mono] (fun x8=>
 A.cond (A.cmp .leq x8.2.2.2.1 x8.1) (A.cl IY IZ (x8.2.2.1,A.arith .add .i64 x8.2.2.1 x8.2.1,x8.2.2.2.1,x8.q.1,()) fun x9=>
 A.l1 .i x8.2.2.2.1 fun x10=>
 A.l1 .i (A.arith .add .i64 x8.2.2.2.1 (A.arith .mul .i64 (A.lit 2) x8.2.1)) fun x11=>
 A.inl _ (x8.1,x8.2.1,x10.1,x11.1,x9.1,()))<|
 A.inr _<|A.l1 .i (A.arith .add .i64 x8.2.2.1 x8.2.1) fun x9=>
 A.bind [.i,.i,.l .mono] (A.cond (A.cmp .lss x9.1 x8.1) (A.cl IY IZ (x8.2.2.1,x9.1,x8.1,x8.q.1,()) fun x10=>
 A.ret _ (x8.1,x8.2.1,x10.1,()))<|
 A.ret _ (x8.1,x8.2.1,x8.q.1,())) fun x10=>
 A.l1 .i (A.arith .mul .i64 x10.2.1 (A.lit 2)) fun x11=>
 A.inl _ (x10.1,x11.1,x10.2.2.1,())) (x5.1,x5.2.1,x6.1,x7.1,x5.2.2.1,()))<|
 A.inr _<|A.ret _ (x5.2.2.1,())) (x3.1,x3.2.1,x4.1,())) (x.1,x0.1,x1.1,x2.1,x.2.1,())
def I5 (A:Alg) (ajb:Pt A CJ) (ajc:Ft A CJ) (x:Tup A.ah [.l .mono]):Ot A CK:=
 A.cl ajb ajc (A.len .mono x.1,x.1,()) fun x0=>
 A.ret _ (x0.1,())
def Qx (A:Alg) (IG:Pt A nZ) (II:Ft A nZ) (mO:Pt A jl) (mP:Ft A jl) (IL:Pt A vO) (IQ:Ft A vO) (Zb:Pt A Af) (Zc:Ft A Af) (ajd:Pt A CK) (aje:Ft A CK) (x:Tup A.ah [.l .mono]):Ot A Av:=
 A.l1 .b (A.bl false) fun x0=>
 A.cl ajd aje (x.1,()) fun x1=>
 A.l1 .i (A.lit 0) fun x2=>
 A.iter [.i,.l .mono,.l .mono] (fun x3=>
 A.cond (A.cmp .lss x3.1 (A.len .mono x3.2.1)) (A.bd .mono x3.2.1 x3.1<|
 A.bd .mono x3.2.1 x3.1<|
 A.l1 .i (A.lit 0) fun x4=>
 A.l1 (.x .mono) (A.get .mono x3.2.1 x3.1) fun x5=>
 A.iter [.i,.i,.l .mono,.x .mono,.l .mono] (fun x6=>
 A.chk (A.orB (A.au (A.cmp .lss x6.1 (A.len .mono x6.2.2.1))) (A.cmp .leq (A.lit 0) x6.1))<|
 A.chk (A.orB (A.au (A.cmp .lss x6.1 (A.len .mono x6.2.2.1))) (A.cmp .lss x6.1 (A.len .mono x6.2.2.1)))<|
 A.chk (A.orB (A.au (A.cmp .lss x6.1 (A.len .mono x6.2.2.1))) (A.cmp .leq (A.lit 0) x6.1))<|
 A.chk (A.orB (A.au (A.cmp .lss x6.1 (A.len .mono x6.2.2.1))) (A.cmp .lss x6.1 (A.len .mono x6.2.2.1)))<|
 A.chk (A.orB (A.au (A.cmp .lss x6.1 (A.len .mono x6.2.2.1))) (IG (A.fL .mono 1 .i64 x6.2.2.2.1,A.fL .mono 1 .i64 (A.get .mono x6.2.2.1 x6.1),())))<|
 A.bL _ (II (A.fL .mono 1 .i64 x6.2.2.2.1,A.fL .mono 1 .i64 (A.get .mono x6.2.2.1 x6.1),())) fun x7=>
 A.cond (A.ay (A.cmp .lss x6.1 (A.len .mono x6.2.2.1)) (A.cmp .eql x7.1 (A.lit 0)) (A.bl false)) (A.bd .mono x6.2.2.1 x6.1<|
 A.bd .mono x6.2.2.1 x6.1<|
 A.cl IL IQ (A.arith .add .i64 x6.2.1 (A.fI .mono 0 (A.get .mono x6.2.2.1 x6.1)),()) fun x8=>
 A.l1 .i x8.1 fun x9=>
 A.l1 .i (A.arith .add .i64 x6.1 (A.lit 1)) fun x10=>
 A.inl _ (x10.1,x9.1,x6.2.2.1,x6.2.2.2.1,x6.q.1,()))<|
 A.inr _<|A.bind [.i,.l .mono,.l .mono] (A.cond (A.cmp .gtr x6.2.1 (A.lit 0)) (A.cl Zb Zc (A.fL .mono 1 .i64 x6.2.2.2.1,()) fun x8=>
 A.l1 (.l .mono) (A.lst .mono [A.mkX .mono (x6.2.1,x8.1,())]) fun x9=>
 A.chk (A.cmp .leq (A.addN (A.len .mono x6.q.1) (A.len .mono x9.1)) (A.lit 1073741824))<|
 A.l1 (.l .mono) (A.app .mono x6.q.1 x9.1) fun x10=>
 A.ret _ (x6.1,x6.2.2.1,x10.1,()))<|
 A.ret _ (x6.1,x6.2.2.1,x6.q.1,())) fun x8=>
 A.inl _ (x8.1,x8.2.1,x8.2.2.1,())) (x3.1,x4.1,x3.2.1,x5.1,x3.2.2.1,()))<|
 A.inr _<|A.cl mO mP (A.mkX .poly (x3.2.2.1,()),()) fun x4=>
 A.cond (A.au x4.1) (A.l1 .b (A.bl false) fun x5=>
 A.ret _ (x5.1,x3.2.1,A.bC .mono,()))<|
 A.l1 .b (A.bl true) fun x5=>
 A.ret _ (x5.1,x3.2.1,x3.2.2.1,())) (x2.1,x1.1,A.bC .mono,())
def I6 (A:Alg) (x:Tup A.ah [.i]):Ot A CO:=
 A.cond (A.cmp .lss x.1 (A.lit 0)) (A.fail)<|
 A.l1 .i (A.arith .sub .i64 x.1 (A.arith .sub .i64 (A.lit 0) (A.lit 0))) fun x0=>
 A.bind [.l .mono] (A.cond (A.cmp .gtr x0.1 (A.lit 0)) (A.chk (A.cmp .eql (A.lit 0) (A.lit 0))<|
 A.chk (A.cmp .eql (A.lit 0) (A.lit 0))<|
 A.chk (A.cmp .leq (A.lit 0) x0.1)<|
 A.chk (A.cmp .leq x0.1 (A.lit 1073741824))<|
 A.chk (A.cmp .leq (A.len .mono (A.rep .mono x0.1 (A.mkX .mono (A.lit 0,A.bC .i64,())))) (A.lit 1073741824))<|
 A.l1 (.l .mono) (A.rep .mono x0.1 (A.mkX .mono (A.lit 0,A.bC .i64,()))) fun x1=>
 A.chk (A.cmp .leq (A.lit 0) (A.lit 0))<|
 A.chk (A.cmp .leq (A.lit 0) (A.lit 0))<|
 A.chk (A.cmp .leq (A.lit 0) (A.len .mono x1.1))<|
 A.chk (A.cmp .eql (A.lit 0) (A.lit 0))<|
 A.chk (A.cmp .leq (A.lit 0) (A.Ec (A.lit 0) (A.lit 0)))<|
 A.chk (A.cmp .leq (A.Ec (A.lit 0) (A.lit 0)) (A.len .mono x1.1))<|
 A.ret _ (A.sub .mono x1.1 (A.lit 0) (A.Ec (A.lit 0) (A.lit 0)),()))<|
 A.ret _ (A.bC .mono,())) fun x1=>
 A.ret _ (x1.1,())
def Qy (A:Alg) (ajf:Pt A CO) (ajg:Ft A CO) (x:Tup A.ah [.l .poly]):Ot A Ku:=
 A.l1 .i (A.lit 0) fun x0=>
 A.iter [.l .poly,.i,.l .poly,.i,.i] (fun x1=>
 A.cond (A.cmp .lss x1.q.1 x1.2.2.2.1) (A.bd .poly x1.2.2.1 x1.q.1<|
 A.l1 (.l .mono) (A.fL .poly 0 .mono (A.get .poly x1.2.2.1 x1.q.1)) fun x2=>
 A.l1 .i (A.arith .add .i64 x1.2.1 (A.len .mono x2.1)) fun x3=>
 A.cond (A.cmp .lss x3.1 (A.lit 0)) (A.fail)<|
 A.inl _ (x1.1,x3.1,x1.2.2.1,x1.2.2.2.1,A.arith .add .i64 x1.q.1 (A.lit 1),()))<|
 A.inr _<|A.cl ajf ajg (x1.2.1,()) fun x2=>
 A.iter [.l .poly,.i,.i,.l .mono] (fun x3=>
 A.cond (A.cmp .lss x3.2.2.1 x3.2.1) (A.bd .poly x3.1 x3.2.2.1<|
 A.l1 (.l .mono) (A.fL .poly 0 .mono (A.get .poly x3.1 x3.2.2.1)) fun x4=>
 A.chk (A.cmp .leq (A.addN (A.len .mono x3.2.2.2.1) (A.len .mono x4.1)) (A.lit 1073741824))<|
 A.l1 (.l .mono) (A.app .mono x3.2.2.2.1 x4.1) fun x5=>
 A.inl _ (x3.1,x3.2.1,A.arith .add .i64 x3.2.2.1 (A.lit 1),x5.1,()))<|
 A.inr _<|A.ret _ (x3.2.2.2.1,())) (x1.1,A.len .poly x1.1,A.lit 0,x2.1,())) (x.1,x0.1,x.1,A.len .poly x.1,A.lit 0,())
def Qz (A:Alg) (mO:Pt A jl) (mP:Ft A jl) (Zu:Pt A Av) (Zv:Ft A Av) (anp:Pt A Ku) (anq:Ft A Ku) (x:Tup A.ah [.x .poly,.x .poly]):Ot A Kv:=
 A.l1 .b (A.bl false) fun x0=>
 A.cl mO mP (x.1,()) fun x1=>
 A.chk (A.orB (A.au (A.au (A.au x1.1))) (mO (x.2.1,())))<|
 A.bL _ (mP (x.2.1,())) fun x2=>
 A.cond (A.ay (A.au x1.1) (A.bl true) (A.au x2.1)) (A.l1 .b (A.bl false) fun x3=>
 A.ret _ (x3.1,A.bC .mono,()))<|
 A.l1 (.l .poly) (A.lst .poly [A.mkX .poly (A.fL .poly 0 .mono x.1,()),A.mkX .poly (A.fL .poly 0 .mono x.2.1,())]) fun x3=>
 A.cl anp anq (x3.1,()) fun x4=>
 A.cl Zu Zv (x4.1,()) fun x5=>
 A.l1 .b x5.1 fun x6=>
 A.ret _ (x6.1,x5.2.2.1,())
def I7 (A:Alg) (x:Tup A.ah [.i]):Ot A CP:=
 A.cond (A.cmp .lss x.1 (A.lit 0)) (A.fail)<|
 A.l1 .i (A.arith .sub .i64 x.1 (A.arith .sub .i64 (A.lit 0) (A.lit 0))) fun x0=>
 A.bind [.l .i64] (A.cond (A.cmp .gtr x0.1 (A.lit 0)) (A.chk (A.cmp .eql (A.lit 0) (A.lit 0))<|
 A.chk (A.cmp .eql (A.lit 0) (A.lit 0))<|
 A.chk (A.cmp .leq (A.lit 0) x0.1)<|
 A.chk (A.cmp .leq x0.1 (A.lit 1073741824))<|
 A.chk (A.cmp .leq (A.len .i64 (A.rep .i64 x0.1 (A.mkX .i64 (A.lit 0,())))) (A.lit 1073741824))<|
 A.l1 (.l .i64) (A.rep .i64 x0.1 (A.mkX .i64 (A.lit 0,()))) fun x1=>
 A.chk (A.cmp .leq (A.lit 0) (A.lit 0))<|
 A.chk (A.cmp .leq (A.lit 0) (A.lit 0))<|
 A.chk (A.cmp .leq (A.lit 0) (A.len .i64 x1.1))<|
 A.chk (A.cmp .eql (A.lit 0) (A.lit 0))<|
 A.chk (A.cmp .leq (A.lit 0) (A.Ec (A.lit 0) (A.lit 0)))<|
 A.chk (A.cmp .leq (A.Ec (A.lit 0) (A.lit 0)) (A.len .i64 x1.1))<|
 A.ret _ (A.sub .i64 x1.1 (A.lit 0) (A.Ec (A.lit 0) (A.lit 0)),()))<|
 A.ret _ (A.bC .i64,())) fun x1=>
 A.ret _ (x1.1,())
def QA (A:Alg) (ajh:Pt A CP) (aji:Ft A CP) (x:Tup A.ah [.l .ints]):Ot A Kw:=
 A.l1 .i (A.lit 0) fun x0=>
 A.iter [.l .ints,.i,.l .ints,.i,.i] (fun x1=>
 A.cond (A.cmp .lss x1.q.1 x1.2.2.2.1) (A.bd .ints x1.2.2.1 x1.q.1<|
 A.l1 (.l .i64) (A.fL .ints 0 .i64 (A.get .ints x1.2.2.1 x1.q.1)) fun x2=>
 A.l1 .i (A.arith .add .i64 x1.2.1 (A.len .i64 x2.1)) fun x3=>
 A.cond (A.cmp .lss x3.1 (A.lit 0)) (A.fail)<|
 A.inl _ (x1.1,x3.1,x1.2.2.1,x1.2.2.2.1,A.arith .add .i64 x1.q.1 (A.lit 1),()))<|
 A.inr _<|A.cl ajh aji (x1.2.1,()) fun x2=>
 A.iter [.l .ints,.i,.i,.l .i64] (fun x3=>
 A.cond (A.cmp .lss x3.2.2.1 x3.2.1) (A.bd .ints x3.1 x3.2.2.1<|
 A.l1 (.l .i64) (A.fL .ints 0 .i64 (A.get .ints x3.1 x3.2.2.1)) fun x4=>
 A.chk (A.cmp .leq (A.addN (A.len .i64 x3.2.2.2.1) (A.len .i64 x4.1)) (A.lit 1073741824))<|
 A.l1 (.l .i64) (A.app .i64 x3.2.2.2.1 x4.1) fun x5=>
 A.inl _ (x3.1,x3.2.1,A.arith .add .i64 x3.2.2.1 (A.lit 1),x5.1,()))<|
 A.inr _<|A.ret _ (x3.2.2.2.1,())) (x1.1,A.len .ints x1.1,A.lit 0,x2.1,())) (x.1,x0.1,x.1,A.len .ints x.1,A.lit 0,())
def I8 (A:Alg) (Y9:Pt A Eh) (Za:Ft A Eh) (x:Tup A.ah [.i,.i,.l .i64]):Ot A CQ:=
 A.l1 .i (A.arith .add .i64 x.1 (A.lit 1)) fun x0=>
 A.iter [.i,.i,.i,.l .i64] (fun x1=>
 A.cond (A.cmp .lss x1.2.2.1 x1.2.1) (A.l1 .i x1.2.2.1 fun x2=>
 A.iter [.i,.i,.i,.i,.l .i64] (fun x3=>
 A.chk (A.orB (A.au (A.cmp .gtr x3.2.2.2.1 x3.1)) (A.cmp .leq (A.lit 0) x3.2.2.2.1))<|
 A.chk (A.orB (A.au (A.cmp .gtr x3.2.2.2.1 x3.1)) (A.cmp .lss x3.2.2.2.1 (A.len .i64 x3.q.1)))<|
 A.chk (A.orB (A.au (A.cmp .gtr x3.2.2.2.1 x3.1)) (A.cmp .leq (A.lit 0) x3.2.2.2.1))<|
 A.chk (A.orB (A.au (A.cmp .gtr x3.2.2.2.1 x3.1)) (A.cmp .lss x3.2.2.2.1 (A.len .i64 x3.q.1)))<|
 A.chk (A.orB (A.au (A.cmp .gtr x3.2.2.2.1 x3.1)) (A.cmp .leq (A.lit 0) (A.arith .sub .i64 x3.2.2.2.1 (A.lit 1))))<|
 A.chk (A.orB (A.au (A.cmp .gtr x3.2.2.2.1 x3.1)) (A.cmp .lss (A.arith .sub .i64 x3.2.2.2.1 (A.lit 1)) (A.len .i64 x3.q.1)))<|
 A.chk (A.orB (A.au (A.cmp .gtr x3.2.2.2.1 x3.1)) (A.cmp .leq (A.lit 0) (A.arith .sub .i64 x3.2.2.2.1 (A.lit 1))))<|
 A.chk (A.orB (A.au (A.cmp .gtr x3.2.2.2.1 x3.1)) (A.cmp .lss (A.arith .sub .i64 x3.2.2.2.1 (A.lit 1)) (A.len .i64 x3.q.1)))<|
 A.chk (A.orB (A.au (A.cmp .gtr x3.2.2.2.1 x3.1)) (Y9 (A.fI .i64 0 (A.get .i64 x3.q.1 x3.2.2.2.1),A.fI .i64 0 (A.get .i64 x3.q.1 (A.arith .sub .i64 x3.2.2.2.1 (A.lit 1))),())))<|
 A.bL _ (Za (A.fI .i64 0 (A.get .i64 x3.q.1 x3.2.2.2.1),A.fI .i64 0 (A.get .i64 x3.q.1 (A.arith .sub .i64 x3.2.2.2.1 (A.lit 1))),())) fun x4=>
 A.cond (A.ay (A.cmp .gtr x3.2.2.2.1 x3.1) x4.1 (A.bl false)) (A.bd .i64 x3.q.1 (A.arith .sub .i64 x3.2.2.2.1 (A.lit 1))<|
 A.bd .i64 x3.q.1 (A.arith .sub .i64 x3.2.2.2.1 (A.lit 1))<|
 A.bd .i64 x3.q.1 x3.2.2.2.1<|
 A.bd .i64 x3.q.1 x3.2.2.2.1<|
 A.bd .i64 x3.q.1 x3.2.2.2.1<|
 A.bd .i64 x3.q.1 x3.2.2.2.1<|
 A.l1 .i (A.fI .i64 0 (A.get .i64 x3.q.1 (A.arith .sub .i64 x3.2.2.2.1 (A.lit 1)))) fun x5=>
 A.bd .i64 (A.set .i64 x3.q.1 x3.2.2.2.1 (A.mkX .i64 (x5.1,()))) (A.arith .sub .i64 x3.2.2.2.1 (A.lit 1))<|
 A.bd .i64 (A.set .i64 x3.q.1 x3.2.2.2.1 (A.mkX .i64 (x5.1,()))) (A.arith .sub .i64 x3.2.2.2.1 (A.lit 1))<|
 A.l1 .i (A.fI .i64 0 (A.get .i64 x3.q.1 x3.2.2.2.1)) fun x6=>
 A.l1 .i (A.arith .sub .i64 x3.2.2.2.1 (A.lit 1)) fun x7=>
 A.inl _ (x3.1,x3.2.1,x3.2.2.1,x7.1,A.set .i64 (A.set .i64 x3.q.1 x3.2.2.2.1 (A.mkX .i64 (x5.1,()))) (A.arith .sub .i64 x3.2.2.2.1 (A.lit 1)) (A.mkX .i64 (x6.1,())),()))<|
 A.inr _<|A.l1 .i (A.arith .add .i64 x3.2.2.1 (A.lit 1)) fun x5=>
 A.inl _ (x3.1,x3.2.1,x5.1,x3.q.1,())) (x1.1,x1.2.1,x1.2.2.1,x2.1,x1.2.2.2.1,()))<|
 A.inr _<|A.ret _ (x1.2.2.2.1,())) (x.1,x.2.1,x0.1,x.2.2.1,())
def I9 (A:Alg) (Y9:Pt A Eh) (Za:Ft A Eh) (ajj:Pt A CQ) (ajk:Ft A CQ) (ajl:Pt A FV) (ajm:Ft A FV) (ajn:Pt A FW) (ajo:Ft A FW) (ajp:Pt A FX) (ajq:Ft A FX) (ajr:Pt A FY) (ajs:Ft A FY) (ajt:Pt A FZ) (aju:Ft A FZ) (ajv:Pt A F3) (ajw:Ft A F3) (ajx:Pt A F4) (ajy:Ft A F4) (Mf:Pt A oh) (Mg:Ft A oh) (x:Tup A.ah [.i,.i,.i,.l .i64]):Ot A oh:=
 A.l1 .b (A.bl true) fun x0=>
 A.l1 .b (A.bl true) fun x1=>
 A.iter [.i,.i,.i,.b,.b,.l .i64] (fun x2=>
 A.kJ [.i,.i,.i,.b,.b,.l .i64] (A.l1 .i (A.arith .sub .i64 x2.2.1 x2.1) fun x3=>
 A.cond (A.cmp .leq x3.1 (A.lit 12)) (A.cl ajj ajk (x2.1,x2.2.1,x2.q.2.1,()) fun x4=>
 A.inr _<|A.inr _<|A.ret _ (x4.1,()))<|
 A.cond (A.cmp .eql x2.2.2.1 (A.lit 0)) (A.cl ajl ajm (x2.1,x2.2.1,x2.q.2.1,()) fun x4=>
 A.inr _<|A.inr _<|A.ret _ (x4.1,()))<|
 A.bind [.i,.i,.i,.b,.b,.i,.l .i64] (A.cond (A.au x2.2.2.2.1) (A.cl ajn ajo (x2.1,x2.2.1,x2.q.2.1,()) fun x4=>
 A.l1 .i (A.arith .sub .i64 x2.2.2.1 (A.lit 1)) fun x5=>
 A.ret _ (x2.1,x2.2.1,x5.1,x2.2.2.2.1,x2.q.1,x3.1,x4.1,()))<|
 A.ret _ (x2.1,x2.2.1,x2.2.2.1,x2.2.2.2.1,x2.q.1,x3.1,x2.q.2.1,())) fun x4=>
 A.cl ajp ajq (x4.1,x4.2.1,x4.q.2.2.1,()) fun x5=>
 A.l1 .i x5.1 fun x6=>
 A.l1 .i x5.2.1 fun x7=>
 A.bind [.i,.i,.i,.b,.b,.i,.i,.i,.l .i64] (A.cond (A.cmp .eql x7.1 (A.lit 2)) (A.cl ajr ajs (x4.1,x4.2.1,x5.2.2.1,()) fun x8=>
 A.l1 .i (A.arith .sub .i64 (A.arith .sub .i64 x4.2.1 (A.lit 1)) (A.arith .sub .i64 x6.1 x4.1)) fun x9=>
 A.l1 .i (A.lit 1) fun x10=>
 A.ret _ (x4.1,x4.2.1,x4.2.2.1,x4.2.2.2.1,x4.q.1,x4.q.2.1,x9.1,x10.1,x8.1,()))<|
 A.ret _ (x4.1,x4.2.1,x4.2.2.1,x4.2.2.2.1,x4.q.1,x4.q.2.1,x6.1,x7.1,x5.2.2.1,())) fun x8=>
 A.kJ [.i,.i,.i,.b,.b,.i,.i,.l .i64] (A.cond (A.ay (A.ay x8.2.2.2.1 x8.q.1 (A.bl false)) (A.cmp .eql x8.q.2.2.2.1 (A.lit 1)) (A.bl false)) (A.cl ajt aju (x8.1,x8.2.1,x8.o.1,()) fun x9=>
 A.cond x9.1 (A.inr _<|A.inr _<|A.inr _<|A.ret _ (x9.2.1,()))<|
 A.inl _ (x8.1,x8.2.1,x8.2.2.1,x8.2.2.2.1,x8.q.1,x8.q.2.1,x8.q.2.2.1,x9.2.1,()))<|
 A.inl _ (x8.1,x8.2.1,x8.2.2.1,x8.2.2.2.1,x8.q.1,x8.q.2.1,x8.q.2.2.1,x8.o.1,())) fun x9=>
 A.chk (A.orB (A.au (A.cmp .gtr x9.1 (A.lit 0))) (A.cmp .leq (A.lit 0) (A.arith .sub .i64 x9.1 (A.lit 1))))<|
 A.chk (A.orB (A.au (A.cmp .gtr x9.1 (A.lit 0))) (A.cmp .lss (A.arith .sub .i64 x9.1 (A.lit 1)) (A.len .i64 x9.q.2.2.2.1)))<|
 A.chk (A.orB (A.au (A.cmp .gtr x9.1 (A.lit 0))) (A.cmp .leq (A.lit 0) (A.arith .sub .i64 x9.1 (A.lit 1))))<|
 A.chk (A.orB (A.au (A.cmp .gtr x9.1 (A.lit 0))) (A.cmp .lss (A.arith .sub .i64 x9.1 (A.lit 1)) (A.len .i64 x9.q.2.2.2.1)))<|
 A.chk (A.orB (A.au (A.cmp .gtr x9.1 (A.lit 0))) (A.cmp .leq (A.lit 0) x9.q.2.2.1))<|
 A.chk (A.orB (A.au (A.cmp .gtr x9.1 (A.lit 0))) (A.cmp .lss x9.q.2.2.1 (A.len .i64 x9.q.2.2.2.1)))<|
 A.chk (A.orB (A.au (A.cmp .gtr x9.1 (A.lit 0))) (A.cmp .leq (A.lit 0) x9.q.2.2.1))<|
 A.chk (A.orB (A.au (A.cmp .gtr x9.1 (A.lit 0))) (A.cmp .lss x9.q.2.2.1 (A.len .i64 x9.q.2.2.2.1)))<|
 A.chk (A.orB (A.au (A.cmp .gtr x9.1 (A.lit 0))) (Y9 (A.fI .i64 0 (A.get .i64 x9.q.2.2.2.1 (A.arith .sub .i64 x9.1 (A.lit 1))),A.fI .i64 0 (A.get .i64 x9.q.2.2.2.1 x9.q.2.2.1),())))<|
 A.bL _ (Za (A.fI .i64 0 (A.get .i64 x9.q.2.2.2.1 (A.arith .sub .i64 x9.1 (A.lit 1))),A.fI .i64 0 (A.get .i64 x9.q.2.2.2.1 x9.q.2.2.1),())) fun x10=>
 A.cond (A.ay (A.cmp .gtr x9.1 (A.lit 0)) (A.au x10.1) (A.bl false)) (A.cl ajv ajw (x9.1,x9.2.1,x9.q.2.2.1,x9.q.2.2.2.1,()) fun x11=>
 A.l1 .i x11.1 fun x12=>
 A.l1 .i x12.1 fun x13=>
 A.inl _ (x13.1,x9.2.1,x9.2.2.1,x9.2.2.2.1,x9.q.1,x11.2.1,()))<|
 A.cl ajx ajy (x9.1,x9.2.1,x9.q.2.2.1,x9.q.2.2.2.1,()) fun x11=>
 A.l1 .i x11.1 fun x12=>
 A.l1 .b x11.2.1 fun x13=>
 A.l1 .b x13.1 fun x14=>
 A.l1 .i (A.arith .sub .i64 x12.1 x9.1) fun x15=>
 A.l1 .i (A.arith .sub .i64 x9.2.1 x12.1) fun x16=>
 A.chk (A.cmp .neq (A.lit 8) (A.lit 0))<|
 A.l1 .i (A.arith .quo .i64 x9.q.2.1 (A.lit 8)) fun x17=>
 A.bind [.i,.i,.i,.b,.b,.l .i64] (A.cond (A.cmp .lss x15.1 x16.1) (A.l1 .b (A.cmp .geq x15.1 x17.1) fun x18=>
 A.cl Mf Mg (x9.1,x12.1,x9.2.2.1,x11.2.2.1,()) fun x19=>
 A.l1 .i (A.arith .add .i64 x12.1 (A.lit 1)) fun x20=>
 A.ret _ (x20.1,x9.2.1,x9.2.2.1,x18.1,x14.1,x19.1,()))<|
 A.l1 .b (A.cmp .geq x16.1 x17.1) fun x18=>
 A.cl Mf Mg (A.arith .add .i64 x12.1 (A.lit 1),x9.2.1,x9.2.2.1,x11.2.2.1,()) fun x19=>
 A.l1 .i x12.1 fun x20=>
 A.ret _ (x9.1,x20.1,x9.2.2.1,x18.1,x14.1,x19.1,())) fun x18=>
 A.inl _ (x18.1,x18.2.1,x18.2.2.1,x18.2.2.2.1,x18.q.1,x18.q.2.1,())) fun x3=>
 A.inl _ (x3.1,x3.2.1,x3.2.2.1,x3.2.2.2.1,x3.q.1,x3.q.2.1,())) (x.1,x.2.1,x.2.2.1,x0.1,x1.1,x.2.2.2.1,())
def Ja (A:Alg) (Mf:Pt A oh) (Mg:Ft A oh) (anr:Pt A Vt) (ant:Ft A Vt) (x:Tup A.ah [.l .i64]):Ot A CS:=
 A.l1 .i (A.len .i64 x.1) fun x0=>
 A.cl anr ant (A.conv .u64 x0.1,()) fun x1=>
 A.cl Mf Mg (A.lit 0,x0.1,x1.1,x.1,()) fun x2=>
 A.ret _ (x2.1,())
def QB (A:Alg) (mO:Pt A jl) (mP:Ft A jl) (IL:Pt A vO) (IQ:Ft A vO) (Zu:Pt A Av) (Zv:Ft A Av) (anu:Pt A Kw) (anv:Ft A Kw) (ajz:Pt A CS) (ajA:Ft A CS) (x:Tup A.ah [.x .poly,.x .poly]):Ot A Aw:=
 A.l1 .b (A.bl false) fun x0=>
 A.cl mO mP (x.1,()) fun x1=>
 A.chk (A.orB (A.au (A.au (A.au x1.1))) (mO (x.2.1,())))<|
 A.bL _ (mP (x.2.1,())) fun x2=>
 A.cond (A.ay (A.au x1.1) (A.bl true) (A.au x2.1)) (A.l1 .b (A.bl false) fun x3=>
 A.ret _ (x3.1,A.bC .mono,()))<|
 A.iter [.l .mono,.i,.i,.x .poly,.l .mono] (fun x3=>
 A.cond (A.cmp .lss x3.2.2.1 x3.2.1) (A.bd .mono x3.1 x3.2.2.1<|
 A.l1 (.x .mono) (A.get .mono x3.1 x3.2.2.1) fun x4=>
 A.iter [.l .mono,.i,.i,.l .mono,.i,.i,.x .poly,.l .mono,.x .mono] (fun x5=>
 A.cond (A.cmp .lss x5.q.2.1 x5.q.1) (A.bd .mono x5.2.2.2.1 x5.q.2.1<|
 A.l1 (.x .mono) (A.get .mono x5.2.2.2.1 x5.q.2.1) fun x6=>
 A.l1 (.l .ints) (A.lst .ints [A.mkX .ints (A.fL .mono 1 .i64 x5.o.1,()),A.mkX .ints (A.fL .mono 1 .i64 x6.1,())]) fun x7=>
 A.cl anu anv (x7.1,()) fun x8=>
 A.cl ajz ajA (x8.1,()) fun x9=>
 A.cl IL IQ (A.arith .mul .i64 (A.fI .mono 0 x5.o.1) (A.fI .mono 0 x6.1),()) fun x10=>
 A.l1 (.l .mono) (A.lst .mono [A.mkX .mono (x10.1,x9.1,())]) fun x11=>
 A.chk (A.cmp .leq (A.addN (A.len .mono x5.q.2.2.2.1) (A.len .mono x11.1)) (A.lit 1073741824))<|
 A.l1 (.l .mono) (A.app .mono x5.q.2.2.2.1 x11.1) fun x12=>
 A.inl _ (x5.1,x5.2.1,x5.2.2.1,x5.2.2.2.1,x5.q.1,A.arith .add .i64 x5.q.2.1 (A.lit 1),x5.q.2.2.1,x12.1,x5.o.1,()))<|
 A.inr _<|A.inl _ (x5.1,x5.2.1,A.arith .add .i64 x5.2.2.1 (A.lit 1),x5.q.2.2.1,x5.q.2.2.2.1,())) (x3.1,x3.2.1,x3.2.2.1,A.fL .poly 0 .mono x3.2.2.2.1,A.len .mono (A.fL .poly 0 .mono x3.2.2.2.1),A.lit 0,x3.2.2.2.1,x3.q.1,x4.1,()))<|
 A.inr _<|A.cl Zu Zv (x3.q.1,()) fun x4=>
 A.l1 .b x4.1 fun x5=>
 A.ret _ (x5.1,x4.2.2.1,())) (A.fL .poly 0 .mono x.1,A.len .mono (A.fL .poly 0 .mono x.1),A.lit 0,x.2.1,A.bC .mono,())
def QC (A:Alg) (mO:Pt A jl) (mP:Ft A jl) (QD:Pt A vN) (QE:Ft A vN) (sV:Pt A jJ) (sW:Ft A jJ) (Zw:Pt A Aw) (Zx:Ft A Aw) (x:Tup A.ah [.x .poly,.i]):Ot A Ky:=
 A.cl mO mP (x.1,()) fun x0=>
 A.chk (A.orB (A.au (A.au (A.au x0.1))) (sV (x.2.1,())))<|
 A.bL _ (sW (x.2.1,())) fun x1=>
 A.cond (A.ay (A.au x0.1) (A.bl true) (A.au x1.1)) (A.ret _ (A.bC .mono,()))<|
 A.cl QD QE (x.2.1,()) fun x2=>
 A.cl Zw Zx (x.1,A.mkX .poly (x2.1,()),()) fun x3=>
 A.l1 .b x3.1 fun x4=>
 A.ret _ (x3.2.1,())
def QF (A:Alg) (DX:Pt A vM) (DY:Ft A vM) (QD:Pt A vN) (QE:Ft A vN) (anw:Pt A Kt) (anx:Ft A Kt) (afA:Pt A Kv) (afB:Ft A Kv) (Zw:Pt A Aw) (Zx:Ft A Aw) (anz:Pt A Ky) (anA:Ft A Ky) (PW:Pt A Ae) (PX:Ft A Ae) (x:Tup A.ah [.i,.x .poly,.x .poly]):Ot A Kz:=
 A.l1 .b (A.bl false) fun x0=>
 A.l1 .b (A.cmp .eql x.1 (A.lit 1)) fun x1=>
 A.cond x1.1 (A.cl afA afB (x.2.1,x.2.2.1,()) fun x2=>
 A.l1 .b x2.1 fun x3=>
 A.ret _ (A.mkX .poly (x2.2.1,()),x3.1,()))<|
 A.l1 .b (A.cmp .eql x.1 (A.lit 2)) fun x2=>
 A.cond x2.1 (A.cl anz anA (x.2.2.1,A.lit 65535,()) fun x3=>
 A.cl afA afB (x.2.1,A.mkX .poly (x3.1,()),()) fun x4=>
 A.l1 .b x4.1 fun x5=>
 A.ret _ (A.mkX .poly (x4.2.1,()),x5.1,()))<|
 A.l1 .b (A.cmp .eql x.1 (A.lit 3)) fun x3=>
 A.cond x3.1 (A.cl Zw Zx (x.2.1,x.2.2.1,()) fun x4=>
 A.l1 .b x4.1 fun x5=>
 A.ret _ (A.mkX .poly (x4.2.1,()),x5.1,()))<|
 A.cl PW PX (x.2.1,()) fun x4=>
 A.l1 .i x4.1 fun x5=>
 A.l1 .b x4.2.1 fun x6=>
 A.cl PW PX (x.2.2.1,()) fun x7=>
 A.l1 .i x7.1 fun x8=>
 A.l1 .b x7.2.1 fun x9=>
 A.l1 .b (A.ay x6.1 x9.1 (A.bl false)) fun x10=>
 A.cond x10.1 (A.cl anw anx (x.1,x5.1,x8.1,()) fun x11=>
 A.cl QD QE (x11.1,()) fun x12=>
 A.l1 .b (A.bl true) fun x13=>
 A.ret _ (A.mkX .poly (x12.1,()),x13.1,()))<|
 A.cl DX DY (x.2.1,x.2.2.1,()) fun x11=>
 A.l1 .b (A.ay x11.1 (A.cmp .eql x.1 (A.lit 4)) (A.bl false)) fun x12=>
 A.cond x12.1 (A.l1 (.x .poly) x.2.1 fun x13=>
 A.l1 .b (A.bl true) fun x14=>
 A.ret _ (x13.1,x14.1,()))<|
 A.cl DX DY (x.2.1,x.2.2.1,()) fun x13=>
 A.l1 .b x13.1 fun x14=>
 A.cond x14.1 (A.l1 .b (A.bl true) fun x15=>
 A.ret _ (A.mkX .poly (A.bC .mono,()),x15.1,()))<|
 A.bind [.i,.i,.b,.x .poly] (A.cond x6.1 (A.l1 (.x .poly) x.2.2.1 fun x15=>
 A.l1 .i x5.1 fun x16=>
 A.l1 .b (A.bl true) fun x17=>
 A.ret _ (x.1,x16.1,x17.1,x15.1,()))<|
 A.ret _ (x.1,x8.1,x9.1,x.2.1,())) fun x15=>
 A.l1 .b (A.ay (A.ay x15.2.2.1 (A.cmp .eql x15.1 (A.lit 4)) (A.bl false)) (A.cmp .eql x15.2.1 (A.lit 0)) (A.bl false)) fun x16=>
 A.cond x16.1 (A.l1 .b (A.bl true) fun x17=>
 A.ret _ (A.mkX .poly (A.bC .mono,()),x17.1,()))<|
 A.l1 .b (A.ay x15.2.2.1 (A.ay (A.ay (A.cmp .eql x15.1 (A.lit 4)) (A.cmp .eql x15.2.1 (A.lit 65535)) (A.bl false)) (A.bl true) (A.ay (A.cmp .eql x15.1 (A.lit 5)) (A.cmp .eql x15.2.1 (A.lit 0)) (A.bl false))) (A.bl false)) fun x17=>
 A.cond x17.1 (A.l1 (.x .poly) x15.2.2.2.1 fun x18=>
 A.l1 .b (A.bl true) fun x19=>
 A.ret _ (x18.1,x19.1,()))<|
 A.l1 .b (A.bl false) fun x18=>
 A.ret _ (A.mkX .poly (A.bC .mono,()),x18.1,())
def QG (A:Alg) (PL:Pt A vK) (PN:Ft A vK) (anB:Pt A Kz) (anC:Ft A Kz) (Zp:Pt A Ap) (Zq:Ft A Ap) (Zn:Pt A Aq) (Zo:Ft A Aq) (x:Tup A.ah [.x .tab,.i,.x .poly,.x .poly]):Ot A KA:=
 A.l1 .b (A.bl false) fun x0=>
 A.cl anB anC (x.2.1,x.2.2.1,x.2.2.2.1,()) fun x1=>
 A.l1 (.x .poly) x1.1 fun x2=>
 A.l1 .b x1.2.1 fun x3=>
 A.cond x3.1 (A.l1 (.x .tab) x.1 fun x4=>
 A.l1 (.x .poly) x2.1 fun x5=>
 A.l1 .b (A.bl true) fun x6=>
 A.ret _ (x4.1,x5.1,x6.1,()))<|
 A.chk (A.orB (A.au (A.cmp .neq x.2.1 (A.lit 2))) (PL (x.2.2.1,x.2.2.2.1,())))<|
 A.bL _ (PN (x.2.2.1,x.2.2.2.1,())) fun x4=>
 A.bind [.i,.x .tab,.x .poly,.x .poly] (A.cond (A.ay (A.cmp .neq x.2.1 (A.lit 2)) (A.cmp .gtr x4.1 (A.lit 0)) (A.bl false)) (A.l1 (.x .poly) x.2.2.2.1 fun x5=>
 A.l1 (.x .poly) x.2.2.1 fun x6=>
 A.ret _ (x.2.1,x.1,x5.1,x6.1,()))<|
 A.ret _ (x.2.1,x.1,x.2.2.1,x.2.2.2.1,())) fun x5=>
 A.cl Zp Zq (x5.2.1,A.mkX .atom (A.lit 4,x5.1,A.fL .poly 0 .mono x5.2.2.1,A.fL .poly 0 .mono x5.2.2.2.1,()),()) fun x6=>
 A.l1 (.x .tab) x6.1 fun x7=>
 A.l1 .i x6.2.1 fun x8=>
 A.cond (A.cmp .lss x8.1 (A.lit 0)) (A.l1 .b (A.bl false) fun x9=>
 A.ret _ (A.mkX .tab (A.bC .atom,()),A.mkX .poly (A.bC .mono,()),x9.1,()))<|
 A.cl Zn Zo (x8.1,()) fun x9=>
 A.l1 (.x .tab) x7.1 fun x10=>
 A.l1 .b (A.bl true) fun x11=>
 A.ret _ (x10.1,A.mkX .poly (x9.1,()),x11.1,())
def QH (A:Alg) (Ay:Pt A vL) (Az:Ft A vL) (x:Tup A.ah [.x .tab]):Ot A KC:=
 A.iter [.l .atom,.i,.i,.l .atom] (fun x0=>
 A.cond (A.cmp .lss x0.2.2.1 x0.2.1) (A.bd .atom x0.1 x0.2.2.1<|
 A.l1 (.x .atom) (A.get .atom x0.1 x0.2.2.1) fun x1=>
 A.cl Ay Az (A.mkX .poly (A.fL .atom 2 .mono x1.1,()),()) fun x2=>
 A.cl Ay Az (A.mkX .poly (A.fL .atom 3 .mono x1.1,()),()) fun x3=>
 A.l1 (.l .atom) (A.lst .atom [A.mkX .atom (A.fI .atom 0 x1.1,A.fI .atom 1 x1.1,x2.1,x3.1,())]) fun x4=>
 A.chk (A.cmp .leq (A.addN (A.len .atom x0.2.2.2.1) (A.len .atom x4.1)) (A.lit 1073741824))<|
 A.l1 (.l .atom) (A.app .atom x0.2.2.2.1 x4.1) fun x5=>
 A.inl _ (x0.1,x0.2.1,A.arith .add .i64 x0.2.2.1 (A.lit 1),x5.1,()))<|
 A.inr _<|A.ret _ (x0.2.2.2.1,())) (A.fL .tab 0 .atom x.1,A.len .atom (A.fL .tab 0 .atom x.1),A.lit 0,A.bC .atom,())
def QI (A:Alg) (Zl:Pt A Ao) (Zm:Ft A Ao) (anD:Pt A Km) (anE:Ft A Km) (anF:Pt A Kq) (anG:Ft A Kq) (Zj:Pt A Al) (Zk:Ft A Al) (QD:Pt A vN) (QE:Ft A vN) (anH:Pt A Ke) (anI:Ft A Ke) (Zy:Pt A Ak) (Zz:Ft A Ak) (anJ:Pt A KC) (anK:Ft A KC) (anL:Pt A KA) (anM:Ft A KA) (Vy:Pt A Ar) (Vz:Ft A Ar) (anN:Pt A Ko) (anO:Ft A Ko) (anP:Pt A Kr) (anQ:Ft A Kr) (x:Tup A.ah [.x .tab,.x .blk]):Ot A KD:=
 A.cl Zy Zz (x.1,()) fun x0=>
 A.chk (A.orB (A.au (A.au (A.ay (A.au x0.1) (A.bl true) (A.cmp .gtr (A.len .atom (A.fL .tab 0 .atom x.1)) (A.lit 100))))) (anD (x.2.1,())))<|
 A.bL _ (anE (x.2.1,())) fun x1=>
 A.cond (A.ay (A.ay (A.au x0.1) (A.bl true) (A.cmp .gtr (A.len .atom (A.fL .tab 0 .atom x.1)) (A.lit 100))) (A.bl true) (A.au x1.1)) (A.ret _ (A.mkX .tab (A.bC .atom,()),A.mkX .sym (A.bC .ev,A.bC .poly,A.lit 0,A.bC .mono,A.bC .mono,A.lit 0,()),()))<|
 A.cl anN anO (A.fL .tab 0 .atom x.1,A.bl false,()) fun x2=>
 A.chk (A.cmp .eql (A.len .iop (A.fL .blk 2 .iop x.2.1)) (A.len .iop (A.fL .blk 2 .iop x.2.1)))<|
 A.chk (A.cmp .leq (A.lit 0) (A.len .iop (A.fL .blk 2 .iop x.2.1)))<|
 A.chk (A.cmp .leq (A.len .iop (A.fL .blk 2 .iop x.2.1)) (A.lit 1073741824))<|
 A.l1 (.l .poly) (A.rep .poly (A.len .iop (A.fL .blk 2 .iop x.2.1)) (A.mkX .poly (A.bC .mono,()))) fun x3=>
 A.l1 .i (A.lit 0) fun x4=>
 A.l1 .i (A.lit 0) fun x5=>
 A.iter [.i,.i,.l .iop,.i,.i,.x .blk,.i,.i,.l .atom,.b,.i,.i,.l .poly,.l .ev,.l .poly] (fun x6=>
 A.cond (A.cmp .lss x6.q.1 x6.2.2.2.1) (A.bd .iop x6.2.2.1 x6.q.1<|
 A.l1 .i x6.q.1 fun x7=>
 A.l1 (.x .iop) (A.get .iop x6.2.2.1 x6.q.1) fun x8=>
 A.cl Zj Zk (x8.1,()) fun x9=>
 A.l1 .b x9.1 fun x10=>
 A.l1 .b x9.2.1 fun x11=>
 A.l1 .b x9.2.2.1 fun x12=>
 A.l1 .b x9.2.2.2.1 fun x13=>
 A.bind [.i,.i,.i,.b,.l .iop,.i,.i,.x .blk,.i,.i,.l .atom,.b,.i,.i,.l .poly,.x .iop,.x .poly,.l .ev,.l .poly] (A.cond x10.1 (A.bd .poly x6.o.q.1 (A.fI .iop 1 x8.1)<|
 A.bd .poly x6.o.q.1 (A.fI .iop 1 x8.1)<|
 A.l1 (.x .poly) (A.get .poly x6.o.q.1 (A.fI .iop 1 x8.1)) fun x14=>
 A.ret _ (x6.1,x6.2.1,x7.1,x11.1,x6.2.2.1,x6.2.2.2.1,x6.q.1,x6.q.2.1,x6.q.2.2.1,x6.q.2.2.2.1,x6.o.1,x6.o.2.1,x6.o.2.2.1,x6.o.2.2.2.1,x6.o.q.1,x8.1,x14.1,x6.o.q.2.1,x6.o.q.2.2.1,()))<|
 A.ret _ (x6.1,x6.2.1,x7.1,x11.1,x6.2.2.1,x6.2.2.2.1,x6.q.1,x6.q.2.1,x6.q.2.2.1,x6.q.2.2.2.1,x6.o.1,x6.o.2.1,x6.o.2.2.1,x6.o.2.2.2.1,x6.o.q.1,x8.1,A.mkX .poly (A.bC .mono,()),x6.o.q.2.1,x6.o.q.2.2.1,())) fun x14=>
 A.bind [.i,.i,.i,.l .iop,.i,.i,.x .blk,.i,.i,.l .atom,.b,.i,.i,.l .poly,.x .iop,.x .poly,.x .poly,.l .ev,.l .poly] (A.cond x14.2.2.2.1 (A.bd .poly x14.o.q.2.2.1 (A.fI .iop 2 x14.o.q.2.2.2.1)<|
 A.bd .poly x14.o.q.2.2.1 (A.fI .iop 2 x14.o.q.2.2.2.1)<|
 A.l1 (.x .poly) (A.get .poly x14.o.q.2.2.1 (A.fI .iop 2 x14.o.q.2.2.2.1)) fun x15=>
 A.ret _ (x14.1,x14.2.1,x14.2.2.1,x14.q.1,x14.q.2.1,x14.q.2.2.1,x14.q.2.2.2.1,x14.o.1,x14.o.2.1,x14.o.2.2.1,x14.o.2.2.2.1,x14.o.q.1,x14.o.q.2.1,x14.o.q.2.2.1,x14.o.q.2.2.2.1,x14.o.o.1,x15.1,x14.o.o.2.1,x14.o.o.2.2.1,()))<|
 A.ret _ (x14.1,x14.2.1,x14.2.2.1,x14.q.1,x14.q.2.1,x14.q.2.2.1,x14.q.2.2.2.1,x14.o.1,x14.o.2.1,x14.o.2.2.1,x14.o.2.2.2.1,x14.o.q.1,x14.o.q.2.1,x14.o.q.2.2.1,x14.o.q.2.2.2.1,x14.o.o.1,A.mkX .poly (A.bC .mono,()),x14.o.o.2.1,x14.o.o.2.2.1,())) fun x15=>
 A.cl anF anG (x15.o.q.2.2.1,()) fun x16=>
 A.bind [.i,.i,.i,.l .iop,.i,.i,.x .blk,.i,.i,.l .atom,.b,.i,.i,.l .poly,.x .iop,.x .poly,.x .poly,.l .ev,.l .poly] (A.cond x16.1 (A.bind [.i,.i,.i,.l .iop,.i,.i,.x .blk,.i,.i,.l .atom,.b,.i,.i,.l .poly,.x .iop,.x .poly,.x .poly,.i,.i,.l .mono,.l .mono,.l .ev,.l .poly,.l .poly] (A.cond (A.ay (A.cmp .eql (A.fI .iop 0 x15.o.q.2.2.1) (A.lit 4)) (A.bl true) (A.cmp .eql (A.fI .iop 0 x15.o.q.2.2.1) (A.lit 5))) (A.cl anP anQ (x15.o.o.2.2.1,()) fun x17=>
 A.ret _ (x15.1,x15.2.1,x15.2.2.1,x15.2.2.2.1,x15.q.1,x15.q.2.1,x15.q.2.2.1,x15.q.2.2.2.1,x15.o.1,x15.o.2.1,x15.o.2.2.1,x15.o.2.2.2.1,x15.o.q.1,x15.o.q.2.1,x15.o.q.2.2.1,x15.o.q.2.2.2.1,x15.o.o.1,A.fI .iop 0 x15.o.q.2.2.1,A.fI .iop 4 x15.o.q.2.2.1,A.fL .poly 0 .mono x15.o.q.2.2.2.1,A.fL .poly 0 .mono x15.o.o.1,x15.o.o.2.1,x17.1,x17.2.1,()))<|
 A.ret _ (x15.1,x15.2.1,x15.2.2.1,x15.2.2.2.1,x15.q.1,x15.q.2.1,x15.q.2.2.1,x15.q.2.2.2.1,x15.o.1,x15.o.2.1,x15.o.2.2.1,x15.o.2.2.2.1,x15.o.q.1,x15.o.q.2.1,x15.o.q.2.2.1,x15.o.q.2.2.2.1,x15.o.o.1,A.fI .iop 0 x15.o.q.2.2.1,A.fI .iop 4 x15.o.q.2.2.1,A.fL .poly 0 .mono x15.o.q.2.2.2.1,A.fL .poly 0 .mono x15.o.o.1,x15.o.o.2.1,x15.o.o.2.2.1,A.bC .poly,())) fun x17=>
 A.l1 (.l .ev) (A.lst .ev [A.mkX .ev (x17.o.o.2.1,x17.o.o.2.2.1,x17.o.o.2.2.2.1,x17.o.o.q.1,x17.o.o.q.2.2.2.1,())]) fun x18=>
 A.chk (A.cmp .leq (A.addN (A.len .ev x17.o.o.q.2.1) (A.len .ev x18.1)) (A.lit 1073741824))<|
 A.l1 (.l .ev) (A.app .ev x17.o.o.q.2.1 x18.1) fun x19=>
 A.ret _ (x17.1,x17.2.1,x17.2.2.1,x17.2.2.2.1,x17.q.1,x17.q.2.1,x17.q.2.2.1,x17.q.2.2.2.1,x17.o.1,x17.o.2.1,x17.o.2.2.1,x17.o.2.2.2.1,x17.o.q.1,x17.o.q.2.1,x17.o.q.2.2.1,x17.o.q.2.2.2.1,x17.o.o.1,x19.1,x17.o.o.q.2.2.1,()))<|
 A.ret _ (x15.1,x15.2.1,x15.2.2.1,x15.2.2.2.1,x15.q.1,x15.q.2.1,x15.q.2.2.1,x15.q.2.2.2.1,x15.o.1,x15.o.2.1,x15.o.2.2.1,x15.o.2.2.2.1,x15.o.q.1,x15.o.q.2.1,x15.o.q.2.2.1,x15.o.q.2.2.2.1,x15.o.o.1,x15.o.o.2.1,x15.o.o.2.2.1,())) fun x17=>
 A.l1 .b (A.cmp .eql (A.fI .iop 0 x17.o.q.2.2.1) (A.lit 1)) fun x18=>
 A.kJ [.i,.i,.l .iop,.i,.i,.x .blk,.i,.i,.l .atom,.b,.i,.i,.l .poly,.l .ev,.l .poly] (A.cond x18.1 (A.cl QD QE (A.fI .iop 3 x17.o.q.2.2.1,()) fun x19=>
 A.bd .poly x17.o.q.2.1 x17.2.2.1<|
 A.bd .poly x17.o.q.2.1 x17.2.2.1<|
 A.inl _ (x17.1,x17.2.1,x17.2.2.2.1,x17.q.1,x17.q.2.1,x17.q.2.2.1,x17.q.2.2.2.1,x17.o.1,x17.o.2.1,x17.o.2.2.1,x17.o.2.2.2.1,x17.o.q.1,A.set .poly x17.o.q.2.1 x17.2.2.1 (A.mkX .poly (x19.1,())),x17.o.o.2.1,x17.o.o.2.2.1,()))<|
 A.l1 .b (A.cmp .eql (A.fI .iop 0 x17.o.q.2.2.1) (A.lit 2)) fun x19=>
 A.kJ [.i,.i,.l .iop,.i,.i,.x .blk,.i,.i,.l .atom,.b,.i,.i,.l .poly,.l .ev,.l .poly] (A.cond x19.1 (A.bd .poly x17.o.o.2.2.1 (A.fI .iop 3 x17.o.q.2.2.1)<|
 A.bd .poly x17.o.o.2.2.1 (A.fI .iop 3 x17.o.q.2.2.1)<|
 A.bd .poly x17.o.q.2.1 x17.2.2.1<|
 A.bd .poly x17.o.q.2.1 x17.2.2.1<|
 A.l1 (.x .poly) (A.get .poly x17.o.o.2.2.1 (A.fI .iop 3 x17.o.q.2.2.1)) fun x20=>
 A.inl _ (x17.1,x17.2.1,x17.2.2.2.1,x17.q.1,x17.q.2.1,x17.q.2.2.1,x17.q.2.2.2.1,x17.o.1,x17.o.2.1,x17.o.2.2.1,x17.o.2.2.2.1,x17.o.q.1,A.set .poly x17.o.q.2.1 x17.2.2.1 x20.1,x17.o.o.2.1,x17.o.o.2.2.1,()))<|
 A.l1 .b (A.cmp .eql (A.fI .iop 0 x17.o.q.2.2.1) (A.lit 3)) fun x20=>
 A.kJ [.i,.i,.l .iop,.i,.i,.x .blk,.i,.i,.l .atom,.b,.i,.i,.l .poly,.l .ev,.l .poly] (A.cond x20.1 (A.cl anL anM (A.mkX .tab (x17.o.2.1,()),A.fI .iop 3 x17.o.q.2.2.1,x17.o.q.2.2.2.1,x17.o.o.1,()) fun x21=>
 A.l1 (.x .tab) x21.1 fun x22=>
 A.l1 (.x .poly) x21.2.1 fun x23=>
 A.l1 .b x21.2.2.1 fun x24=>
 A.cond (A.au x24.1) (A.inr _<|A.inr _<|A.inr _<|A.inr _<|A.ret _ (A.mkX .tab (A.bC .atom,()),A.mkX .sym (A.bC .ev,A.bC .poly,A.lit 0,A.bC .mono,A.bC .mono,A.lit 0,()),()))<|
 A.l1 (.x .tab) x22.1 fun x25=>
 A.bd .poly x17.o.q.2.1 x17.2.2.1<|
 A.bd .poly x17.o.q.2.1 x17.2.2.1<|
 A.l1 (.x .poly) x23.1 fun x26=>
 A.inl _ (x17.1,x17.2.1,x17.2.2.2.1,x17.q.1,x17.q.2.1,x17.q.2.2.1,x17.q.2.2.2.1,x17.o.1,A.fL .tab 0 .atom x25.1,x17.o.2.2.1,x17.o.2.2.2.1,x17.o.q.1,A.set .poly x17.o.q.2.1 x17.2.2.1 x26.1,x17.o.o.2.1,x17.o.o.2.2.1,()))<|
 A.l1 .b (A.cmp .eql (A.fI .iop 0 x17.o.q.2.2.1) (A.lit 4)) fun x21=>
 A.bind [.i,.i,.l .iop,.i,.i,.x .blk,.i,.i,.l .atom,.b,.i,.i,.l .poly,.l .ev,.l .poly] (A.cond x21.1 (A.cl Vy Vz (A.lit 2,x17.1,x17.o.2.1,x17.o.2.2.1,()) fun x22=>
 A.bd .poly x17.o.q.2.1 x17.2.2.1<|
 A.bd .poly x17.o.q.2.1 x17.2.2.1<|
 A.l1 (.x .poly) x22.1 fun x23=>
 A.l1 .i (A.arith .add .i64 x17.1 (A.lit 1)) fun x24=>
 A.ret _ (x24.1,x17.2.1,x17.2.2.2.1,x17.q.1,x17.q.2.1,x17.q.2.2.1,x17.q.2.2.2.1,x17.o.1,x22.2.1,x22.2.2.1,x17.o.2.2.2.1,x17.o.q.1,A.set .poly x17.o.q.2.1 x17.2.2.1 x23.1,x17.o.o.2.1,x17.o.o.2.2.1,()))<|
 A.l1 .b (A.cmp .eql (A.fI .iop 0 x17.o.q.2.2.1) (A.lit 6)) fun x22=>
 A.bind [.i,.i,.l .iop,.i,.i,.x .blk,.i,.i,.l .atom,.b,.i,.i,.l .poly,.l .ev,.l .poly] (A.cond x22.1 (A.cl Vy Vz (A.lit 3,x17.2.1,x17.o.2.1,x17.o.2.2.1,()) fun x23=>
 A.bd .poly x17.o.q.2.1 x17.2.2.1<|
 A.bd .poly x17.o.q.2.1 x17.2.2.1<|
 A.l1 (.x .poly) x23.1 fun x24=>
 A.l1 .i (A.arith .add .i64 x17.2.1 (A.lit 1)) fun x25=>
 A.ret _ (x17.1,x25.1,x17.2.2.2.1,x17.q.1,x17.q.2.1,x17.q.2.2.1,x17.q.2.2.2.1,x17.o.1,x23.2.1,x23.2.2.1,x17.o.2.2.2.1,x17.o.q.1,A.set .poly x17.o.q.2.1 x17.2.2.1 x24.1,x17.o.o.2.1,x17.o.o.2.2.1,()))<|
 A.l1 .b (A.cmp .eql (A.fI .iop 0 x17.o.q.2.2.1) (A.lit 8)) fun x23=>
 A.bind [.i,.i,.l .iop,.i,.i,.x .blk,.i,.i,.l .atom,.b,.i,.i,.l .poly,.l .ev,.l .poly] (A.cond x23.1 (A.bd .poly x17.o.o.2.2.1 (A.fI .iop 3 x17.o.q.2.2.1)<|
 A.bd .poly x17.o.o.2.2.1 (A.fI .iop 3 x17.o.q.2.2.1)<|
 A.l1 (.x .poly) x17.o.q.2.2.2.1 fun x24=>
 A.ret _ (x17.1,x17.2.1,x17.2.2.2.1,x17.q.1,x17.q.2.1,x17.q.2.2.1,x17.q.2.2.2.1,x17.o.1,x17.o.2.1,x17.o.2.2.1,x17.o.2.2.2.1,x17.o.q.1,x17.o.q.2.1,x17.o.o.2.1,A.set .poly x17.o.o.2.2.1 (A.fI .iop 3 x17.o.q.2.2.1) x24.1,()))<|
 A.ret _ (x17.1,x17.2.1,x17.2.2.2.1,x17.q.1,x17.q.2.1,x17.q.2.2.1,x17.q.2.2.2.1,x17.o.1,x17.o.2.1,x17.o.2.2.1,x17.o.2.2.2.1,x17.o.q.1,x17.o.q.2.1,x17.o.o.2.1,x17.o.o.2.2.1,())) fun x24=>
 A.ret _ (x24.1,x24.2.1,x24.2.2.1,x24.2.2.2.1,x24.q.1,x24.q.2.1,x24.q.2.2.1,x24.q.2.2.2.1,x24.o.1,x24.o.2.1,x24.o.2.2.1,x24.o.2.2.2.1,x24.o.q.1,x24.o.q.2.1,x24.o.q.2.2.1,())) fun x23=>
 A.ret _ (x23.1,x23.2.1,x23.2.2.1,x23.2.2.2.1,x23.q.1,x23.q.2.1,x23.q.2.2.1,x23.q.2.2.2.1,x23.o.1,x23.o.2.1,x23.o.2.2.1,x23.o.2.2.2.1,x23.o.q.1,x23.o.q.2.1,x23.o.q.2.2.1,())) fun x22=>
 A.inl _ (x22.1,x22.2.1,x22.2.2.1,x22.2.2.2.1,x22.q.1,x22.q.2.1,x22.q.2.2.1,x22.q.2.2.2.1,x22.o.1,x22.o.2.1,x22.o.2.2.1,x22.o.2.2.2.1,x22.o.q.1,x22.o.q.2.1,x22.o.q.2.2.1,())) fun x21=>
 A.inl _ (x21.1,x21.2.1,x21.2.2.1,x21.2.2.2.1,x21.q.1,x21.q.2.1,x21.q.2.2.1,x21.q.2.2.2.1,x21.o.1,x21.o.2.1,x21.o.2.2.1,x21.o.2.2.2.1,x21.o.q.1,x21.o.q.2.1,x21.o.q.2.2.1,())) fun x20=>
 A.inl _ (x20.1,x20.2.1,x20.2.2.1,x20.2.2.2.1,x20.q.1,x20.q.2.1,x20.q.2.2.1,x20.q.2.2.2.1,x20.o.1,x20.o.2.1,x20.o.2.2.1,x20.o.2.2.2.1,x20.o.q.1,x20.o.q.2.1,x20.o.q.2.2.1,())) fun x19=>
 A.inl _ (x19.1,x19.2.1,x19.2.2.1,x19.2.2.2.1,A.arith .add .i64 x19.q.1 (A.lit 1),x19.q.2.1,x19.q.2.2.1,x19.q.2.2.2.1,x19.o.1,x19.o.2.1,x19.o.2.2.1,x19.o.2.2.2.1,x19.o.q.1,x19.o.q.2.1,x19.o.q.2.2.1,()))<|
 A.inr _<|A.cl Zl Zm (x6.q.2.1,()) fun x7=>
 A.l1 .b x7.1 fun x8=>
 A.l1 .b x7.2.1 fun x9=>
 A.l1 .b x7.2.2.1 fun x10=>
 A.bind [.b,.x .blk,.i,.i,.l .atom,.b,.i,.l .mono,.i,.l .poly,.l .ev,.l .poly] (A.cond x8.1 (A.bd .poly x6.o.q.1 (A.fI .blk 4 x6.q.2.1)<|
 A.bd .poly x6.o.q.1 (A.fI .blk 4 x6.q.2.1)<|
 A.l1 (.x .poly) (A.get .poly x6.o.q.1 (A.fI .blk 4 x6.q.2.1)) fun x11=>
 A.ret _ (x9.1,x6.q.2.1,x6.q.2.2.1,x6.q.2.2.2.1,x6.o.1,x6.o.2.1,x6.o.2.2.1,A.fL .poly 0 .mono x11.1,x6.o.2.2.2.1,x6.o.q.1,x6.o.q.2.1,x6.o.q.2.2.1,()))<|
 A.ret _ (x9.1,x6.q.2.1,x6.q.2.2.1,x6.q.2.2.2.1,x6.o.1,x6.o.2.1,x6.o.2.2.1,A.bC .mono,x6.o.2.2.2.1,x6.o.q.1,x6.o.q.2.1,x6.o.q.2.2.1,())) fun x11=>
 A.bind [.x .blk,.i,.i,.l .atom,.b,.i,.l .mono,.l .mono,.i,.l .ev,.l .poly] (A.cond x11.1 (A.bd .poly x11.o.2.1 (A.fI .blk 5 x11.2.1)<|
 A.bd .poly x11.o.2.1 (A.fI .blk 5 x11.2.1)<|
 A.l1 (.x .poly) (A.get .poly x11.o.2.1 (A.fI .blk 5 x11.2.1)) fun x12=>
 A.ret _ (x11.2.1,x11.2.2.1,x11.2.2.2.1,x11.q.1,x11.q.2.1,x11.q.2.2.1,x11.q.2.2.2.1,A.fL .poly 0 .mono x12.1,x11.o.1,x11.o.2.2.1,x11.o.2.2.2.1,()))<|
 A.ret _ (x11.2.1,x11.2.2.1,x11.2.2.2.1,x11.q.1,x11.q.2.1,x11.q.2.2.1,x11.q.2.2.2.1,A.bC .mono,x11.o.1,x11.o.2.2.1,x11.o.2.2.2.1,())) fun x12=>
 A.cond x12.q.1 (A.ret _ (A.mkX .tab (A.bC .atom,()),A.mkX .sym (A.bC .ev,A.bC .poly,A.lit 0,A.bC .mono,A.bC .mono,A.lit 0,()),()))<|
 A.cl anJ anK (A.mkX .tab (x12.2.2.2.1,()),()) fun x13=>
 A.cl anH anI (A.mkX .sym (x12.o.2.1,x12.o.2.2.1,x12.q.2.1,x12.q.2.2.1,x12.q.2.2.2.1,x12.o.1,()),A.arith .add .i64 (A.fI .blk 0 x12.1) (A.fI .blk 1 x12.1),()) fun x14=>
 A.l1 (.x .sym) x14.1 fun x15=>
 A.ret _ (A.mkX .tab (x13.1,()),x15.1,())) (x4.1,x5.1,A.fL .blk 2 .iop x.2.1,A.len .iop (A.fL .blk 2 .iop x.2.1),A.lit 0,x.2.1,A.lit 0,A.lit 0,x2.1,x2.2.1,A.fI .blk 3 x.2.1,A.fI .blk 6 x.2.1,x3.1,A.bC .ev,x2.2.2.1,())
def Jb (A:Alg) (jU:Pt A gB) (jV:Ft A gB) (GN:Pt A uF) (GQ:Ft A uF) (x:Tup A.ah [.x .poly,.x .poly,.i]):Ot A CU:=
 A.l1 .b (A.bl false) fun x0=>
 A.cl jU jV (x.1,()) fun x1=>
 A.chk (A.orB (A.au x1.1) (jU (x.2.1,())))<|
 A.bL _ (jV (x.2.1,())) fun x2=>
 A.chk (A.orB (A.au (A.ay x1.1 x2.1 (A.bl false))) (GN (x.1,x.2.2.1,())))<|
 A.bL _ (GQ (x.1,x.2.2.1,())) fun x3=>
 A.chk (A.orB (A.au (A.ay (A.ay x1.1 x2.1 (A.bl false)) x3.1 (A.bl false))) (GN (x.2.1,x.2.2.1,())))<|
 A.bL _ (GQ (x.2.1,x.2.2.1,())) fun x4=>
 A.l1 .b (A.ay (A.ay (A.ay x1.1 x2.1 (A.bl false)) x3.1 (A.bl false)) x4.1 (A.bl false)) fun x5=>
 A.ret _ (x5.1,())
def Jc (A:Alg) (cB:Pt A bS) (cO:Ft A bS) (Td:Pt A uI) (Te:Ft A uI) (ajB:Pt A CU) (ajC:Ft A CU) (ajD:Pt A BM) (ajE:Ft A BM) (Tf:Pt A uK) (Tg:Ft A uK) (x:Tup A.ah [.x .tab,.i,.x .poly,.x .poly]):Ot A CV:=
 A.cl Td Te (x.1,()) fun x0=>
 A.chk (A.orB (A.au (A.au (A.au x0.1))) (cB (x.2.1,A.lit 1,A.lit 5,())))<|
 A.bL _ (cO (x.2.1,A.lit 1,A.lit 5,())) fun x1=>
 A.chk (A.orB (A.au (A.au (A.ay (A.au x0.1) (A.bl true) (A.au x1.1)))) (ajB (x.2.2.1,x.2.2.2.1,A.len .atom (A.fL .tab 0 .atom x.1),())))<|
 A.bL _ (ajC (x.2.2.1,x.2.2.2.1,A.len .atom (A.fL .tab 0 .atom x.1),())) fun x2=>
 A.cond (A.ay (A.ay (A.au x0.1) (A.bl true) (A.au x1.1)) (A.bl true) (A.au x2.1)) (A.ret _ (A.bC .atom,A.bC .mono,()))<|
 A.cl Tf Tg (x.1,()) fun x3=>
 A.cl ajD ajE (x.2.1,x.2.2.1,x.2.2.2.1,x3.1,()) fun x4=>
 A.ret _ (x4.1,x4.2.1,())
def Jd (A:Alg) (Td:Pt A uI) (Te:Ft A uI) (Sr:Pt A uL) (Sv:Ft A uL) (Tf:Pt A uK) (Tg:Ft A uK) (x:Tup A.ah [.x .tab,.x .atom]):Ot A CW:=
 A.l1 .i (A.lit 0) fun x0=>
 A.cl Td Te (x.1,()) fun x1=>
 A.cond (A.au x1.1) (A.l1 .i (A.lit (-1)) fun x2=>
 A.ret _ (x2.1,A.bC .atom,()))<|
 A.cl Tf Tg (x.1,()) fun x2=>
 A.cl Sr Sv (x.2.1,x2.1,()) fun x3=>
 A.l1 .i x3.1 fun x4=>
 A.ret _ (x4.1,x3.2.1,())
def Je (A:Alg) (aO:Pt A cu) (aP:Ft A cu) (ajF:Pt A CV) (ajG:Ft A CV) (ZA:Pt A Bw) (ZB:Ft A Bw) (ajH:Pt A BA) (ajI:Ft A BA) (ajJ:Pt A CW) (ajK:Ft A CW) (x:Tup A.ah [.l .u8,.i]):Ot A CX:=
 A.cl ajH ajI () fun x0=>
 A.cl aO aP (A.lit 7,x.1,x.2.1,()) fun x1=>
 A.l1 .i x1.1 fun x2=>
 A.iter [.i,.l .u8,.i,.l .atom] (fun x3=>
 A.cond (A.cmp .gtr x3.1 (A.lit 0)) (A.l1 .i (A.len .atom x3.2.2.2.1) fun x4=>
 A.cl aO aP (A.lit 5,x3.2.1,x3.2.2.1,()) fun x5=>
 A.cl ZA ZB (x4.1,x5.2.1,x5.2.2.1,()) fun x6=>
 A.cl ZA ZB (x4.1,x6.1,x6.2.1,()) fun x7=>
 A.cl ajF ajG (A.mkX .tab (x3.2.2.2.1,()),A.arith .add .i64 (A.lit 1) x5.1,A.mkX .poly (x6.2.2.1,()),A.mkX .poly (x7.2.2.1,()),()) fun x8=>
 A.l1 .i (A.arith .sub .i64 x3.1 (A.lit 1)) fun x9=>
 A.inl _ (x9.1,x7.1,x7.2.1,x8.1,()))<|
 A.inr _<|A.cl aO aP (A.lit 3,x3.2.1,x3.2.2.1,()) fun x4=>
 A.bind [.l .u8,.i,.l .atom] (A.cond (A.cmp .eql x4.1 (A.lit 0)) (A.cl aO aP (A.lit 2,x4.2.1,x4.2.2.1,()) fun x5=>
 A.bd .i64 (A.lst .i64 [A.mkX .i64 (A.lit 2,()),A.mkX .i64 (A.lit 3,())]) x5.1<|
 A.cl aO aP (A.lit 3,x5.2.1,x5.2.2.1,()) fun x6=>
 A.cl ajJ ajK (A.mkX .tab (x3.2.2.2.1,()),A.mkX .atom (A.fI .i64 0 (A.get .i64 (A.lst .i64 [A.mkX .i64 (A.lit 2,()),A.mkX .i64 (A.lit 3,())]) x5.1),x6.1,A.bC .mono,A.bC .mono,()),()) fun x7=>
 A.l1 .i x7.1 fun x8=>
 A.ret _ (x6.2.1,x6.2.2.1,x7.2.1,()))<|
 A.ret _ (x4.2.1,x4.2.2.1,x3.2.2.2.1,())) fun x5=>
 A.ret _ (x5.1,x5.2.1,x5.2.2.1,())) (x2.1,x1.2.1,x1.2.2.1,x0.1,())
def Jf (A:Alg) (aO:Pt A cu) (aP:Ft A cu) (SY:Pt A um) (S9:Ft A um) (zh:Pt A jR) (zi:Ft A jR) (ajL:Pt A CX) (ajM:Ft A CX) (x:Tup A.ah [.i,.l .u8,.i]):Ot A CY:=
 A.cl ajL ajM (x.2.1,x.2.2.1,()) fun x0=>
 A.cl SY S9 (x.1,x0.1,x0.2.1,()) fun x1=>
 A.kJ [.l .u8,.i,.l .atom] (A.cond x1.1 (A.cl aO aP (A.lit 4,x1.2.1,x1.2.2.1,()) fun x2=>
 A.l1 .b (A.cmp .eql x2.1 (A.lit 0)) fun x3=>
 A.bind [.l .u8,.i,.l .atom] (A.cond x3.1 (A.bd .atom x0.2.2.1 (A.lit 0)<|
 A.bd .atom x0.2.2.1 (A.lit 0)<|
 A.l1 (.l .atom) (A.lst .atom [A.get .atom x0.2.2.1 (A.lit 0)]) fun x4=>
 A.chk (A.cmp .leq (A.addN (A.len .atom x0.2.2.1) (A.len .atom x4.1)) (A.lit 1073741824))<|
 A.l1 (.l .atom) (A.app .atom x0.2.2.1 x4.1) fun x5=>
 A.ret _ (x2.2.1,x2.2.2.1,x5.1,()))<|
 A.l1 .b (A.cmp .eql x2.1 (A.lit 1)) fun x4=>
 A.bind [.l .u8,.i,.l .atom] (A.cond x4.1 (A.cl zh zi (A.lit 50,()) fun x5=>
 A.l1 (.l .atom) (A.lst .atom [A.mkX .atom (A.lit 4,A.lit 4,x5.1,A.bC .mono,())]) fun x6=>
 A.chk (A.cmp .leq (A.addN (A.len .atom x0.2.2.1) (A.len .atom x6.1)) (A.lit 1073741824))<|
 A.l1 (.l .atom) (A.app .atom x0.2.2.1 x6.1) fun x7=>
 A.ret _ (x2.2.1,x2.2.2.1,x7.1,()))<|
 A.l1 .b (A.cmp .eql x2.1 (A.lit 2)) fun x5=>
 A.bind [.l .u8,.i,.l .atom] (A.cond x5.1 (A.cl aO aP (A.lit 3,x2.2.1,x2.2.2.1,()) fun x6=>
 A.bd .i64 (A.lst .i64 [A.mkX .i64 (A.lit 0,()),A.mkX .i64 (A.lit 5,()),A.mkX .i64 (A.lit 2,())]) x6.1<|
 A.bd .atom x0.2.2.1 (A.lit 0)<|
 A.bd .atom x0.2.2.1 (A.lit 0)<|
 A.l1 .i (A.fI .i64 0 (A.get .i64 (A.lst .i64 [A.mkX .i64 (A.lit 0,()),A.mkX .i64 (A.lit 5,()),A.mkX .i64 (A.lit 2,())]) x6.1)) fun x7=>
 A.ret _ (x6.2.1,x6.2.2.1,A.set .atom x0.2.2.1 (A.lit 0) (A.mkX .atom (x7.1,A.fI .atom 1 (A.get .atom x0.2.2.1 (A.lit 0)),A.fL .atom 2 .mono (A.get .atom x0.2.2.1 (A.lit 0)),A.fL .atom 3 .mono (A.get .atom x0.2.2.1 (A.lit 0)),())),()))<|
 A.l1 (.l .atom) (A.lst .atom [A.mkX .atom (A.lit 1,A.lit 9,A.bC .mono,A.bC .mono,())]) fun x6=>
 A.chk (A.cmp .leq (A.addN (A.len .atom x0.2.2.1) (A.len .atom x6.1)) (A.lit 1073741824))<|
 A.l1 (.l .atom) (A.app .atom x0.2.2.1 x6.1) fun x7=>
 A.ret _ (x2.2.1,x2.2.2.1,x7.1,())) fun x6=>
 A.ret _ (x6.1,x6.2.1,x6.2.2.1,())) fun x5=>
 A.ret _ (x5.1,x5.2.1,x5.2.2.1,())) fun x4=>
 A.inl _ (x4.1,x4.2.1,x4.2.2.1,()))<|
 A.inl _ (x1.2.1,x1.2.2.1,x0.2.2.1,())) fun x2=>
 A.ret _ (x2.1,x2.2.1,x2.2.2.1,())
def Jg (A:Alg) (ajN:Pt A Bq) (ajO:Ft A Bq) (ajP:Pt A Cy) (ajQ:Ft A Cy) (ajR:Pt A CY) (ajS:Ft A CY) (x:Tup A.ah [.l .u8]):Ot A CZ:=
 A.cl ajN ajO (x.1,()) fun x0=>
 A.cl ajR ajS (A.lit 20,x0.1,x0.2.1,()) fun x1=>
 A.cl ajP ajQ (A.lit 14,x1.1,x1.2.1,()) fun x2=>
 A.l1 (.x .blk) x2.1 fun x3=>
 A.ret _ (A.mkX .tab (x1.2.2.1,()),x3.1,())
def QJ (A:Alg) (anR:Pt A KD) (anS:Ft A KD) (Zy:Pt A Ak) (Zz:Ft A Ak) (anT:Pt A Kg) (anU:Ft A Kg) (ajT:Pt A CZ) (ajU:Ft A CZ) (x:Tup A.ah [.l .u8]):Ot A YP:=
 A.l1 .b (A.bl false) fun x0=>
 A.cond (A.cmp .gtr (A.len .u8 x.1) (A.lit 1048576)) (A.l1 .b (A.bl true) fun x1=>
 A.ret _ (x1.1,()))<|
 A.cl ajT ajU (x.1,()) fun x1=>
 A.l1 (.x .tab) x1.1 fun x2=>
 A.l1 (.x .blk) x1.2.1 fun x3=>
 A.cl anR anS (x2.1,x3.1,()) fun x4=>
 A.l1 (.x .tab) x4.1 fun x5=>
 A.l1 (.x .sym) x4.2.1 fun x6=>
 A.cond (A.cmp .eql (A.len .atom (A.fL .tab 0 .atom x5.1)) (A.lit 0)) (A.chk (A.orB (A.au (A.cmp .eql (A.len .ev (A.fL .sym 0 .ev x6.1)) (A.lit 0))) (anT ()))<|
 A.bL _ (anU ()) fun x7=>
 A.l1 .b (A.ay (A.cmp .eql (A.len .ev (A.fL .sym 0 .ev x6.1)) (A.lit 0)) x7.1 (A.bl false)) fun x8=>
 A.ret _ (x8.1,()))<|
 A.l1 .i (A.lit 0) fun x7=>
 A.l1 .i (A.lit 0) fun x8=>
 A.iter [.i,.i,.x .blk,.x .tab,.x .sym] (fun x9=>
 A.cond (A.cmp .lss x9.2.1 (A.len .iop (A.fL .blk 2 .iop x9.2.2.1))) (A.kJ [.i,.i,.x .blk,.x .tab,.x .sym] (A.bd .iop (A.fL .blk 2 .iop x9.2.2.1) x9.2.1<|
 A.l1 (.x .iop) (A.get .iop (A.fL .blk 2 .iop x9.2.2.1) x9.2.1) fun x10=>
 A.cond (A.ay (A.cmp .lss (A.fI .iop 0 x10.1) (A.lit 4)) (A.bl true) (A.cmp .gtr (A.fI .iop 0 x10.1) (A.lit 7))) (A.inl _ (x9.1,x9.2.1,x9.2.2.1,x9.2.2.2.1,x9.q.1,()))<|
 A.cond (A.cmp .geq x9.1 (A.len .ev (A.fL .sym 0 .ev x9.q.1))) (A.l1 .b (A.bl false) fun x11=>
 A.inr _<|A.inr _<|A.ret _ (x11.1,()))<|
 A.bd .ev (A.fL .sym 0 .ev x9.q.1) x9.1<|
 A.l1 (.x .ev) (A.get .ev (A.fL .sym 0 .ev x9.q.1) x9.1) fun x11=>
 A.l1 .b (A.ay (A.cmp .eql (A.fI .iop 0 x10.1) (A.lit 4)) (A.bl true) (A.cmp .eql (A.fI .iop 0 x10.1) (A.lit 5))) fun x12=>
 A.cond (A.ay (A.ay (A.cmp .neq (A.fI .ev 0 x11.1) (A.fI .iop 0 x10.1)) (A.bl true) (A.cmp .neq (A.fI .ev 1 x11.1) (A.fI .iop 4 x10.1))) (A.bl true) (A.au (A.eqB x12.1 (A.cmp .eql (A.len .poly (A.fL .ev 4 .poly x11.1)) (A.lit 4))))) (A.l1 .b (A.bl false) fun x13=>
 A.inr _<|A.inr _<|A.ret _ (x13.1,()))<|
 A.l1 .i (A.arith .add .i64 x9.1 (A.lit 1)) fun x13=>
 A.inl _ (x13.1,x9.2.1,x9.2.2.1,x9.2.2.2.1,x9.q.1,())) fun x10=>
 A.l1 .i (A.arith .add .i64 x10.2.1 (A.lit 1)) fun x11=>
 A.inl _ (x10.1,x11.1,x10.2.2.1,x10.2.2.2.1,x10.q.1,()))<|
 A.inr _<|A.chk (A.orB (A.au (A.ay (A.cmp .eql x9.1 (A.len .ev (A.fL .sym 0 .ev x9.q.1))) (A.cmp .eql (A.len .poly (A.fL .sym 1 .poly x9.q.1)) (A.lit 4)) (A.bl false))) (Zy (x9.2.2.2.1,())))<|
 A.bL _ (Zz (x9.2.2.2.1,())) fun x10=>
 A.l1 .b (A.ay (A.ay (A.cmp .eql x9.1 (A.len .ev (A.fL .sym 0 .ev x9.q.1))) (A.cmp .eql (A.len .poly (A.fL .sym 1 .poly x9.q.1)) (A.lit 4)) (A.bl false)) x10.1 (A.bl false)) fun x11=>
 A.ret _ (x11.1,())) (x7.1,x8.1,x3.1,x5.1,x6.1,())
end Go.TX.F
namespace Go.TX.Seat
open Go Go.AE Go.TX Go.Proofs
set_option maxRecDepth 100000
def ty:TypeId→Option TY
  | 2=>some ⟨(.int .i64),1,8,[.d true (.int .i64 0)]⟩
  | 3=>some ⟨(.int .i64),1,8,[.d true (.int .i64 0)]⟩
  | 4=>some ⟨.bool,1,1,[.d true (.bool false)]⟩
  | 5=>some ⟨(.int .u8),1,1,[.d true (.int .u8 0)]⟩
  | 6=>some ⟨(.int .u8),1,1,[.d true (.int .u8 0)]⟩
  | 7=>some ⟨(.struct [(0,2),(1,3),(2,4),(3,6)]),4,24,[.d true (.int .i64 0),.d true (.int .i64 0),.d true (.bool false),.d true (.int .u8 0)]⟩
  | 8=>some ⟨(.struct [(0,2),(1,3),(2,4),(3,6)]),4,24,[.d true (.int .i64 0),.d true (.int .i64 0),.d true (.bool false),.d true (.int .u8 0)]⟩
  | 9=>some ⟨.scalar,1,16,[.d true (.str ⟨#[]⟩)]⟩
  | 10=>some ⟨.scalar,1,16,[.d true (.str ⟨#[]⟩)]⟩
  | 11=>some ⟨.scalar,1,16,[.d true (.str ⟨#[]⟩)]⟩
  | 12=>some ⟨(.int .u64),1,8,[.d true (.int .u64 0)]⟩
  | 13=>some ⟨(.struct [(0,9),(1,12)]),2,24,[.d true (.str ⟨#[]⟩),.d true (.int .u64 0)]⟩
  | 14=>some ⟨(.struct [(0,9),(1,12)]),2,24,[.d true (.str ⟨#[]⟩),.d true (.int .u64 0)]⟩
  | 15=>some ⟨.scalar,1,8,[.np]⟩
  | 16=>some ⟨.scalar,1,8,[.np]⟩
  | 17=>some ⟨.scalar,1,8,[.np]⟩
  | 18=>some ⟨(.struct [(0,17)]),1,8,[.np]⟩
  | 19=>some ⟨(.struct [(0,17)]),1,8,[.np]⟩
  | 21=>some ⟨(.int .i32),1,4,[.d true (.int .i32 0)]⟩
  | 22=>some ⟨(.slice 5),1,24,[.nil]⟩
  | 23=>some ⟨(.slice 70),1,24,[.nil]⟩
  | 24=>some ⟨(.slice 27),1,24,[.nil]⟩
  | 25=>some ⟨(.slice 95),1,24,[.nil]⟩
  | 26=>some ⟨(.struct [(0,25)]),1,24,[.nil]⟩
  | 27=>some ⟨(.struct [(0,25)]),1,24,[.nil]⟩
  | 28=>some ⟨(.struct [(0,23),(1,24),(2,3),(3,27),(4,27),(5,3)]),6,112,[.nil,.nil,.d true (.int .i64 0),.nil,.nil,.d true (.int .i64 0)]⟩
  | 29=>some ⟨(.struct [(0,23),(1,24),(2,3),(3,27),(4,27),(5,3)]),6,112,[.nil,.nil,.d true (.int .i64 0),.nil,.nil,.d true (.int .i64 0)]⟩
  | 42=>some ⟨(.slice 68),1,24,[.nil]⟩
  | 43=>some ⟨(.struct [(0,3),(1,3),(2,42),(3,3),(4,3),(5,3),(6,3)]),7,72,[.d true (.int .i64 0),.d true (.int .i64 0),.nil,.d true (.int .i64 0),.d true (.int .i64 0),.d true (.int .i64 0),.d true (.int .i64 0)]⟩
  | 44=>some ⟨(.struct [(0,3),(1,3),(2,42),(3,3),(4,3),(5,3),(6,3)]),7,72,[.d true (.int .i64 0),.d true (.int .i64 0),.nil,.d true (.int .i64 0),.d true (.int .i64 0),.d true (.int .i64 0),.d true (.int .i64 0)]⟩
  | 53=>some ⟨(.slice 58),1,24,[.nil]⟩
  | 57=>some ⟨(.struct [(0,44),(7,44)]),14,144,[.d true (.int .i64 0),.d true (.int .i64 0),.nil,.d true (.int .i64 0),.d true (.int .i64 0),.d true (.int .i64 0),.d true (.int .i64 0),.d true (.int .i64 0),.d true (.int .i64 0),.nil,.d true (.int .i64 0),.d true (.int .i64 0),.d true (.int .i64 0),.d true (.int .i64 0)]⟩
  | 58=>some ⟨(.struct [(0,44),(7,44)]),14,144,[.d true (.int .i64 0),.d true (.int .i64 0),.nil,.d true (.int .i64 0),.d true (.int .i64 0),.d true (.int .i64 0),.d true (.int .i64 0),.d true (.int .i64 0),.d true (.int .i64 0),.nil,.d true (.int .i64 0),.d true (.int .i64 0),.d true (.int .i64 0),.d true (.int .i64 0)]⟩
  | 60=>some ⟨(.slice 124),1,24,[.nil]⟩
  | 61=>some ⟨(.struct [(0,60)]),1,24,[.nil]⟩
  | 62=>some ⟨(.struct [(0,60)]),1,24,[.nil]⟩
  | 67=>some ⟨(.struct [(0,3),(1,3),(2,3),(3,3),(4,3)]),5,40,[.d true (.int .i64 0),.d true (.int .i64 0),.d true (.int .i64 0),.d true (.int .i64 0),.d true (.int .i64 0)]⟩
  | 68=>some ⟨(.struct [(0,3),(1,3),(2,3),(3,3),(4,3)]),5,40,[.d true (.int .i64 0),.d true (.int .i64 0),.d true (.int .i64 0),.d true (.int .i64 0),.d true (.int .i64 0)]⟩
  | 69=>some ⟨(.struct [(0,3),(1,3),(2,27),(3,27),(4,24)]),5,88,[.d true (.int .i64 0),.d true (.int .i64 0),.nil,.nil,.nil]⟩
  | 70=>some ⟨(.struct [(0,3),(1,3),(2,27),(3,27),(4,24)]),5,88,[.d true (.int .i64 0),.d true (.int .i64 0),.nil,.nil,.nil]⟩
  | 75=>some ⟨(.slice 4),1,24,[.nil]⟩
  | 78=>some ⟨.scalar,1,8,[.np]⟩
  | 93=>some ⟨(.slice 3),1,24,[.nil]⟩
  | 94=>some ⟨(.struct [(0,3),(1,93)]),2,32,[.d true (.int .i64 0),.nil]⟩
  | 95=>some ⟨(.struct [(0,3),(1,93)]),2,32,[.d true (.int .i64 0),.nil]⟩
  | 102=>some ⟨(.int .u64),1,8,[.d true (.int .u64 0)]⟩
  | 111=>some ⟨.scalar,1,8,[.np]⟩
  | 112=>some ⟨(.struct [(0,62),(1,4)]),2,32,[.nil,.d true (.bool false)]⟩
  | 113=>some ⟨(.struct [(0,62),(1,4)]),2,32,[.nil,.d true (.bool false)]⟩
  | 123=>some ⟨(.struct [(0,3),(1,3),(2,27),(3,27)]),4,64,[.d true (.int .i64 0),.d true (.int .i64 0),.nil,.nil]⟩
  | 124=>some ⟨(.struct [(0,3),(1,3),(2,27),(3,27)]),4,64,[.d true (.int .i64 0),.d true (.int .i64 0),.nil,.nil]⟩
  | 135=>some ⟨(.struct [(0,22),(1,3)]),2,32,[.nil,.d true (.int .i64 0)]⟩
  | 136=>some ⟨(.struct [(0,22),(1,3)]),2,32,[.nil,.d true (.int .i64 0)]⟩
  | 149=>some ⟨(.slice 177),1,24,[.nil]⟩
  | 169=>some ⟨.scalar,1,8,[.np]⟩
  | 176=>some ⟨(.struct [(0,3),(1,3),(2,3),(3,3)]),4,32,[.d true (.int .i64 0),.d true (.int .i64 0),.d true (.int .i64 0),.d true (.int .i64 0)]⟩
  | 177=>some ⟨(.struct [(0,3),(1,3),(2,3),(3,3)]),4,32,[.d true (.int .i64 0),.d true (.int .i64 0),.d true (.int .i64 0),.d true (.int .i64 0)]⟩
  | 201=>some ⟨(.slice 25),1,24,[.nil]⟩
  | 203=>some ⟨(.slice 93),1,24,[.nil]⟩
  | 209=>some ⟨(.int .i64),1,8,[.d true (.int .i64 0)]⟩
  | 216=>some ⟨(.int .u32),1,4,[.d true (.int .u32 0)]⟩
  | 218=>some ⟨(.int .u64),1,8,[.d true (.int .u64 0)]⟩
  | 221=>some ⟨(.int .u64),1,8,[.d true (.int .u64 0)]⟩
  | 225=>some ⟨.scalar,1,8,[.np]⟩
  | 227=>some ⟨.scalar,1,8,[.np]⟩
  | 231=>some ⟨(.struct [(0,17),(1,17),(2,17),(3,9)]),4,40,[.np,.np,.np,.d true (.str ⟨#[]⟩)]⟩
  | 232=>some ⟨(.struct [(0,17),(1,17),(2,17),(3,9)]),4,40,[.np,.np,.np,.d true (.str ⟨#[]⟩)]⟩
  | 237=>some ⟨(.int .u8),1,1,[.d true (.int .u8 0)]⟩
  | 238=>some ⟨(.int .u8),1,1,[.d true (.int .u8 0)]⟩
  | 240=>some ⟨.scalar,1,8,[.np]⟩
  | 241=>some ⟨(.int .i32),1,4,[.d true (.int .i32 0)]⟩
  | 242=>some ⟨(.int .i32),1,4,[.d true (.int .i32 0)]⟩
  | _=>none
theorem ok2:bY Tryz.prog 2 ⟨(.int .i64),1,8,[.d true (.int .i64 0)]⟩:=⟨⟨Tryz.t2,by kernel_rfl,rfl,rfl,_,rfl,fun c w=>aH (by rfl)⟩,Tryz.underlying2,rfl⟩
theorem ok3:bY Tryz.prog 3 ⟨(.int .i64),1,8,[.d true (.int .i64 0)]⟩:=⟨⟨Tryz.t3,by kernel_rfl,rfl,rfl,_,rfl,fun c w=>aH (by rfl)⟩,Tryz.underlying3,rfl⟩
theorem ok4:bY Tryz.prog 4 ⟨.bool,1,1,[.d true (.bool false)]⟩:=⟨⟨Tryz.t4,by kernel_rfl,rfl,rfl,_,rfl,fun c w=>aH (by rfl)⟩,Tryz.underlying4,rfl⟩
theorem ok5:bY Tryz.prog 5 ⟨(.int .u8),1,1,[.d true (.int .u8 0)]⟩:=⟨⟨Tryz.t5,by kernel_rfl,rfl,rfl,_,rfl,fun c w=>aH (by rfl)⟩,Tryz.underlying5,rfl⟩
theorem ok6:bY Tryz.prog 6 ⟨(.int .u8),1,1,[.d true (.int .u8 0)]⟩:=⟨⟨Tryz.t6,by kernel_rfl,rfl,rfl,_,rfl,fun c w=>aH (by rfl)⟩,Tryz.underlying6,rfl⟩
theorem ok7:bY Tryz.prog 7 ⟨(.struct [(0,2),(1,3),(2,4),(3,6)]),4,24,[.d true (.int .i64 0),.d true (.int .i64 0),.d true (.bool false),.d true (.int .u8 0)]⟩:=⟨⟨Tryz.t7,by kernel_rfl,rfl,rfl,_,rfl,fun c w=>aH (by rfl)⟩,⟨_,Tryz.underlying7,by rfl⟩,rfl⟩
theorem ok8:bY Tryz.prog 8 ⟨(.struct [(0,2),(1,3),(2,4),(3,6)]),4,24,[.d true (.int .i64 0),.d true (.int .i64 0),.d true (.bool false),.d true (.int .u8 0)]⟩:=⟨⟨Tryz.t8,by kernel_rfl,rfl,rfl,_,rfl,fun c w=>aH (by rfl)⟩,⟨_,Tryz.underlying8,by rfl⟩,rfl⟩
theorem ok9:bY Tryz.prog 9 ⟨.scalar,1,16,[.d true (.str ⟨#[]⟩)]⟩:=⟨⟨Tryz.t9,by kernel_rfl,rfl,rfl,_,rfl,fun c w=>aH (by rfl)⟩,⟨_,Tryz.underlying9,(fun _ h=>by cases h),(fun _ _ h=>by cases h)⟩,rfl⟩
theorem ap8:bY Tryz.prog 10 ⟨.scalar,1,16,[.d true (.str ⟨#[]⟩)]⟩:=⟨⟨Tryz.t10,by kernel_rfl,rfl,rfl,_,rfl,fun c w=>aH (by rfl)⟩,⟨_,Tryz.underlying10,(fun _ h=>by cases h),(fun _ _ h=>by cases h)⟩,rfl⟩
theorem ap9:bY Tryz.prog 11 ⟨.scalar,1,16,[.d true (.str ⟨#[]⟩)]⟩:=⟨⟨Tryz.t11,by kernel_rfl,rfl,rfl,_,rfl,fun c w=>aH (by rfl)⟩,⟨_,Tryz.underlying11,(fun _ h=>by cases h),(fun _ _ h=>by cases h)⟩,rfl⟩
theorem aqa:bY Tryz.prog 12 ⟨(.int .u64),1,8,[.d true (.int .u64 0)]⟩:=⟨⟨Tryz.t12,by kernel_rfl,rfl,rfl,_,rfl,fun c w=>aH (by rfl)⟩,Tryz.underlying12,rfl⟩
theorem aqb:bY Tryz.prog 13 ⟨(.struct [(0,9),(1,12)]),2,24,[.d true (.str ⟨#[]⟩),.d true (.int .u64 0)]⟩:=⟨⟨Tryz.t13,by kernel_rfl,rfl,rfl,_,rfl,fun c w=>aH (by rfl)⟩,⟨_,Tryz.underlying13,by rfl⟩,rfl⟩
theorem aqc:bY Tryz.prog 14 ⟨(.struct [(0,9),(1,12)]),2,24,[.d true (.str ⟨#[]⟩),.d true (.int .u64 0)]⟩:=⟨⟨Tryz.t14,by kernel_rfl,rfl,rfl,_,rfl,fun c w=>aH (by rfl)⟩,⟨_,Tryz.underlying14,by rfl⟩,rfl⟩
theorem aqd:bY Tryz.prog 15 ⟨.scalar,1,8,[.np]⟩:=⟨⟨Tryz.t15,by kernel_rfl,rfl,rfl,_,rfl,fun c w=>aH (by rfl)⟩,⟨_,Tryz.underlying15,(fun _ h=>by cases h),(fun _ _ h=>by cases h)⟩,rfl⟩
theorem ok16:bY Tryz.prog 16 ⟨.scalar,1,8,[.np]⟩:=⟨⟨Tryz.t16,by kernel_rfl,rfl,rfl,_,rfl,fun c w=>aH (by rfl)⟩,⟨_,Tryz.underlying16,(fun _ h=>by cases h),(fun _ _ h=>by cases h)⟩,rfl⟩
theorem aqe:bY Tryz.prog 17 ⟨.scalar,1,8,[.np]⟩:=⟨⟨Tryz.t17,by kernel_rfl,rfl,rfl,_,rfl,fun c w=>aH (by rfl)⟩,⟨_,Tryz.underlying17,(fun _ h=>by cases h),(fun _ _ h=>by cases h)⟩,rfl⟩
theorem aqf:bY Tryz.prog 18 ⟨(.struct [(0,17)]),1,8,[.np]⟩:=⟨⟨Tryz.t18,by kernel_rfl,rfl,rfl,_,rfl,fun c w=>aH (by rfl)⟩,⟨_,Tryz.underlying18,by rfl⟩,rfl⟩
theorem aqg:bY Tryz.prog 19 ⟨(.struct [(0,17)]),1,8,[.np]⟩:=⟨⟨Tryz.t19,by kernel_rfl,rfl,rfl,_,rfl,fun c w=>aH (by rfl)⟩,⟨_,Tryz.underlying19,by rfl⟩,rfl⟩
theorem aqh:bY Tryz.prog 21 ⟨(.int .i32),1,4,[.d true (.int .i32 0)]⟩:=⟨⟨Tryz.t21,by kernel_rfl,rfl,rfl,_,rfl,fun c w=>aH (by rfl)⟩,Tryz.underlying21,rfl⟩
theorem aqi:bY Tryz.prog 22 ⟨(.slice 5),1,24,[.nil]⟩:=⟨⟨Tryz.t22,by kernel_rfl,rfl,rfl,_,rfl,fun c w=>aH (by rfl)⟩,Tryz.underlying22,rfl⟩
theorem aqj:bY Tryz.prog 23 ⟨(.slice 70),1,24,[.nil]⟩:=⟨⟨Tryz.t23,by kernel_rfl,rfl,rfl,_,rfl,fun c w=>aH (by rfl)⟩,Tryz.underlying23,rfl⟩
theorem aqk:bY Tryz.prog 24 ⟨(.slice 27),1,24,[.nil]⟩:=⟨⟨Tryz.t24,by kernel_rfl,rfl,rfl,_,rfl,fun c w=>aH (by rfl)⟩,Tryz.underlying24,rfl⟩
theorem aql:bY Tryz.prog 25 ⟨(.slice 95),1,24,[.nil]⟩:=⟨⟨Tryz.t25,by kernel_rfl,rfl,rfl,_,rfl,fun c w=>aH (by rfl)⟩,Tryz.underlying25,rfl⟩
theorem aqm:bY Tryz.prog 26 ⟨(.struct [(0,25)]),1,24,[.nil]⟩:=⟨⟨Tryz.t26,by kernel_rfl,rfl,rfl,_,rfl,fun c w=>aH (by rfl)⟩,⟨_,Tryz.underlying26,by rfl⟩,rfl⟩
theorem aqn:bY Tryz.prog 27 ⟨(.struct [(0,25)]),1,24,[.nil]⟩:=⟨⟨Tryz.t27,by kernel_rfl,rfl,rfl,_,rfl,fun c w=>aH (by rfl)⟩,⟨_,Tryz.underlying27,by rfl⟩,rfl⟩
theorem aqo:bY Tryz.prog 28 ⟨(.struct [(0,23),(1,24),(2,3),(3,27),(4,27),(5,3)]),6,112,[.nil,.nil,.d true (.int .i64 0),.nil,.nil,.d true (.int .i64 0)]⟩:=⟨⟨Tryz.t28,by kernel_rfl,rfl,rfl,_,rfl,fun c w=>aH (by rfl)⟩,⟨_,Tryz.underlying28,by rfl⟩,rfl⟩
theorem aqp:bY Tryz.prog 29 ⟨(.struct [(0,23),(1,24),(2,3),(3,27),(4,27),(5,3)]),6,112,[.nil,.nil,.d true (.int .i64 0),.nil,.nil,.d true (.int .i64 0)]⟩:=⟨⟨Tryz.t29,by kernel_rfl,rfl,rfl,_,rfl,fun c w=>aH (by rfl)⟩,⟨_,Tryz.underlying29,by rfl⟩,rfl⟩
theorem aqr:bY Tryz.prog 42 ⟨(.slice 68),1,24,[.nil]⟩:=⟨⟨Tryz.t42,by kernel_rfl,rfl,rfl,_,rfl,fun c w=>aH (by rfl)⟩,Tryz.underlying42,rfl⟩
theorem aqs:bY Tryz.prog 43 ⟨(.struct [(0,3),(1,3),(2,42),(3,3),(4,3),(5,3),(6,3)]),7,72,[.d true (.int .i64 0),.d true (.int .i64 0),.nil,.d true (.int .i64 0),.d true (.int .i64 0),.d true (.int .i64 0),.d true (.int .i64 0)]⟩:=⟨⟨Tryz.t43,by kernel_rfl,rfl,rfl,_,rfl,fun c w=>aH (by rfl)⟩,⟨_,Tryz.underlying43,by rfl⟩,rfl⟩
theorem aqt:bY Tryz.prog 44 ⟨(.struct [(0,3),(1,3),(2,42),(3,3),(4,3),(5,3),(6,3)]),7,72,[.d true (.int .i64 0),.d true (.int .i64 0),.nil,.d true (.int .i64 0),.d true (.int .i64 0),.d true (.int .i64 0),.d true (.int .i64 0)]⟩:=⟨⟨Tryz.t44,by kernel_rfl,rfl,rfl,_,rfl,fun c w=>aH (by rfl)⟩,⟨_,Tryz.underlying44,by rfl⟩,rfl⟩
theorem aqu:bY Tryz.prog 53 ⟨(.slice 58),1,24,[.nil]⟩:=⟨⟨Tryz.t53,by kernel_rfl,rfl,rfl,_,rfl,fun c w=>aH (by rfl)⟩,Tryz.underlying53,rfl⟩
theorem aqv:bY Tryz.prog 57 ⟨(.struct [(0,44),(7,44)]),14,144,[.d true (.int .i64 0),.d true (.int .i64 0),.nil,.d true (.int .i64 0),.d true (.int .i64 0),.d true (.int .i64 0),.d true (.int .i64 0),.d true (.int .i64 0),.d true (.int .i64 0),.nil,.d true (.int .i64 0),.d true (.int .i64 0),.d true (.int .i64 0),.d true (.int .i64 0)]⟩:=⟨⟨Tryz.t57,by kernel_rfl,rfl,rfl,_,rfl,fun c w=>aH (by rfl)⟩,⟨_,Tryz.underlying57,by rfl⟩,rfl⟩
theorem aqw:bY Tryz.prog 58 ⟨(.struct [(0,44),(7,44)]),14,144,[.d true (.int .i64 0),.d true (.int .i64 0),.nil,.d true (.int .i64 0),.d true (.int .i64 0),.d true (.int .i64 0),.d true (.int .i64 0),.d true (.int .i64 0),.d true (.int .i64 0),.nil,.d true (.int .i64 0),.d true (.int .i64 0),.d true (.int .i64 0),.d true (.int .i64 0)]⟩:=⟨⟨Tryz.t58,by kernel_rfl,rfl,rfl,_,rfl,fun c w=>aH (by rfl)⟩,⟨_,Tryz.underlying58,by rfl⟩,rfl⟩
theorem aqx:bY Tryz.prog 60 ⟨(.slice 124),1,24,[.nil]⟩:=⟨⟨Tryz.t60,by kernel_rfl,rfl,rfl,_,rfl,fun c w=>aH (by rfl)⟩,Tryz.underlying60,rfl⟩
theorem aqy:bY Tryz.prog 61 ⟨(.struct [(0,60)]),1,24,[.nil]⟩:=⟨⟨Tryz.t61,by kernel_rfl,rfl,rfl,_,rfl,fun c w=>aH (by rfl)⟩,⟨_,Tryz.underlying61,by rfl⟩,rfl⟩
theorem aqz:bY Tryz.prog 62 ⟨(.struct [(0,60)]),1,24,[.nil]⟩:=⟨⟨Tryz.t62,by kernel_rfl,rfl,rfl,_,rfl,fun c w=>aH (by rfl)⟩,⟨_,Tryz.underlying62,by rfl⟩,rfl⟩
theorem aqA:bY Tryz.prog 67 ⟨(.struct [(0,3),(1,3),(2,3),(3,3),(4,3)]),5,40,[.d true (.int .i64 0),.d true (.int .i64 0),.d true (.int .i64 0),.d true (.int .i64 0),.d true (.int .i64 0)]⟩:=⟨⟨Tryz.t67,by kernel_rfl,rfl,rfl,_,rfl,fun c w=>aH (by rfl)⟩,⟨_,Tryz.underlying67,by rfl⟩,rfl⟩
theorem aqB:bY Tryz.prog 68 ⟨(.struct [(0,3),(1,3),(2,3),(3,3),(4,3)]),5,40,[.d true (.int .i64 0),.d true (.int .i64 0),.d true (.int .i64 0),.d true (.int .i64 0),.d true (.int .i64 0)]⟩:=⟨⟨Tryz.t68,by kernel_rfl,rfl,rfl,_,rfl,fun c w=>aH (by rfl)⟩,⟨_,Tryz.underlying68,by rfl⟩,rfl⟩
theorem aqC:bY Tryz.prog 69 ⟨(.struct [(0,3),(1,3),(2,27),(3,27),(4,24)]),5,88,[.d true (.int .i64 0),.d true (.int .i64 0),.nil,.nil,.nil]⟩:=⟨⟨Tryz.t69,by kernel_rfl,rfl,rfl,_,rfl,fun c w=>aH (by rfl)⟩,⟨_,Tryz.underlying69,by rfl⟩,rfl⟩
theorem aqD:bY Tryz.prog 70 ⟨(.struct [(0,3),(1,3),(2,27),(3,27),(4,24)]),5,88,[.d true (.int .i64 0),.d true (.int .i64 0),.nil,.nil,.nil]⟩:=⟨⟨Tryz.t70,by kernel_rfl,rfl,rfl,_,rfl,fun c w=>aH (by rfl)⟩,⟨_,Tryz.underlying70,by rfl⟩,rfl⟩
theorem aqE:bY Tryz.prog 75 ⟨(.slice 4),1,24,[.nil]⟩:=⟨⟨Tryz.t75,by kernel_rfl,rfl,rfl,_,rfl,fun c w=>aH (by rfl)⟩,Tryz.underlying75,rfl⟩
theorem aqF:bY Tryz.prog 78 ⟨.scalar,1,8,[.np]⟩:=⟨⟨Tryz.t78,by kernel_rfl,rfl,rfl,_,rfl,fun c w=>aH (by rfl)⟩,⟨_,Tryz.underlying78,(fun _ h=>by cases h),(fun _ _ h=>by cases h)⟩,rfl⟩
theorem aqG:bY Tryz.prog 93 ⟨(.slice 3),1,24,[.nil]⟩:=⟨⟨Tryz.t93,by kernel_rfl,rfl,rfl,_,rfl,fun c w=>aH (by rfl)⟩,Tryz.underlying93,rfl⟩
theorem aqH:bY Tryz.prog 94 ⟨(.struct [(0,3),(1,93)]),2,32,[.d true (.int .i64 0),.nil]⟩:=⟨⟨Tryz.t94,by kernel_rfl,rfl,rfl,_,rfl,fun c w=>aH (by rfl)⟩,⟨_,Tryz.underlying94,by rfl⟩,rfl⟩
theorem aqI:bY Tryz.prog 95 ⟨(.struct [(0,3),(1,93)]),2,32,[.d true (.int .i64 0),.nil]⟩:=⟨⟨Tryz.t95,by kernel_rfl,rfl,rfl,_,rfl,fun c w=>aH (by rfl)⟩,⟨_,Tryz.underlying95,by rfl⟩,rfl⟩
theorem anV:bY Tryz.prog 102 ⟨(.int .u64),1,8,[.d true (.int .u64 0)]⟩:=⟨⟨Tryz.t102,by kernel_rfl,rfl,rfl,_,rfl,fun c w=>aH (by rfl)⟩,Tryz.underlying102,rfl⟩
theorem anW:bY Tryz.prog 111 ⟨.scalar,1,8,[.np]⟩:=⟨⟨Tryz.t111,by kernel_rfl,rfl,rfl,_,rfl,fun c w=>aH (by rfl)⟩,⟨_,Tryz.underlying111,(fun _ h=>by cases h),(fun _ _ h=>by cases h)⟩,rfl⟩
theorem anX:bY Tryz.prog 112 ⟨(.struct [(0,62),(1,4)]),2,32,[.nil,.d true (.bool false)]⟩:=⟨⟨Tryz.t112,by kernel_rfl,rfl,rfl,_,rfl,fun c w=>aH (by rfl)⟩,⟨_,Tryz.underlying112,by rfl⟩,rfl⟩
theorem anY:bY Tryz.prog 113 ⟨(.struct [(0,62),(1,4)]),2,32,[.nil,.d true (.bool false)]⟩:=⟨⟨Tryz.t113,by kernel_rfl,rfl,rfl,_,rfl,fun c w=>aH (by rfl)⟩,⟨_,Tryz.underlying113,by rfl⟩,rfl⟩
theorem anZ:bY Tryz.prog 123 ⟨(.struct [(0,3),(1,3),(2,27),(3,27)]),4,64,[.d true (.int .i64 0),.d true (.int .i64 0),.nil,.nil]⟩:=⟨⟨Tryz.t123,by kernel_rfl,rfl,rfl,_,rfl,fun c w=>aH (by rfl)⟩,⟨_,Tryz.underlying123,by rfl⟩,rfl⟩
theorem an0:bY Tryz.prog 124 ⟨(.struct [(0,3),(1,3),(2,27),(3,27)]),4,64,[.d true (.int .i64 0),.d true (.int .i64 0),.nil,.nil]⟩:=⟨⟨Tryz.t124,by kernel_rfl,rfl,rfl,_,rfl,fun c w=>aH (by rfl)⟩,⟨_,Tryz.underlying124,by rfl⟩,rfl⟩
theorem an1:bY Tryz.prog 135 ⟨(.struct [(0,22),(1,3)]),2,32,[.nil,.d true (.int .i64 0)]⟩:=⟨⟨Tryz.t135,by kernel_rfl,rfl,rfl,_,rfl,fun c w=>aH (by rfl)⟩,⟨_,Tryz.underlying135,by rfl⟩,rfl⟩
theorem an2:bY Tryz.prog 136 ⟨(.struct [(0,22),(1,3)]),2,32,[.nil,.d true (.int .i64 0)]⟩:=⟨⟨Tryz.t136,by kernel_rfl,rfl,rfl,_,rfl,fun c w=>aH (by rfl)⟩,⟨_,Tryz.underlying136,by rfl⟩,rfl⟩
theorem an3:bY Tryz.prog 149 ⟨(.slice 177),1,24,[.nil]⟩:=⟨⟨Tryz.t149,by kernel_rfl,rfl,rfl,_,rfl,fun c w=>aH (by rfl)⟩,Tryz.underlying149,rfl⟩
theorem an4:bY Tryz.prog 169 ⟨.scalar,1,8,[.np]⟩:=⟨⟨Tryz.t169,by kernel_rfl,rfl,rfl,_,rfl,fun c w=>aH (by rfl)⟩,⟨_,Tryz.underlying169,(fun _ h=>by cases h),(fun _ _ h=>by cases h)⟩,rfl⟩
theorem an5:bY Tryz.prog 176 ⟨(.struct [(0,3),(1,3),(2,3),(3,3)]),4,32,[.d true (.int .i64 0),.d true (.int .i64 0),.d true (.int .i64 0),.d true (.int .i64 0)]⟩:=⟨⟨Tryz.t176,by kernel_rfl,rfl,rfl,_,rfl,fun c w=>aH (by rfl)⟩,⟨_,Tryz.underlying176,by rfl⟩,rfl⟩
theorem an6:bY Tryz.prog 177 ⟨(.struct [(0,3),(1,3),(2,3),(3,3)]),4,32,[.d true (.int .i64 0),.d true (.int .i64 0),.d true (.int .i64 0),.d true (.int .i64 0)]⟩:=⟨⟨Tryz.t177,by kernel_rfl,rfl,rfl,_,rfl,fun c w=>aH (by rfl)⟩,⟨_,Tryz.underlying177,by rfl⟩,rfl⟩
theorem an7:bY Tryz.prog 201 ⟨(.slice 25),1,24,[.nil]⟩:=⟨⟨Tryz.t201,by kernel_rfl,rfl,rfl,_,rfl,fun c w=>aH (by rfl)⟩,Tryz.underlying201,rfl⟩
theorem an8:bY Tryz.prog 203 ⟨(.slice 93),1,24,[.nil]⟩:=⟨⟨Tryz.t203,by kernel_rfl,rfl,rfl,_,rfl,fun c w=>aH (by rfl)⟩,Tryz.underlying203,rfl⟩
theorem an9:bY Tryz.prog 209 ⟨(.int .i64),1,8,[.d true (.int .i64 0)]⟩:=⟨⟨Tryz.t209,by kernel_rfl,rfl,rfl,_,rfl,fun c w=>aH (by rfl)⟩,Tryz.underlying209,rfl⟩
theorem aoa:bY Tryz.prog 216 ⟨(.int .u32),1,4,[.d true (.int .u32 0)]⟩:=⟨⟨Tryz.t216,by kernel_rfl,rfl,rfl,_,rfl,fun c w=>aH (by rfl)⟩,Tryz.underlying216,rfl⟩
theorem aob:bY Tryz.prog 218 ⟨(.int .u64),1,8,[.d true (.int .u64 0)]⟩:=⟨⟨Tryz.t218,by kernel_rfl,rfl,rfl,_,rfl,fun c w=>aH (by rfl)⟩,Tryz.underlying218,rfl⟩
theorem aoc:bY Tryz.prog 221 ⟨(.int .u64),1,8,[.d true (.int .u64 0)]⟩:=⟨⟨Tryz.t221,by kernel_rfl,rfl,rfl,_,rfl,fun c w=>aH (by rfl)⟩,Tryz.underlying221,rfl⟩
theorem aod:bY Tryz.prog 225 ⟨.scalar,1,8,[.np]⟩:=⟨⟨Tryz.t225,by kernel_rfl,rfl,rfl,_,rfl,fun c w=>aH (by rfl)⟩,⟨_,Tryz.underlying225,(fun _ h=>by cases h),(fun _ _ h=>by cases h)⟩,rfl⟩
theorem aoe:bY Tryz.prog 227 ⟨.scalar,1,8,[.np]⟩:=⟨⟨Tryz.t227,by kernel_rfl,rfl,rfl,_,rfl,fun c w=>aH (by rfl)⟩,⟨_,Tryz.underlying227,(fun _ h=>by cases h),(fun _ _ h=>by cases h)⟩,rfl⟩
theorem aof:bY Tryz.prog 231 ⟨(.struct [(0,17),(1,17),(2,17),(3,9)]),4,40,[.np,.np,.np,.d true (.str ⟨#[]⟩)]⟩:=⟨⟨Tryz.t231,by kernel_rfl,rfl,rfl,_,rfl,fun c w=>aH (by rfl)⟩,⟨_,Tryz.underlying231,by rfl⟩,rfl⟩
theorem aog:bY Tryz.prog 232 ⟨(.struct [(0,17),(1,17),(2,17),(3,9)]),4,40,[.np,.np,.np,.d true (.str ⟨#[]⟩)]⟩:=⟨⟨Tryz.t232,by kernel_rfl,rfl,rfl,_,rfl,fun c w=>aH (by rfl)⟩,⟨_,Tryz.underlying232,by rfl⟩,rfl⟩
theorem aoh:bY Tryz.prog 237 ⟨(.int .u8),1,1,[.d true (.int .u8 0)]⟩:=⟨⟨Tryz.t237,by kernel_rfl,rfl,rfl,_,rfl,fun c w=>aH (by rfl)⟩,Tryz.underlying237,rfl⟩
theorem aoi:bY Tryz.prog 238 ⟨(.int .u8),1,1,[.d true (.int .u8 0)]⟩:=⟨⟨Tryz.t238,by kernel_rfl,rfl,rfl,_,rfl,fun c w=>aH (by rfl)⟩,Tryz.underlying238,rfl⟩
theorem aoj:bY Tryz.prog 240 ⟨.scalar,1,8,[.np]⟩:=⟨⟨Tryz.t240,by kernel_rfl,rfl,rfl,_,rfl,fun c w=>aH (by rfl)⟩,⟨_,Tryz.underlying240,(fun _ h=>by cases h),(fun _ _ h=>by cases h)⟩,rfl⟩
theorem aol:bY Tryz.prog 241 ⟨(.int .i32),1,4,[.d true (.int .i32 0)]⟩:=⟨⟨Tryz.t241,by kernel_rfl,rfl,rfl,_,rfl,fun c w=>aH (by rfl)⟩,Tryz.underlying241,rfl⟩
theorem aom:bY Tryz.prog 242 ⟨(.int .i32),1,4,[.d true (.int .i32 0)]⟩:=⟨⟨Tryz.t242,by kernel_rfl,rfl,rfl,_,rfl,fun c w=>aH (by rfl)⟩,Tryz.underlying242,rfl⟩
theorem aqJ:∀t y,ty t=some y→bY Tryz.prog t y:=by
  intro t y h
  unfold ty at h
  split at h<;>first | (cases h;done) | skip
  · cases h;exact ok2
  · cases h;exact ok3
  · cases h;exact ok4
  · cases h;exact ok5
  · cases h;exact ok6
  · cases h;exact ok7
  · cases h;exact ok8
  · cases h;exact ok9
  · cases h;exact ap8
  · cases h;exact ap9
  · cases h;exact aqa
  · cases h;exact aqb
  · cases h;exact aqc
  · cases h;exact aqd
  · cases h;exact ok16
  · cases h;exact aqe
  · cases h;exact aqf
  · cases h;exact aqg
  · cases h;exact aqh
  · cases h;exact aqi
  · cases h;exact aqj
  · cases h;exact aqk
  · cases h;exact aql
  · cases h;exact aqm
  · cases h;exact aqn
  · cases h;exact aqo
  · cases h;exact aqp
  · cases h;exact aqr
  · cases h;exact aqs
  · cases h;exact aqt
  · cases h;exact aqu
  · cases h;exact aqv
  · cases h;exact aqw
  · cases h;exact aqx
  · cases h;exact aqy
  · cases h;exact aqz
  · cases h;exact aqA
  · cases h;exact aqB
  · cases h;exact aqC
  · cases h;exact aqD
  · cases h;exact aqE
  · cases h;exact aqF
  · cases h;exact aqG
  · cases h;exact aqH
  · cases h;exact aqI
  · cases h;exact anV
  · cases h;exact anW
  · cases h;exact anX
  · cases h;exact anY
  · cases h;exact anZ
  · cases h;exact an0
  · cases h;exact an1
  · cases h;exact an2
  · cases h;exact an3
  · cases h;exact an4
  · cases h;exact an5
  · cases h;exact an6
  · cases h;exact an7
  · cases h;exact an8
  · cases h;exact an9
  · cases h;exact aoa
  · cases h;exact aob
  · cases h;exact aoc
  · cases h;exact aod
  · cases h;exact aoe
  · cases h;exact aof
  · cases h;exact aog
  · cases h;exact aoh
  · cases h;exact aoi
  · cases h;exact aoj
  · cases h;exact aol
  · cases h;exact aom
def co:TypeId→Option Co
  | 3=>some .i64
  | 4=>some .bool
  | 5=>some .u8
  | 9=>some .str
  | 25=>some .poly
  | 27=>some .poly
  | 29=>some .sym
  | 44=>some .blk
  | 58=>some .cer
  | 62=>some .tab
  | 68=>some .iop
  | 70=>some .ev
  | 93=>some .ints
  | 95=>some .mono
  | 124=>some .atom
  | 177=>some .ins
  | _=>none
def ieq:TypeId→Option Co
  | 68=>some .iop
  | 177=>some .ins
  | _=>none
def X:XT:={ty:=ty,co:=co,glob:=fun g=>none,ieq:=ieq}
noncomputable def E:Tab:={P:=Tryz.prog,ty:=ty,glob:=fun g=>none,ieq:=fun t=>(ieq t).map fun c=>c.size}
end Go.TX.Seat
namespace Go.TX.Seat
open Go Go.AE Go.TX Go.TX.F Go.Proofs
set_option maxRecDepth 100000
theorem ajV (A:Alg): @Ru aJ.z X E A [] (.seq .u (.seq (.seq .u (.cut ⟨[(0,.c (.rows true .u8))],[]⟩ (.cond .u .u))) .u)) Bq Tryz.f59 [] (F5 A):=fun _=>by kernel_rfl
theorem ajW (A:Alg): @Ru aJ.z X E A [(7,[(0,([0],[])),(1,([47],[])),(2,([48],[])),(3,([49],[])),(4,([5],[])),(5,([0],[])),(6,([52],[])),(7,([53],[])),(8,([54],[])),(9,([55],[])),(10,([51,56],[])),(11,([50,57],[])),(12,([58],[])),(13,([59],[])),(14,([60],[])),(15,([0],[])),(16,([62],[])),(17,([63],[])),(18,([64],[])),(19,([5],[])),(20,([66],[])),(21,([67],[])),(22,([0],[])),(23,([69],[])),(24,([70],[])),(25,([71],[])),(26,([72],[])),(27,([68,73],[])),(28,([65,74],[])),(29,([75],[])),(30,([76],[])),(31,([77],[])),(32,([61,78],[])),(33,([5],[])),(34,([80],[])),(35,([79,81],[])),(36,([5],[])),(37,([0],[])),(38,([84],[])),(39,([85],[])),(40,([86],[])),(41,([87],[])),(42,([83,88],[])),(43,([89],[])),(44,([82,90],[])),(45,([91],[]))])] .u cu Tryz.f61 [] (F6 A):=fun _=>by kernel_rfl
theorem ajX (A:Alg): @Ru aJ.z X E A [] .u bS Tryz.f89 [] (F7 A):=fun _=>by kernel_rfl
theorem ajY (A:Alg) (aC:Ct A.ah bS): @Ru aJ.z X E A [] .u uj Tryz.f62 [(89,⟨_,aC⟩)] (F8 A aC.pre aC.fn):=fun _=>by kernel_rfl
theorem ajZ (A:Alg) (aD:Ct A.ah cu): @Ru aJ.z X E A [] .u Br Tryz.f63 [(61,⟨_,aD⟩)] (F9 A aD.pre aD.fn):=fun _=>by kernel_rfl
theorem aj0 (A:Alg) (aD:Ct A.ah cu): @Ru aJ.z X E A [] .u um Tryz.f158 [(61,⟨_,aD⟩)] (Ga A aD.pre aD.fn):=fun _=>by kernel_rfl
theorem aj1 (A:Alg) (aC:Ct A.ah bS): @Ru aJ.z X E A [(6,[(0,([1],[])),(1,([21],[])),(2,([3],[])),(3,([22,23],[])),(4,([24],[])),(5,([25],[])),(6,([26],[])),(7,([27],[])),(8,([3,28],[])),(9,([28,29],[])),(10,([28,30],[])),(11,([1,31],[])),(12,([31,32],[])),(13,([3,31],[])),(14,([31,34],[])),(15,([31,33,35],[])),(16,([31,36],[])),(17,([1,31],[])),(18,([31,38],[])),(19,([3,31],[])),(20,([31,39,40],[])),(21,([31,41],[])),(22,([31,37,42],[])),(23,([28,31,43],[])),(24,([28,44],[]))])] (.seq .u (.seq .u (.seq (.seq .u (.block (.loop ⟨[(1,.c (.pb 0 2 0)),(3,.c (.int .i64))],[.box (.sv false .mono)]⟩ .u))) .u))) Bu Tryz.f76 [(89,⟨_,aC⟩)] (Gb A aC.pre aC.fn):=fun _=>by kernel_rfl
theorem aj2 (A:Alg): @Ru aJ.z X E A [(8,[(0,([0],[])),(1,([5],[])),(2,([22,23],[])),(3,([24],[])),(4,([1],[])),(5,([5],[])),(6,([26,27],[])),(7,([28],[])),(8,([25,29],[]))]),(10,[(0,([0],[])),(1,([5],[])),(2,([31,32],[])),(3,([33],[])),(4,([1],[])),(5,([5],[])),(6,([35,36],[])),(7,([37],[])),(8,([34,38],[]))])] (.seq .u (.seq .u (.seq (.seq .u (.block (.loop ⟨[(0,.c (.rows false .i64)),(1,.c (.rows false .i64)),(5,.c (.int .i64))],[]⟩ .u))) .u))) mV Tryz.f77 [] (Gc A):=fun _=>by kernel_rfl
theorem aj3 (A:Alg) (pI:Ct A.ah Bu) (dU:Ct A.ah mV): @Ru aJ.z X E A [(6,[(0,([1],[])),(1,([15],[])),(2,([3],[])),(3,([16,17],[])),(4,([18],[])),(5,([19],[])),(6,([20],[])),(7,([21],[])),(8,([3,22],[])),(9,([22,23],[])),(10,([22,24],[])),(11,([1,25],[])),(12,([25,26],[])),(13,([3,25],[])),(14,([25,28],[])),(15,([25,27,29],[])),(16,([25,30],[])),(17,([25,31],[])),(18,([1,25],[])),(19,([25,33],[])),(20,([3,25],[])),(21,([25,34,35],[])),(22,([25,36],[])),(23,([25,37],[])),(24,([25,32,38],[])),(25,([25,39],[])),(26,([22,25,40],[])),(27,([22,41],[]))])] (.seq .u (.seq .u (.seq (.seq .u (.block (.loop ⟨[(1,.c (.pb 0 1 0)),(3,.c (.int .i64))],[.box (.sv false .poly)]⟩ .u))) .u))) gB Tryz.f19 [(76,⟨_,pI⟩),(77,⟨_,dU⟩)] (Gd A pI.pre pI.fn dU.pre dU.fn):=fun _=>by kernel_rfl
theorem aj4 (A:Alg): @Ru aJ.z X E A [] (.seq .u (.seq .u (.seq (.seq .u (.cut ⟨[(3,.c (.int .i64))],[]⟩ (.cond .u .u))) .u))) jQ Tryz.f170 [] (Gh A):=fun _=>by kernel_rfl
theorem aj5 (A:Alg) (dU:Ct A.ah mV) (bT:Ct A.ah jQ): @Ru aJ.z X E A [(6,[(0,([3],[])),(1,([17],[])),(2,([0],[])),(3,([7],[])),(4,([19,20],[])),(5,([21],[])),(6,([22],[])),(7,([18,23],[])),(8,([24],[]))]),(12,[(0,([0],[])),(1,([7],[])),(2,([37,38],[])),(3,([39],[])),(4,([40],[])),(5,([3],[])),(6,([42],[])),(7,([41,43],[])),(8,([44],[])),(9,([45],[]))])] (.seq .u (.seq .u (.seq .u (.seq (.seq .u (.block (.loop ⟨[(0,.c (.rows false .mono)),(3,.c (.pb 0 2 0)),(5,.c (.own 1)),(6,.c (.bool)),(7,.c (.int .i64))],[.box (.sv false .mono),.rows false .mono]⟩ (.seq .u (.seq (.block (.seq .u (.seq (.seq .u (.cut ⟨[(0,.c (.rows false .mono)),(3,.c (.pb 0 2 0)),(5,.c (.own 1)),(6,.c (.bool)),(7,.c (.int .i64)),(8,.c (.int .i64))],[.box (.sv false .mono),.rows false .mono]⟩ (.cond .u .u))) (.seq .u (.cut ⟨[(0,.c (.rows false .mono)),(3,.c (.pb 0 2 0)),(5,.c (.own 1)),(6,.c (.bool)),(7,.c (.int .i64))],[.box (.sv false .mono),.rows false .mono]⟩ (.cond (.seq .u (.seq .u (.seq .u (.cut ⟨[(0,.c (.rows false .mono)),(3,.c (.pb 0 2 0)),(5,.c (.own 1)),(6,.c (.bool)),(7,.c (.int .i64))],[.box (.sv false .mono),.rows false .mono]⟩ (.cond .u .u))))) .u)))))) .u))))) (.seq (.seq .u (.cut ⟨[(5,.c (.own 0))],[.rows false .mono]⟩ (.cond .u .u))) .u))))) uo Tryz.f174 [(77,⟨_,dU⟩),(170,⟨_,bT⟩)] (Gi A dU.pre dU.fn bT.pre bT.fn):=fun _=>by kernel_rfl
theorem aj6 (A:Alg): @Ru ⟨[26],[]⟩ X E A [(5,[(0,([3],[])),(1,([12],[])),(2,([0],[])),(3,([4],[])),(4,([14,15],[])),(5,([16],[])),(6,([17],[])),(7,([],[])),(8,([0],[])),(9,([4],[])),(10,([20,21],[])),(11,([22],[])),(12,([23],[])),(13,([19,24],[1,6])),(14,([18,25],[])),(15,([26],[1])),(16,([13,27],[])),(17,([3],[])),(18,([28,29],[]))])] (.seq .u (.seq .u (.seq (.seq .u (.block (.loop ⟨[(0,.c (.rows false .mono)),(2,.c (.pb 0 1 0)),(3,.c (.pb 1 1 0)),(4,.c (.int .i64))],[.box (.agg [.nil]),.box (.agg [.own 2]),.rows true .mono]⟩ .u))) .u))) jf Tryz.f71 [] (Gj A):=fun _=>by kernel_rfl
theorem aj7 (A:Alg) (bE:Ct A.ah jf): @Ru aJ.z X E A [] (.seq .u (.seq .u (.seq (.seq .u (.block (.loop ⟨[(0,.c (.rows false .mono)),(2,.c (.pb 0 1 0)),(4,.c (.int .i64))],[.box (.agg [.nil])]⟩ .u))) .u))) uw Tryz.f175 [(71,⟨_,bE⟩)] (Gm A bE.pre bE.fn):=fun _=>by kernel_rfl
theorem aj8 (A:Alg) (aX:Ct A.ah gB) (iy:Ct A.ah uo) (iA:Ct A.ah uw): @Ru aJ.z X E A [] (.seq .u (.seq .u (.seq .u (.seq (.seq .u (.block (.loop ⟨[(3,.c (.pb 0 1 0)),(4,.c (.pb 1 1 0)),(6,.c (.rows false .mono)),(7,.c (.int .i64))],[.box (.sv false .poly),.box (.agg [.nil])]⟩ .u))) .u)))) uz Tryz.f128 [(19,⟨_,aX⟩),(174,⟨_,iy⟩),(175,⟨_,iA⟩)] (Gn A aX.pre aX.fn iy.pre iy.fn iA.pre iA.fn):=fun _=>by kernel_rfl
theorem aj9 (A:Alg) (aC:Ct A.ah bS): @Ru aJ.z X E A [] .u jR Tryz.f129 [(89,⟨_,aC⟩)] (Gp A aC.pre aC.fn):=fun _=>by kernel_rfl
theorem akb (A:Alg): @Ru aJ.z X E A [(6,[(0,([6],[])),(1,([0],[])),(2,([16],[])),(3,([15,17],[])),(4,([18],[])),(5,([0,19],[])),(6,([6,19],[])),(7,([19,20,21],[])),(8,([19,22],[])),(9,([1,19],[])),(10,([7,19],[])),(11,([19,24,25],[])),(12,([19,26],[])),(13,([19,23,27],[])),(14,([19,28],[]))])] (.seq .u (.seq .u (.seq .u (.seq (.seq .u (.block (.loop ⟨[(0,.c (.rows false .i64)),(1,.c (.rows false .i64)),(5,.c (.own 0)),(6,.c (.int .i64)),(7,.c (.int .i64))],[.rows true .i64]⟩ (.seq .u (.seq (.block (.seq (.block (.loop ⟨[(0,.c (.rows false .i64)),(1,.c (.rows false .i64)),(5,.c (.own 0)),(6,.c (.int .i64)),(7,.c (.int .i64))],[.rows true .i64]⟩ .u)) .u)) .u))))) .u)))) Bv Tryz.f221 [] (Gq A):=fun _=>by kernel_rfl
theorem akc (A:Alg) (aX:Ct A.ah gB) (bT:Ct A.ah jQ) (iy:Ct A.ah uo) (pJ:Ct A.ah Bv) (iA:Ct A.ah uw): @Ru aJ.z X E A [(10,[(0,([2],[])),(1,([34],[])),(2,([7],[])),(3,([35,36],[])),(4,([37],[])),(5,([38],[])),(6,([3],[])),(7,([40],[])),(8,([8],[])),(9,([41,42],[])),(10,([43],[])),(11,([44],[])),(12,([39,45],[])),(13,([46],[])),(14,([47],[]))]),(12,[(0,([6],[])),(1,([9],[])),(2,([2],[])),(3,([52],[])),(4,([7],[])),(5,([53,54],[])),(6,([55],[])),(7,([56],[])),(8,([3],[])),(9,([58],[])),(10,([8],[])),(11,([59,60],[])),(12,([61],[])),(13,([62],[])),(14,([57,63],[])),(15,([51,64],[])),(16,([50,65],[])),(17,([66],[]))])] (.seq .u (.seq .u (.seq .u (.seq (.seq .u (.block (.loop ⟨[(2,.c (.pb 0 1 0)),(3,.c (.pb 1 1 0)),(4,.c (.pb 2 1 0)),(6,.c (.own 3)),(7,.c (.int .i64))],[.box (.sv false .poly),.box (.sv false .poly),.box (.agg [.nil]),.rows false .mono]⟩ (.seq .u (.seq (.block (.seq .u (.block (.loop ⟨[(2,.c (.pb 0 1 0)),(3,.c (.pb 1 1 0)),(4,.c (.pb 2 1 0)),(6,.c (.own 3)),(7,.c (.int .i64)),(8,.c (.int .i64))],[.box (.sv false .poly),.box (.sv false .poly),.box (.agg [.nil]),.rows false .mono]⟩ (.seq .u (.seq (.block (.seq .u (.seq .u (.cut ⟨[(2,.c (.pb 0 1 0)),(3,.c (.pb 1 1 0)),(4,.c (.pb 2 1 0)),(6,.c (.own 3)),(7,.c (.int .i64)),(8,.c (.int .i64))],[.box (.sv false .poly),.box (.sv false .poly),.box (.agg [.nil]),.rows false .mono]⟩ (.cond .u .u))))) .u)))))) .u))))) .u)))) uD Tryz.f200 [(19,⟨_,aX⟩),(170,⟨_,bT⟩),(174,⟨_,iy⟩),(221,⟨_,pJ⟩),(175,⟨_,iA⟩)] (Gr A aX.pre aX.fn bT.pre bT.fn iy.pre iy.fn pJ.pre pJ.fn iA.pre iA.fn):=fun _=>by kernel_rfl
theorem akd (A:Alg) (aD:Ct A.ah cu) (bU:Ct A.ah jR) (iB:Ct A.ah uD) (iC:Ct A.ah uz) (iD:Ct A.ah uj) (pK:Ct A.ah Br): @Ru aJ.z X E A [(9,[(0,([7],[])),(1,([0],[])),(2,([1],[])),(3,([49,50],[0])),(4,([51],[0])),(5,([48,52],[])),(6,([53],[])),(7,([47],[])),(8,([47],[])),(9,([],[])),(10,([9,54],[])),(11,([55],[]))])] (.seq .u (.seq .u (.seq (.seq .u (.block (.loop ⟨[(0,.c (.pb 0 2 0)),(1,.c (.int .i64)),(4,.c (.pb 1 1 0)),(5,.c (.pb 2 1 0)),(6,.c (.int .i64))],[.box (.agg [.rows true .u8,.int .i64]),.box (.agg [.nil]),.box (.agg [.own 3]),.rows true .mono]⟩ (.seq .u (.seq (.block (.seq .u (.seq (.seq .u (.block (.loop ⟨[(0,.c (.pb 0 2 0)),(1,.c (.int .i64)),(4,.c (.pb 1 1 0)),(5,.c (.pb 2 1 0)),(6,.c (.int .i64)),(7,.c (.pb 3 1 0)),(8,.c (.int .i64))],[.box (.agg [.rows true .u8,.int .i64]),.box (.agg [.nil]),.box (.agg [.own 4]),.box (.agg [.own 5]),.rows true .mono,.rows true .mono]⟩ (.seq .u (.seq (.block (.seq .u (.seq .u (.cut ⟨[(0,.c (.pb 0 2 0)),(1,.c (.int .i64)),(4,.c (.pb 1 1 0)),(5,.c (.pb 2 1 0)),(6,.c (.int .i64)),(7,.c (.pb 3 1 0)),(8,.c (.int .i64))],[.box (.agg [.rows true .u8,.int .i64]),.box (.agg [.nil]),.box (.agg [.own 4]),.box (.agg [.own 5]),.rows true .mono,.rows true .mono]⟩ (.cond .u .u))))) .u))))) (.seq .u (.seq .u (.cut ⟨[(0,.c (.pb 0 2 0)),(1,.c (.int .i64)),(4,.c (.pb 1 1 0)),(5,.c (.pb 2 1 0)),(6,.c (.int .i64))],[.box (.agg [.rows true .u8,.int .i64]),.box (.agg [.nil]),.box (.agg [.own 3]),.rows true .mono]⟩ (.cond .u .u))))))) .u))))) .u))) Bw Tryz.f173 [(61,⟨_,aD⟩),(129,⟨_,bU⟩),(200,⟨_,iB⟩),(128,⟨_,iC⟩),(62,⟨_,iD⟩),(63,⟨_,pK⟩)] (Gs A aD.pre aD.fn bU.pre bU.fn iB.pre iB.fn iC.pre iC.fn iD.pre iD.fn pK.pre pK.fn):=fun _=>by kernel_rfl
theorem ake (A:Alg): @Ru aJ.z X E A [] .u jS Tryz.f156 [] (Gt A):=fun _=>by kernel_rfl
theorem akf (A:Alg) (aX:Ct A.ah gB) (bT:Ct A.ah jQ) (bE:Ct A.ah jf) (bV:Ct A.ah jS): @Ru aJ.z X E A [] (.seq .u (.seq .u (.seq .u (.seq (.seq .u (.block (.loop ⟨[(1,.c (.int .i64)),(2,.c (.pb 0 1 0)),(4,.c (.pb 1 1 0)),(5,.c (.own 2)),(6,.c (.int .i64))],[.box (.sv false .poly),.box (.agg [.nil]),.rows false .mono]⟩ (.seq .u (.seq (.block (.seq .u (.seq .u (.cut ⟨[(1,.c (.int .i64)),(2,.c (.pb 0 1 0)),(4,.c (.pb 1 1 0)),(5,.c (.own 2)),(6,.c (.int .i64))],[.box (.sv false .poly),.box (.agg [.nil]),.rows false .mono]⟩ (.cond .u .u))))) .u))))) .u)))) Bz Tryz.f127 [(19,⟨_,aX⟩),(170,⟨_,bT⟩),(71,⟨_,bE⟩),(156,⟨_,bV⟩)] (Gu A aX.pre aX.fn bT.pre bT.fn bE.pre bE.fn bV.pre bV.fn):=fun _=>by kernel_rfl
theorem akg (A:Alg) (bU:Ct A.ah jR): @Ru aJ.z X E A [] (.seq .u (.seq .u (.seq .u (.seq (.seq .u (.block (.loop ⟨[(0,.c (.pb 0 1 0)),(2,.c (.pb 1 1 0)),(3,.c (.own 2)),(4,.c (.int .i64))],[.box (.agg [.nil]),.box (.agg [.own 3]),.rows true .poly,.rows true .atom]⟩ .u))) .u)))) BA Tryz.f64 [(129,⟨_,bU⟩)] (Gw A bU.pre bU.fn):=fun _=>by kernel_rfl
theorem akh (A:Alg) (aX:Ct A.ah gB): @Ru aJ.z X E A [] .u BD Tryz.f73 [(19,⟨_,aX⟩)] (Gx A aX.pre aX.fn):=fun _=>by kernel_rfl
theorem aki (A:Alg) (dU:Ct A.ah mV): @Ru aJ.z X E A [(8,[(0,([2],[])),(1,([28],[])),(2,([5],[])),(3,([29,30],[])),(4,([31],[])),(5,([32],[])),(6,([3],[])),(7,([34],[])),(8,([5],[])),(9,([35,36],[])),(10,([37],[])),(11,([38],[])),(12,([33,39],[])),(13,([40],[]))]),(11,[(0,([2],[])),(1,([44],[])),(2,([5],[])),(3,([45,46],[])),(4,([47],[])),(5,([48],[])),(6,([3],[])),(7,([50],[])),(8,([5],[])),(9,([51,52],[])),(10,([53],[])),(11,([54],[])),(12,([49,55],[]))]),(12,[(0,([2],[])),(1,([57],[])),(2,([5],[])),(3,([58,59],[])),(4,([60],[])),(5,([61],[])),(6,([3],[])),(7,([63],[])),(8,([5],[])),(9,([64,65],[])),(10,([66],[])),(11,([67],[])),(12,([62,68],[]))])] (.seq .u (.seq .u (.seq (.seq .u (.block (.loop ⟨[(2,.c (.pb 0 1 0)),(3,.c (.pb 1 1 0)),(5,.c (.int .i64))],[.box (.sv false .poly),.box (.sv false .poly)]⟩ .u))) .u))) mW Tryz.f147 [(77,⟨_,dU⟩)] (Gy A dU.pre dU.fn):=fun _=>by kernel_rfl
theorem akj (A:Alg) (aC:Ct A.ah bS): @Ru aJ.z X E A [] .u BF Tryz.f192 [(89,⟨_,aC⟩)] (Gz A aC.pre aC.fn):=fun _=>by kernel_rfl
theorem akk (A:Alg) (pO:Ct A.ah BF): @Ru aJ.z X E A [] .u uE Tryz.f157 [(192,⟨_,pO⟩)] (GA A pO.pre pO.fn):=fun _=>by kernel_rfl
theorem akl (A:Alg) (bV:Ct A.ah jS) (aC:Ct A.ah bS) (iE:Ct A.ah uE): @Ru aJ.z X E A [] (.seq .u (.seq .u (.seq (.seq .u (.block (.seq .u (.cond .u (.seq .u (.cond .u (.seq .u (.cond .u (.seq (.seq .u (.cut ⟨[(0,.c (.rows false .iop)),(1,.c (.int .i64)),(2,.c (.int .i64)),(7,.c (.pb 0 5 0)),(13,.c (.int .i64)),(78,.c (.bool))],[.box (.sv false .iop)]⟩ (.cond .u .u))) .u))))))))) .u))) BG Tryz.f90 [(156,⟨_,bV⟩),(89,⟨_,aC⟩),(157,⟨_,iE⟩)] (GD A bV.pre bV.fn aC.pre aC.fn iE.pre iE.fn):=fun _=>by kernel_rfl
theorem akm (A:Alg) (bV:Ct A.ah jS) (iE:Ct A.ah uE): @Ru aJ.z X E A [] (.seq .u (.seq .u (.seq (.seq .u (.block (.seq .u (.cond .u (.seq .u (.cond .u (.seq (.seq .u (.cut ⟨[(1,.c (.pb 0 7 0)),(3,.c (.int .i64)),(42,.c (.bool))],[.box (.sv false .blk)]⟩ (.cond .u .u))) .u))))))) .u))) BH Tryz.f91 [(156,⟨_,bV⟩),(157,⟨_,iE⟩)] (GH A bV.pre bV.fn iE.pre iE.fn):=fun _=>by kernel_rfl
theorem akn (A:Alg) (aC:Ct A.ah bS) (pQ:Ct A.ah BH) (pR:Ct A.ah BG): @Ru aJ.z X E A [] (.seq .u (.seq .u (.seq (.seq .u (.block (.loop ⟨[(1,.c (.pb 0 7 0)),(3,.c (.int .i64))],[.box (.sv false .blk)]⟩ .u))) .u))) jg Tryz.f30 [(89,⟨_,aC⟩),(91,⟨_,pQ⟩),(90,⟨_,pR⟩)] (GI A aC.pre aC.fn pQ.pre pQ.fn pR.pre pR.fn):=fun _=>by kernel_rfl
theorem ako (A:Alg): @Ru aJ.z X E A [] .u BI Tryz.f201 [] (GJ A):=fun _=>by kernel_rfl
theorem akp (A:Alg): @Ru aJ.z X E A [] (.seq .u (.seq (.seq .u (.block (.loop ⟨[(1,.c (.int .i64)),(2,.c (.pb 0 1 0)),(5,.c (.int .i64))],[.box (.sv false .poly)]⟩ (.seq .u (.seq (.block (.seq .u (.block (.loop ⟨[(1,.c (.int .i64)),(2,.c (.pb 0 1 0)),(5,.c (.int .i64)),(6,.c (.int .i64))],[.box (.sv false .poly)]⟩ .u)))) .u))))) .u)) uF Tryz.f202 [] (GK A):=fun _=>by kernel_rfl
theorem akq (A:Alg) (aC:Ct A.ah bS) (aX:Ct A.ah gB) (iF:Ct A.ah uF) (pU:Ct A.ah BI): @Ru aJ.z X E A [] (.seq .u (.seq (.seq .u (.block (.seq .u (.cond .u (.seq (.seq .u (.cut ⟨[(1,.c (.int .i64)),(2,.c (.pb 0 4 0)),(6,.c (.int .i64)),(16,.c (.bool))],[.box (.sv false .atom)]⟩ (.cond .u .u))) .u))))) .u)) uG Tryz.f176 [(89,⟨_,aC⟩),(19,⟨_,aX⟩),(202,⟨_,iF⟩),(201,⟨_,pU⟩)] (GL A aC.pre aC.fn aX.pre aX.fn iF.pre iF.fn pU.pre pU.fn):=fun _=>by kernel_rfl
theorem akr (A:Alg) (dV:Ct A.ah mW): @Ru aJ.z X E A [] .u uH Tryz.f177 [(147,⟨_,dV⟩)] (GU A dV.pre dV.fn):=fun _=>by kernel_rfl
theorem aks (A:Alg) (iG:Ct A.ah uG) (iH:Ct A.ah uH): @Ru aJ.z X E A [(11,[(0,([1],[])),(1,([29],[])),(2,([4],[])),(3,([30,31],[])),(4,([32],[])),(5,([1],[])),(6,([34],[])),(7,([3],[])),(8,([35,36],[])),(9,([37],[])),(10,([33,38],[]))])] (.seq .u (.seq .u (.seq (.seq .u (.block (.loop ⟨[(1,.c (.pb 0 1 0)),(3,.c (.int .i64))],[.box (.sv false .tab)]⟩ (.seq .u (.seq (.block (.seq .u (.seq .u (.block (.loop ⟨[(1,.c (.pb 0 1 0)),(3,.c (.int .i64)),(4,.c (.int .i64))],[.box (.sv false .tab)]⟩ .u))))) .u))))) .u))) uI Tryz.f130 [(176,⟨_,iG⟩),(177,⟨_,iH⟩)] (GV A iG.pre iG.fn iH.pre iH.fn):=fun _=>by kernel_rfl
theorem akt (A:Alg) (bE:Ct A.ah jf): @Ru aJ.z X E A [(1,[(0,([1],[])),(1,([3],[])),(2,([1],[])),(3,([5],[])),(4,([1],[])),(5,([7],[])),(6,([8],[])),(8,([1],[])),(9,([11],[])),(10,([12],[])),(7,([9],[1,3,10])),(11,([13],[1,3])),(12,([4,6,10,14],[])),(13,([2,15],[]))])] .u uJ Tryz.f178 [(71,⟨_,bE⟩)] (GX A bE.pre bE.fn):=fun _=>by kernel_rfl
theorem aku (A:Alg) (iI:Ct A.ah uJ): @Ru ⟨[20],[]⟩ X E A [(5,[(0,([3],[])),(1,([13],[])),(2,([1],[])),(3,([15],[])),(4,([4],[])),(5,([16,17],[])),(6,([18],[])),(7,([19],[1])),(8,([20],[1])),(9,([14,21],[])),(10,([3],[])),(11,([22,23],[]))])] (.seq .u (.seq .u (.seq (.seq .u (.block (.loop ⟨[(1,.c (.pb 0 1 0)),(2,.c (.pb 1 1 0)),(3,.c (.pb 2 1 0)),(4,.c (.int .i64))],[.box (.sv false .tab),.box (.agg [.nil]),.box (.agg [.own 3]),.rows true .atom]⟩ .u))) .u))) uK Tryz.f131 [(178,⟨_,iI⟩)] (GY A iI.pre iI.fn):=fun _=>by kernel_rfl
theorem akv (A:Alg) (iG:Ct A.ah uG) (iH:Ct A.ah uH) (iI:Ct A.ah uJ): @Ru ⟨[38],[]⟩ X E A [(6,[(0,([2],[])),(1,([21],[])),(2,([6],[])),(3,([22,23],[])),(4,([24],[])),(5,([3],[])),(6,([25,26],[]))]),(10,[(0,([2],[])),(1,([35],[])),(2,([3],[])),(3,([37],[1])),(4,([38],[1])),(5,([36,39],[])),(6,([2],[])),(7,([40,41],[]))]),(11,[(0,([2],[])),(1,([2],[])),(2,([43],[])),(3,([44],[])),(4,([45],[])),(5,([4,42],[2])),(6,([46],[]))])] (.seq .u (.seq .u (.seq (.seq .u (.block (.loop ⟨[(2,.c (.pb 1 1 0)),(3,.c (.pb 2 4 0)),(4,.c (.pb 3 1 0)),(6,.c (.int .i64))],[.rows true .atom,.box (.agg [.own 0]),.box (.sv false .atom),.box (.agg [.nil])]⟩ .u))) .u))) uL Tryz.f132 [(176,⟨_,iG⟩),(177,⟨_,iH⟩),(178,⟨_,iI⟩)] (GZ A iG.pre iG.fn iH.pre iH.fn iI.pre iI.fn):=fun _=>by kernel_rfl
theorem akw (A:Alg) (iB:Ct A.ah uD) (iC:Ct A.ah uz) (pV:Ct A.ah Bz): @Ru aJ.z X E A [(5,[(0,([4],[])),(1,([5],[])),(2,([19],[0])),(3,([18,20],[])),(4,([21],[])),(5,([21],[])),(6,([6,22],[])),(7,([23],[]))])] .u BJ Tryz.f179 [(200,⟨_,iB⟩),(128,⟨_,iC⟩),(127,⟨_,pV⟩)] (G5 A iB.pre iB.fn iC.pre iC.fn pV.pre pV.fn):=fun _=>by kernel_rfl
theorem akx (A:Alg) (bT:Ct A.ah jQ) (bV:Ct A.ah jS): @Ru aJ.z X E A [] .u uM Tryz.f115 [(170,⟨_,bT⟩),(156,⟨_,bV⟩)] (G6 A bT.pre bT.fn bV.pre bV.fn):=fun _=>by kernel_rfl
theorem aky (A:Alg) (bE:Ct A.ah jf): @Ru aJ.z X E A [] .u BK Tryz.f203 [(71,⟨_,bE⟩)] (G7 A bE.pre bE.fn):=fun _=>by kernel_rfl
theorem akz (A:Alg) (dV:Ct A.ah mW) (bE:Ct A.ah jf) (iJ:Ct A.ah uM) (iD:Ct A.ah uj) (pW:Ct A.ah BD) (pX:Ct A.ah BK): @Ru aJ.z X E A [] .u BL Tryz.f180 [(147,⟨_,dV⟩),(71,⟨_,bE⟩),(115,⟨_,iJ⟩),(62,⟨_,iD⟩),(73,⟨_,pW⟩),(203,⟨_,pX⟩)] (G8 A dV.pre dV.fn bE.pre bE.fn iJ.pre iJ.fn iD.pre iD.fn pW.pre pW.fn pX.pre pX.fn):=fun _=>by kernel_rfl
theorem akA (A:Alg) (bU:Ct A.ah jR) (dV:Ct A.ah mW) (pY:Ct A.ah BJ) (qb:Ct A.ah BL) (iK:Ct A.ah uL): @Ru aJ.z X E A [(5,[(0,([4],[])),(1,([10],[])),(2,([8,36],[1])),(3,([9,37],[]))]),(12,[(0,([13],[])),(1,([14],[])),(2,([65],[0])),(3,([8,64],[])),(4,([9,66],[]))])] (.seq .u (.seq .u (.seq (.seq .u (.cut ⟨[(1,.c (.int .i64)),(4,.c (.pb 1 1 0)),(6,.c (.pb 2 1 0)),(7,.c (.pb 3 1 0)),(8,.c (.pb 4 1 0)),(9,.c (.pb 5 1 0)),(10,.c (.pb 6 1 0)),(11,.c (.bool))],[.rows true .atom,.box (.agg [.own 0]),.box (.sv false .poly),.box (.sv false .poly),.box (.agg [.nil]),.box (.agg [.nil]),.box (.agg [.own 7]),.rows true .mono]⟩ (.cond .u .u))) (.seq .u (.seq .u (.seq (.seq .u (.cut ⟨[(4,.c (.pb 1 1 0)),(8,.c (.pb 2 1 0)),(9,.c (.pb 3 1 0)),(12,.c (.pb 4 4 0))],[.rows true .atom,.box (.agg [.own 0]),.box (.agg [.nil]),.box (.agg [.nil]),.box (.agg [.int .i64,.int .i64,.rows false .mono,.rows false .mono])]⟩ (.cond .u .u))) .u)))))) BM Tryz.f134 [(129,⟨_,bU⟩),(147,⟨_,dV⟩),(179,⟨_,pY⟩),(180,⟨_,qb⟩),(132,⟨_,iK⟩)] (G9 A bU.pre bU.fn dV.pre dV.fn pY.pre pY.fn qb.pre qb.fn iK.pre iK.fn):=fun _=>by kernel_rfl
theorem akB (A:Alg): @Ru aJ.z X E A [] .u mX Tryz.f113 [] (Hg A):=fun _=>by kernel_rfl
theorem akC (A:Alg) (aC:Ct A.ah bS): @Ru aJ.z X E A [] (.seq .u (.seq .u (.seq (.seq .u (.cut ⟨[(1,.c (.rows false .i64)),(2,.c (.pb 0 5 0)),(4,.c (.pb 1 5 0)),(5,.c (.pb 2 5 0))],[.box (.sv false .iop),.box (.agg [.int .i64,.int .i64,.int .i64,.int .i64,.int .i64]),.box (.sv true .iop)]⟩ (.cond .u .u))) (.seq (.seq .u (.cut ⟨[(4,.c (.pb 0 5 0)),(5,.c (.pb 1 5 0))],[.box (.agg [.int .i64,.int .i64,.int .i64,.int .i64,.int .i64]),.box (.sv true .iop)]⟩ (.cond .u .u))) .u)))) uN Tryz.f125 [(89,⟨_,aC⟩)] (Hl A aC.pre aC.fn):=fun _=>by kernel_rfl
theorem akD (A:Alg) (bF:Ct A.ah jg) (iL:Ct A.ah uN) (dW:Ct A.ah mX): @Ru aJ.z X E A [] (.seq .u (.seq .u (.seq .u (.seq .u (.seq .u (.seq (.seq .u (.block (.loop ⟨[(2,.c (.pb 0 7 0)),(3,.c (.pb 1 7 0)),(4,.c (.own 2)),(5,.c (.own 3)),(6,.c (.int .i64))],[.box (.agg [.int .i64,.int .i64,.nil,.int .i64,.int .i64,.int .i64,.int .i64]),.box (.agg [.int .i64,.int .i64,.own 4,.int .i64,.int .i64,.int .i64,.int .i64]),.rows true .i64,.rows true .i64,.rows true .iop]⟩ (.seq .u (.seq (.block (.seq .u (.seq .u (.seq .u (.seq (.seq .u (.cut ⟨[(2,.c (.pb 0 7 0)),(3,.c (.pb 1 7 0)),(4,.c (.own 2)),(5,.c (.own 3)),(6,.c (.int .i64)),(7,.c (.pb 4 5 0)),(8,.c (.int .i64))],[.box (.agg [.int .i64,.int .i64,.nil,.int .i64,.int .i64,.int .i64,.int .i64]),.box (.agg [.int .i64,.int .i64,.own 5,.int .i64,.int .i64,.int .i64,.int .i64]),.rows true .i64,.rows true .i64,.box (.sv true .iop),.rows true .iop]⟩ (.cond .u .u))) (.seq (.seq .u (.cut ⟨[(2,.c (.pb 0 7 0)),(3,.c (.pb 1 7 0)),(4,.c (.own 2)),(5,.c (.own 3)),(6,.c (.int .i64)),(7,.c (.pb 4 5 0)),(8,.c (.int .i64))],[.box (.agg [.int .i64,.int .i64,.nil,.int .i64,.int .i64,.int .i64,.int .i64]),.box (.agg [.int .i64,.int .i64,.own 5,.int .i64,.int .i64,.int .i64,.int .i64]),.rows true .i64,.rows true .i64,.box (.sv true .iop),.rows true .iop]⟩ (.cond .u .u))) (.seq (.seq .u (.cut ⟨[(2,.c (.pb 0 7 0)),(3,.c (.pb 1 7 0)),(4,.c (.own 2)),(5,.c (.own 3)),(6,.c (.int .i64)),(8,.c (.int .i64))],[.box (.agg [.int .i64,.int .i64,.nil,.int .i64,.int .i64,.int .i64,.int .i64]),.box (.agg [.int .i64,.int .i64,.own 4,.int .i64,.int .i64,.int .i64,.int .i64]),.rows true .i64,.rows true .i64,.rows true .iop]⟩ (.cond .u .u))) .u))))))) .u))))) (.seq (.seq .u (.cut ⟨[(2,.c (.pb 0 7 0)),(3,.c (.pb 1 7 0)),(4,.c (.own 2))],[.box (.agg [.int .i64,.int .i64,.nil,.int .i64,.int .i64,.int .i64,.int .i64]),.box (.agg [.int .i64,.int .i64,.own 3,.int .i64,.int .i64,.int .i64,.int .i64]),.rows true .i64,.rows true .iop]⟩ (.cond .u .u))) (.seq (.seq .u (.cut ⟨[(2,.c (.pb 0 7 0)),(3,.c (.pb 1 7 0))],[.box (.agg [.int .i64,.int .i64,.nil,.int .i64,.int .i64,.int .i64,.int .i64]),.box (.agg [.int .i64,.int .i64,.own 2,.int .i64,.int .i64,.int .i64,.int .i64]),.rows true .iop]⟩ (.cond .u .u))) .u)))))))) uO Tryz.f54 [(30,⟨_,bF⟩),(125,⟨_,iL⟩),(113,⟨_,dW⟩)] (Ho A bF.pre bF.fn iL.pre iL.fn dW.pre dW.fn):=fun _=>by kernel_rfl
theorem akE (A:Alg): @Ru aJ.z X E A [] .u uP Tryz.f114 [] (Ht A):=fun _=>by kernel_rfl
theorem akF (A:Alg): @Ru aJ.z X E A [] .u BN Tryz.f171 [] (Hu A):=fun _=>by kernel_rfl
theorem akG (A:Alg) (qc:Ct A.ah BN) (iM:Ct A.ah uP): @Ru aJ.z X E A [] (.seq .u (.seq .u (.seq .u (.seq (.block (.seq .u (.cond .u (.seq (.seq .u (.cut ⟨[(1,.c (.pb 0 7 0)),(2,.c (.pb 1 7 0)),(4,.c (.bool)),(6,.c (.bool)),(33,.c (.bool))],[.box (.sv false .blk),.box (.agg [.int .i64,.int .i64,.nil,.int .i64,.int .i64,.int .i64,.int .i64])]⟩ (.cond .u .u))) .u)))) .u)))) BO Tryz.f116 [(171,⟨_,qc⟩),(114,⟨_,iM⟩)] (Hw A qc.pre qc.fn iM.pre iM.fn):=fun _=>by kernel_rfl
theorem akH (A:Alg) (bF:Ct A.ah jg) (iJ:Ct A.ah uM) (qd:Ct A.ah BO) (iM:Ct A.ah uP) (dW:Ct A.ah mX): @Ru aJ.z X E A [(11,[(0,([3],[])),(1,([53],[])),(2,([4],[])),(3,([5],[])),(4,([56],[])),(5,([6],[])),(6,([8],[])),(7,([57,58,59],[1])),(8,([60],[])),(9,([54,55],[])),(10,([61,62],[]))])] (.seq .u (.seq .u (.seq .u (.seq (.seq .u (.block (.loop ⟨[(2,.c (.pb 0 7 0)),(3,.c (.pb 1 7 0)),(4,.c (.int .i64))],[.box (.agg [.int .i64,.int .i64,.nil,.int .i64,.int .i64,.int .i64,.int .i64]),.box (.agg [.int .i64,.int .i64,.own 2,.int .i64,.int .i64,.int .i64,.int .i64]),.rows true .iop]⟩ (.seq .u (.seq (.block (.seq .u (.seq .u (.seq .u (.seq .u (.cut ⟨[(2,.c (.pb 0 7 0)),(3,.c (.pb 1 7 0)),(4,.c (.int .i64))],[.box (.agg [.int .i64,.int .i64,.nil,.int .i64,.int .i64,.int .i64,.int .i64]),.box (.agg [.int .i64,.int .i64,.own 2,.int .i64,.int .i64,.int .i64,.int .i64]),.rows true .iop]⟩ (.cond .u .u))))))) .u))))) .u)))) BP Tryz.f42 [(30,⟨_,bF⟩),(115,⟨_,iJ⟩),(116,⟨_,qd⟩),(114,⟨_,iM⟩),(113,⟨_,dW⟩)] (HV A bF.pre bF.fn iJ.pre iJ.fn qd.pre qd.fn iM.pre iM.fn dW.pre dW.fn):=fun _=>by kernel_rfl
theorem akI (A:Alg): @Ru aJ.z X E A [(4,[(0,([0],[])),(1,([5],[])),(2,([14,15],[])),(3,([16],[])),(4,([17],[])),(5,([18],[])),(6,([19],[])),(7,([0,20],[])),(8,([5,20],[])),(9,([20,21,22],[])),(10,([20,23],[])),(11,([20,24],[])),(12,([20,25],[])),(13,([20,26],[])),(14,([27],[])),(15,([0,28],[])),(16,([5,28],[])),(17,([28,29,30],[])),(18,([28,31],[])),(19,([28,32],[])),(20,([28,33],[])),(21,([28,34],[])),(22,([0,35],[])),(23,([5,35],[])),(24,([35,36,37],[])),(25,([35,38],[])),(26,([35,39],[])),(27,([0,35],[])),(28,([1,35],[])),(29,([35,41,42],[])),(30,([35,43],[])),(31,([35,44],[])),(32,([35,40,45],[])),(33,([28,35,46],[])),(34,([28,47],[]))]),(6,[(0,([0],[])),(1,([5],[])),(2,([49,50],[])),(3,([51],[])),(4,([52],[])),(5,([53],[])),(6,([54],[])),(7,([0,55],[])),(8,([5,55],[])),(9,([55,56,57],[])),(10,([55,58],[])),(11,([55,59],[])),(12,([0,55],[])),(13,([1,55],[])),(14,([55,61,62],[])),(15,([55,63],[])),(16,([55,64],[])),(17,([55,60,65],[])),(18,([55,66],[]))])] (.seq .u (.seq (.seq .u (.block (.loop ⟨[(0,.c (.rows false .iop)),(1,.c (.int .i64)),(5,.c (.int .i64))],[]⟩ .u))) .u)) BQ Tryz.f118 [] (HY A):=fun _=>by kernel_rfl
theorem akJ (A:Alg) (iL:Ct A.ah uN): @Ru aJ.z X E A [] (.seq .u (.seq .u (.seq .u (.seq (.seq .u (.block (.loop ⟨[(1,.c (.rows false .bool)),(2,.c (.pb 0 7 0)),(4,.c (.pb 1 7 0)),(5,.c (.own 2)),(6,.c (.own 3)),(7,.c (.int .i64))],[.box (.sv false .blk),.box (.agg [.int .i64,.int .i64,.nil,.int .i64,.int .i64,.int .i64,.int .i64]),.rows true .iop,.rows true .i64]⟩ (.seq .u (.seq (.block (.seq .u (.seq .u (.cut ⟨[(1,.c (.rows false .bool)),(2,.c (.pb 0 7 0)),(4,.c (.pb 1 7 0)),(5,.c (.own 2)),(6,.c (.own 3)),(7,.c (.int .i64))],[.box (.sv false .blk),.box (.agg [.int .i64,.int .i64,.nil,.int .i64,.int .i64,.int .i64,.int .i64]),.rows true .iop,.rows true .i64]⟩ (.cond .u .u))))) .u))))) (.seq .u (.seq .u (.seq (.seq .u (.cut ⟨[(2,.c (.pb 0 7 0)),(4,.c (.pb 1 7 0)),(6,.c (.own 2)),(8,.c (.pb 3 7 0))],[.box (.sv false .blk),.box (.agg [.int .i64,.int .i64,.nil,.int .i64,.int .i64,.int .i64,.int .i64]),.rows true .i64,.box (.agg [.int .i64,.int .i64,.own 4,.int .i64,.int .i64,.int .i64,.int .i64]),.rows true .iop]⟩ (.cond .u .u))) (.seq (.seq .u (.cut ⟨[(4,.c (.pb 0 7 0)),(8,.c (.pb 1 7 0))],[.box (.agg [.int .i64,.int .i64,.nil,.int .i64,.int .i64,.int .i64,.int .i64]),.box (.agg [.int .i64,.int .i64,.own 2,.int .i64,.int .i64,.int .i64,.int .i64]),.rows true .iop]⟩ (.cond .u .u))) .u)))))))) uQ Tryz.f119 [(125,⟨_,iL⟩)] (HZ A iL.pre iL.fn):=fun _=>by kernel_rfl
end Go.TX.Seat
