/- Part 5 of a proof: what the last part needs. No condition. -/
import Derived.Test.YtlfjmffimnjcgaaGreatZd
set_option linter.all false
set_option linter.unusedSectionVars false
set_option linter.unusedVariables false
set_option linter.unusedSimpArgs false
namespace Go.TX.Seat
open Go Go.AE Go.TX Go.TX.F Go.Proofs
set_option maxRecDepth 100000
def ord_k68:List (Nat×List DEnt):=[(4,[(0,([9],[])),(1,([1],[])),(2,([18,19],[])),(3,([20],[])),(4,([3,21],[])),(5,([0,21],[])),(6,([9,21],[])),(7,([21,23,24],[])),(8,([21,25],[])),(9,([0,21],[])),(10,([9,21],[])),(11,([21,28],[])),(12,([21,27,29],[])),(13,([21,30],[])),(14,([21,22,26,31],[])),(15,([21,32],[])),(16,([21,33],[]))]),(6,[(0,([0],[])),(1,([9],[])),(2,([0],[])),(3,([9],[])),(4,([40],[])),(5,([0],[])),(6,([9],[])),(7,([43],[])),(8,([42,44],[])),(9,([45],[])),(10,([0],[])),(11,([9],[])),(12,([47,48],[])),(13,([49],[])),(14,([37,38],[])),(15,([46,51],[])),(16,([39,41],[])),(17,([50,52],[]))])]
def an_k68:Ann:=(.seq .u (.block (.loop ⟨[(0,.c (.own 0)),(1,.c (.int .i64)),(2,.c (.int .i64)),(3,.c (.fn 110 [])),(8,.c (.int .i64))],[.rows false .mono]⟩ (.seq .u (.seq (.block (.seq .u (.block (.loop ⟨[(0,.c (.own 0)),(1,.c (.int .i64)),(2,.c (.int .i64)),(3,.c (.fn 110 [])),(8,.c (.int .i64)),(9,.c (.int .i64))],[.rows false .mono]⟩ .u)))) .u)))))
@[reducible] def lk_k68 : LitK := ⟨[]⟩
theorem run_k68 (A:Alg) (c_k39:Ct A.toCar s_k39) (x:Tup A.toCar s_k68.inp): @runX lk_k68 A X (ofL A.toCar [(110,⟨s_k39,c_k39⟩)]) (ordL ord_k68) (@chkL lk_k68 E ord_k68) an_k68 s_k68 Tryz.f126 (Tryz.f126.body.getD .skip) x=F_k68 A c_k39.pre c_k39.fn x:=by kernel_rfl
def ord_k77:List (Nat×List DEnt):=[(3,[(0,([0],[])),(1,([1],[])),(2,([10],[])),(3,([17,18],[])),(4,([0],[])),(5,([2],[])),(6,([10],[])),(7,([21,22],[])),(8,([0],[])),(9,([2],[])),(10,([10],[])),(11,([25,26],[])),(12,([24,27],[])),(13,([28],[])),(14,([0],[])),(15,([1],[])),(16,([10],[])),(17,([31,32],[])),(18,([30,33],[])),(19,([34],[])),(20,([16,19],[])),(21,([29,36],[])),(22,([20,23],[])),(23,([35,37],[]))])]
def an_k77:Ann:=(.seq .u (.block (.loop ⟨[(0,.c (.own 0)),(1,.c (.int .i64)),(2,.c (.int .i64)),(3,.c (.int .i64)),(10,.c (.int .i64))],[.rows false .mono]⟩ .u)))
@[reducible] def lk_k77 : LitK := ⟨[]⟩
theorem run_k77 (A:Alg) (x:Tup A.toCar s_k77.inp): @runX lk_k77 A X (ofL A.toCar []) (ordL ord_k77) (@chkL lk_k77 E ord_k77) an_k77 s_k77 Tryz.f135 (Tryz.f135.body.getD .skip) x=F_k77 A x:=by kernel_rfl
def ord_k75:List (Nat×List DEnt):=[]
def an_k75:Ann:=(.seq .u (.seq .u (.seq (.block (.loop ⟨[(0,.c (.own 0)),(2,.c (.int .i64)),(4,.c (.fn 110 [])),(10,.c (.int .i64)),(11,.c (.int .i64))],[.rows false .mono]⟩ (.seq .u (.block (.seq .u (.cut ⟨[(0,.c (.own 0)),(2,.c (.int .i64)),(4,.c (.fn 110 [])),(10,.c (.int .i64)),(11,.c (.int .i64))],[.rows false .mono]⟩ (.cond .u .u))))))) .u)))
@[reducible] def lk_k75 : LitK := ⟨[]⟩
theorem run_k75 (A:Alg) (c_k77:Ct A.toCar s_k77) (x:Tup A.toCar s_k75.inp): @runX lk_k75 A X (ofL A.toCar [(135,⟨s_k77,c_k77⟩)]) (ordL ord_k75) (@chkL lk_k75 E ord_k75) an_k75 s_k75 Tryz.f133 (Tryz.f133.body.getD .skip) x=F_k75 A c_k77.pre c_k77.fn x:=by kernel_rfl
def ord_k78:List (Nat×List DEnt):=[(5,[(0,([4],[])),(1,([0],[])),(2,([12],[])),(3,([41,42],[])),(4,([43],[])),(5,([0],[])),(6,([1],[])),(7,([45,46],[])),(8,([47],[])),(9,([40,44,48],[])),(10,([49],[]))]),(11,[(0,([0],[])),(1,([13],[])),(2,([0],[])),(3,([13],[])),(4,([64],[])),(5,([0],[])),(6,([13],[])),(7,([67],[])),(8,([66,68],[])),(9,([69],[])),(10,([0],[])),(11,([13],[])),(12,([71,72],[])),(13,([73],[])),(14,([61,62],[])),(15,([70,75],[])),(16,([63,65],[])),(17,([74,76],[]))]),(17,[(0,([4],[])),(1,([0],[])),(2,([2],[])),(3,([93,94],[])),(4,([95],[])),(5,([0],[])),(6,([16],[])),(7,([97,98],[])),(8,([99],[])),(9,([92,96,100],[])),(10,([101],[])),(11,([102],[]))]),(23,[(0,([0],[])),(1,([17],[])),(2,([0],[])),(3,([17],[])),(4,([116],[])),(5,([0],[])),(6,([17],[])),(7,([119],[])),(8,([118,120],[])),(9,([121],[])),(10,([0],[])),(11,([17],[])),(12,([123,124],[])),(13,([125],[])),(14,([113,114],[])),(15,([122,127],[])),(16,([115,117],[])),(17,([126,128],[]))]),(35,[(0,([4],[])),(1,([0],[])),(2,([22],[])),(3,([23],[])),(4,([160,161],[])),(5,([159,162],[])),(6,([163],[])),(7,([0],[])),(8,([23],[])),(9,([165,166],[])),(10,([167],[])),(11,([158,164,168],[])),(12,([169],[])),(13,([170],[]))])]
def an_k78:Ann:=(.seq (.seq .u (.cond (.seq .u (.seq .u (.seq (.block (.loop ⟨[(0,.c (.own 0)),(1,.c (.int .i64)),(4,.c (.fn 110 [])),(10,.c (.int .i64)),(11,.c (.int .i64))],[.rows false .mono]⟩ (.seq .u (.block (.seq .u (.seq .u (.cut ⟨[(0,.c (.own 0)),(1,.c (.int .i64)),(4,.c (.fn 110 [])),(10,.c (.int .i64)),(11,.c (.int .i64))],[.rows false .mono]⟩ (.cond .u .u)))))))) (.seq (.seq .u (.block (.loop ⟨[(0,.c (.own 0)),(10,.c (.int .i64)),(13,.c (.int .i64))],[.rows false .mono]⟩ .u))) .u)))) .u)) (.seq (.seq .u (.cond (.seq .u (.seq .u (.seq (.block (.loop ⟨[(0,.c (.own 0)),(2,.c (.int .i64)),(4,.c (.fn 110 [])),(14,.c (.int .i64)),(15,.c (.int .i64))],[.rows false .mono]⟩ (.seq .u (.block (.seq .u (.seq .u (.cut ⟨[(0,.c (.own 0)),(2,.c (.int .i64)),(4,.c (.fn 110 [])),(14,.c (.int .i64)),(15,.c (.int .i64))],[.rows false .mono]⟩ (.cond .u .u)))))))) (.seq (.seq .u (.block (.loop ⟨[(0,.c (.own 0)),(14,.c (.int .i64)),(17,.c (.int .i64))],[.rows false .mono]⟩ .u))) .u)))) .u)) (.seq .u (.seq .u (.seq .u (.seq (.seq .u (.cut ⟨[(0,.c (.own 0)),(1,.c (.int .i64)),(2,.c (.int .i64)),(3,.c (.int .i64)),(4,.c (.fn 110 [])),(18,.c (.int .i64)),(19,.c (.int .i64)),(20,.c (.int .i64)),(21,.c (.int .i64))],[.rows false .mono]⟩ (.cond .u .u))) (.seq .u (.seq (.block (.loop ⟨[(0,.c (.own 0)),(1,.c (.int .i64)),(2,.c (.int .i64)),(3,.c (.int .i64)),(4,.c (.fn 110 [])),(18,.c (.int .i64)),(19,.c (.int .i64)),(20,.c (.int .i64)),(21,.c (.int .i64)),(22,.c (.int .i64))],[.rows false .mono]⟩ (.seq .u (.block (.seq .u (.seq .u (.cut ⟨[(0,.c (.own 0)),(1,.c (.int .i64)),(2,.c (.int .i64)),(3,.c (.int .i64)),(4,.c (.fn 110 [])),(18,.c (.int .i64)),(19,.c (.int .i64)),(20,.c (.int .i64)),(21,.c (.int .i64)),(22,.c (.int .i64))],[.rows false .mono]⟩ (.cond .u .u)))))))) (.seq .u (.seq (.seq .u (.cut ⟨[(0,.c (.own 0)),(1,.c (.int .i64)),(3,.c (.int .i64)),(4,.c (.fn 110 [])),(18,.c (.int .i64)),(20,.c (.int .i64)),(24,.c (.int .i64))],[.rows false .mono]⟩ (.cond .u .u))) (.seq (.seq .u (.cut ⟨[(0,.c (.own 0)),(3,.c (.int .i64)),(4,.c (.fn 110 [])),(18,.c (.int .i64)),(24,.c (.int .i64))],[.rows false .mono]⟩ (.cond .u .u))) (.seq .u (.cut ⟨[],[.rows false .mono]⟩ (.cond .u .u))))))))))))))
@[reducible] def lk_k78 : LitK := ⟨[]⟩
theorem run_k78 (A:Alg) (c_k39:Ct A.toCar s_k39) (c_k75:Ct A.toCar s_k75) (c_k78:Ct A.toCar s_k78) (x:Tup A.toCar s_k78.inp): @runX lk_k78 A X (ofL A.toCar [(110,⟨s_k39,c_k39⟩),(133,⟨s_k75,c_k75⟩),(127,⟨s_k78,c_k78⟩)]) (ordL ord_k78) (@chkL lk_k78 E ord_k78) an_k78 s_k78 Tryz.f127 (Tryz.f127.body.getD .skip) x=F_k78 A c_k39.pre c_k39.fn c_k75.pre c_k75.fn c_k78.pre c_k78.fn x:=by kernel_rfl
def ord_k76:List (Nat×List DEnt):=[]
def an_k76:Ann:=(.seq .u (.seq .u (.seq (.block (.loop ⟨[(0,.c (.own 0)),(1,.c (.int .i64)),(2,.c (.fn 110 [])),(6,.c (.int .i64)),(7,.c (.int .i64)),(8,.c (.int .i64))],[.rows false .mono]⟩ .u)) (.seq .u (.block (.loop ⟨[(0,.c (.own 0)),(1,.c (.int .i64)),(2,.c (.fn 110 [])),(6,.c (.int .i64))],[.rows false .mono]⟩ (.seq .u (.block (.seq .u (.seq (.block (.loop ⟨[(0,.c (.own 0)),(1,.c (.int .i64)),(2,.c (.fn 110 [])),(6,.c (.int .i64)),(7,.c (.int .i64)),(8,.c (.int .i64))],[.rows false .mono]⟩ .u)) (.seq (.seq .u (.seq .u (.cut ⟨[(0,.c (.own 0)),(1,.c (.int .i64)),(2,.c (.fn 110 [])),(6,.c (.int .i64))],[.rows false .mono]⟩ (.cond .u .u)))) .u)))))))))))
@[reducible] def lk_k76 : LitK := ⟨[]⟩
theorem run_k76 (A:Alg) (c_k68:Ct A.toCar s_k68) (c_k78:Ct A.toCar s_k78) (x:Tup A.toCar s_k76.inp): @runX lk_k76 A X (ofL A.toCar [(126,⟨s_k68,c_k68⟩),(127,⟨s_k78,c_k78⟩)]) (ordL ord_k76) (@chkL lk_k76 E ord_k76) an_k76 s_k76 Tryz.f115 (Tryz.f115.body.getD .skip) x=F_k76 A c_k68.pre c_k68.fn c_k78.pre c_k78.fn x:=by kernel_rfl
def ord_k63:List (Nat×List DEnt):=[]
def an_k63:Ann:= .u
@[reducible] def lk_k63 : LitK := ⟨[]⟩
theorem run_k63 (A:Alg) (c_k76:Ct A.toCar s_k76) (x:Tup A.toCar s_k63.inp): @runX lk_k63 A X (ofL A.toCar [(115,⟨s_k76,c_k76⟩)]) (ordL ord_k63) (@chkL lk_k63 E ord_k63) an_k63 s_k63 Tryz.f109 (Tryz.f109.body.getD .skip) x=F_k63 A c_k76.pre c_k76.fn x:=by kernel_rfl
def ord_k38:List (Nat×List DEnt):=[(5,[(0,([0],[])),(1,([5],[])),(2,([14,15],[])),(3,([16],[])),(5,([],[])),(4,([],[])),(6,([7,17],[]))]),(6,[(0,([5],[])),(1,([0],[])),(2,([19],[])),(3,([18,20],[])),(4,([21],[])),(5,([7,22],[])),(6,([22,23],[])),(7,([0,22],[])),(8,([5,22],[])),(9,([22,25,26],[])),(10,([22,27],[])),(11,([22,28],[])),(12,([22,24,29],[])),(13,([22,30],[])),(14,([22,31],[]))]),(10,[(0,([4],[])),(1,([45],[])),(2,([6],[])),(3,([7],[])),(4,([48],[])),(5,([49],[1])),(6,([47,50],[])),(7,([51],[1])),(8,([46,52],[])),(9,([4],[])),(10,([53,54],[]))])]
def an_k38:Ann:=(.seq .u (.seq .u (.seq .u (.seq (.seq .u (.block (.loop ⟨[(0,.c (.own 0)),(2,.c (.pb 1 1 0)),(4,.c (.pb 2 1 0)),(5,.c (.int .i64))],[.rows false .mono,.box (.agg [.nil]),.box (.agg [.own 3]),.rows true .mono]⟩ (.seq .u (.block (.seq .u (.seq (.block (.loop ⟨[(0,.c (.own 0)),(2,.c (.pb 1 1 0)),(4,.c (.pb 2 1 0)),(5,.c (.int .i64)),(6,.c (.int .i64)),(7,.c (.pb 3 2 0))],[.rows false .mono,.box (.agg [.nil]),.box (.agg [.own 4]),.box (.sv false .mono),.rows true .mono]⟩ .u)) (.seq .u (.cut ⟨[(0,.c (.own 0)),(2,.c (.pb 1 1 0)),(4,.c (.pb 2 1 0)),(5,.c (.int .i64))],[.rows false .mono,.box (.agg [.nil]),.box (.agg [.own 3]),.rows true .mono]⟩ (.cond .u .u)))))))))) .u))))
@[reducible] def lk_k38 : LitK := ⟨[51]⟩
theorem run_k38 (A:Alg) (c_k32:Ct A.toCar s_k32) (c_k10:Ct A.toCar s_k10) (c_k31:Ct A.toCar s_k31) (c_k33:Ct A.toCar s_k33) (c_k63:Ct A.toCar s_k63) (x:Tup A.toCar s_k38.inp): @runX lk_k38 A X (ofL A.toCar [(56,⟨s_k32,c_k32⟩),(31,⟨s_k10,c_k10⟩),(75,⟨s_k31,c_k31⟩),(65,⟨s_k33,c_k33⟩),(109,⟨s_k63,c_k63⟩)]) (ordL ord_k38) (@chkL lk_k38 E ord_k38) an_k38 s_k38 Tryz.f105 (Tryz.f105.body.getD .skip) x=F_k38 A c_k32.pre c_k32.fn c_k10.pre c_k10.fn c_k31.pre c_k31.fn c_k33.pre c_k33.fn c_k63.pre c_k63.fn x:=by kernel_rfl
def ord_k57:List (Nat×List DEnt):=[]
def an_k57:Ann:=(.seq .u (.seq .u (.seq (.seq .u (.seq .u (.cut ⟨[(0,.c (.own 0))],[.rows true .mono]⟩ (.cond .u .u)))) .u)))
@[reducible] def lk_k57 : LitK := ⟨[]⟩
theorem run_k57 (A:Alg) (x:Tup A.toCar s_k57.inp): @runX lk_k57 A X (ofL A.toCar []) (ordL ord_k57) (@chkL lk_k57 E ord_k57) an_k57 s_k57 Tryz.f111 (Tryz.f111.body.getD .skip) x=F_k57 A x:=by kernel_rfl
def ord_k53:List (Nat×List DEnt):=[]
def an_k53:Ann:=(.seq .u (.seq .u (.seq (.seq .u (.block (.loop ⟨[(0,.c (.rows false .poly)),(3,.c (.int .i64)),(9,.c (.rows false .poly)),(10,.c (.int .i64)),(11,.c (.int .i64))],[]⟩ .u))) (.seq .u (.seq (.seq .u (.block (.loop ⟨[(6,.c (.own 0)),(25,.c (.rows false .poly)),(26,.c (.int .i64)),(27,.c (.int .i64))],[.rows false .mono]⟩ .u))) .u)))))
@[reducible] def lk_k53 : LitK := ⟨[]⟩
theorem run_k53 (A:Alg) (c_k57:Ct A.toCar s_k57) (x:Tup A.toCar s_k53.inp): @runX lk_k53 A X (ofL A.toCar [(111,⟨s_k57,c_k57⟩)]) (ordL ord_k53) (@chkL lk_k53 E ord_k53) an_k53 s_k53 Tryz.f106 (Tryz.f106.body.getD .skip) x=F_k53 A c_k57.pre c_k57.fn x:=by kernel_rfl
def ord_k4:List (Nat×List DEnt):=[]
def an_k4:Ann:= .u
@[reducible] def lk_k4 : LitK := ⟨[]⟩
theorem run_k4 (A:Alg) (c_k10:Ct A.toCar s_k10) (c_k38:Ct A.toCar s_k38) (c_k53:Ct A.toCar s_k53) (x:Tup A.toCar s_k4.inp): @runX lk_k4 A X (ofL A.toCar [(31,⟨s_k10,c_k10⟩),(105,⟨s_k38,c_k38⟩),(106,⟨s_k53,c_k53⟩)]) (ordL ord_k4) (@chkL lk_k4 E ord_k4) an_k4 s_k4 Tryz.f91 (Tryz.f91.body.getD .skip) x=F_k4 A c_k10.pre c_k10.fn c_k38.pre c_k38.fn c_k53.pre c_k53.fn x:=by kernel_rfl
def ord_k58:List (Nat×List DEnt):=[]
def an_k58:Ann:=(.seq .u (.seq .u (.seq (.seq .u (.seq .u (.cut ⟨[(0,.c (.own 0))],[.rows true .i64]⟩ (.cond .u .u)))) .u)))
@[reducible] def lk_k58 : LitK := ⟨[]⟩
theorem run_k58 (A:Alg) (x:Tup A.toCar s_k58.inp): @runX lk_k58 A X (ofL A.toCar []) (ordL ord_k58) (@chkL lk_k58 E ord_k58) an_k58 s_k58 Tryz.f112 (Tryz.f112.body.getD .skip) x=F_k58 A x:=by kernel_rfl
def ord_k54:List (Nat×List DEnt):=[]
def an_k54:Ann:=(.seq .u (.seq .u (.seq (.seq .u (.block (.loop ⟨[(0,.c (.rows false .ints)),(3,.c (.int .i64)),(9,.c (.rows false .ints)),(10,.c (.int .i64)),(11,.c (.int .i64))],[]⟩ .u))) (.seq .u (.seq (.seq .u (.block (.loop ⟨[(6,.c (.own 0)),(25,.c (.rows false .ints)),(26,.c (.int .i64)),(27,.c (.int .i64))],[.rows true .i64]⟩ .u))) .u)))))
@[reducible] def lk_k54 : LitK := ⟨[]⟩
theorem run_k54 (A:Alg) (c_k58:Ct A.toCar s_k58) (x:Tup A.toCar s_k54.inp): @runX lk_k54 A X (ofL A.toCar [(112,⟨s_k58,c_k58⟩)]) (ordL ord_k54) (@chkL lk_k54 E ord_k54) an_k54 s_k54 Tryz.f107 (Tryz.f107.body.getD .skip) x=F_k54 A c_k58.pre c_k58.fn x:=by kernel_rfl
def ord_k69:List (Nat×List DEnt):=[(4,[(0,([7],[])),(1,([1],[])),(2,([16,17],[])),(3,([18],[])),(4,([0,19],[])),(5,([7,19],[])),(6,([19,20,21],[])),(7,([19,22],[])),(8,([0,19],[])),(9,([7,19],[])),(10,([19,25],[])),(11,([19,24,26],[])),(12,([19,27],[])),(13,([19,23,28],[])),(14,([19,29],[]))]),(6,[(0,([0],[])),(1,([7],[])),(2,([0],[])),(3,([7],[])),(4,([36],[])),(5,([0],[])),(6,([7],[])),(7,([39],[])),(8,([38,40],[])),(9,([41],[])),(10,([0],[])),(11,([7],[])),(12,([43,44],[])),(13,([45],[])),(14,([33,34],[])),(15,([42,47],[])),(16,([35,37],[])),(17,([46,48],[]))])]
def an_k69:Ann:=(.seq .u (.block (.loop ⟨[(0,.c (.own 0)),(1,.c (.int .i64)),(2,.c (.int .i64)),(6,.c (.int .i64))],[.rows true .i64]⟩ (.seq .u (.seq (.block (.seq .u (.block (.loop ⟨[(0,.c (.own 0)),(1,.c (.int .i64)),(2,.c (.int .i64)),(6,.c (.int .i64)),(7,.c (.int .i64))],[.rows true .i64]⟩ .u)))) .u)))))
@[reducible] def lk_k69 : LitK := ⟨[]⟩
theorem run_k69 (A:Alg) (c_k1:Ct A.toCar s_k1) (x:Tup A.toCar s_k69.inp): @runX lk_k69 A X (ofL A.toCar [(85,⟨s_k1,c_k1⟩)]) (ordL ord_k69) (@chkL lk_k69 E ord_k69) an_k69 s_k69 Tryz.f116 (Tryz.f116.body.getD .skip) x=F_k69 A c_k1.pre c_k1.fn x:=by kernel_rfl
def ord_k73:List (Nat×List DEnt):=[(17,[(0,([1],[])),(1,([73],[])),(2,([74],[])),(3,([0,75],[])),(4,([1,75],[])),(5,([75,77],[])),(6,([75,76,78],[])),(7,([75,79],[])),(8,([0,75],[])),(9,([11,75],[])),(10,([75,81,82],[])),(11,([75,83],[])),(12,([75,80,84],[])),(13,([75,85],[])),(14,([75,86],[]))])]
def an_k73:Ann:=(.seq .u (.seq .u (.block (.loop ⟨[(0,.c (.own 0)),(1,.c (.int .i64)),(2,.c (.int .i64)),(3,.c (.int .i64)),(8,.c (.bool)),(9,.c (.bool))],[.rows true .i64]⟩ (.cut ⟨[(0,.c (.own 0)),(1,.c (.int .i64)),(2,.c (.int .i64)),(3,.c (.int .i64)),(8,.c (.bool)),(9,.c (.bool))],[.rows true .i64]⟩ (.block (.seq .u (.seq .u (.seq .u (.seq (.seq .u (.cut ⟨[(0,.c (.own 0)),(1,.c (.int .i64)),(2,.c (.int .i64)),(3,.c (.int .i64)),(8,.c (.bool)),(9,.c (.bool)),(10,.c (.int .i64))],[.rows true .i64]⟩ (.cond .u .u))) (.seq .u (.seq (.seq .u (.cut ⟨[(0,.c (.own 0)),(1,.c (.int .i64)),(2,.c (.int .i64)),(3,.c (.int .i64)),(8,.c (.bool)),(9,.c (.bool)),(10,.c (.int .i64)),(11,.c (.int .i64)),(12,.c (.int .i64))],[.rows true .i64]⟩ (.cond .u .u))) (.seq (.seq .u (.cut ⟨[(0,.c (.own 0)),(1,.c (.int .i64)),(2,.c (.int .i64)),(3,.c (.int .i64)),(8,.c (.bool)),(9,.c (.bool)),(10,.c (.int .i64)),(11,.c (.int .i64))],[.rows true .i64]⟩ (.cond .u .u))) (.seq .u (.seq .u (.seq .u (.seq .u (.seq .u (.seq .u (.cut ⟨[(0,.c (.own 0)),(1,.c (.int .i64)),(2,.c (.int .i64)),(3,.c (.int .i64)),(8,.c (.bool)),(9,.c (.bool))],[.rows true .i64]⟩ (.cond .u .u)))))))))))))))))))))
@[reducible] def lk_k73 : LitK := ⟨[]⟩
theorem run_k73 (A:Alg) (c_k1:Ct A.toCar s_k1) (c_k69:Ct A.toCar s_k69) (c_k67:Ct A.toCar s_k67) (c_k65:Ct A.toCar s_k65) (c_k66:Ct A.toCar s_k66) (c_k74:Ct A.toCar s_k74) (c_k70:Ct A.toCar s_k70) (c_k71:Ct A.toCar s_k71) (c_k72:Ct A.toCar s_k72) (c_k73:Ct A.toCar s_k73) (x:Tup A.toCar s_k73.inp): @runX lk_k73 A X (ofL A.toCar [(85,⟨s_k1,c_k1⟩),(116,⟨s_k69,c_k69⟩),(117,⟨s_k67,c_k67⟩),(118,⟨s_k65,c_k65⟩),(119,⟨s_k66,c_k66⟩),(120,⟨s_k74,c_k74⟩),(121,⟨s_k70,c_k70⟩),(122,⟨s_k71,c_k71⟩),(123,⟨s_k72,c_k72⟩),(113,⟨s_k73,c_k73⟩)]) (ordL ord_k73) (@chkL lk_k73 E ord_k73) an_k73 s_k73 Tryz.f113 (Tryz.f113.body.getD .skip) x=F_k73 A c_k1.pre c_k1.fn c_k69.pre c_k69.fn c_k67.pre c_k67.fn c_k65.pre c_k65.fn c_k66.pre c_k66.fn c_k74.pre c_k74.fn c_k70.pre c_k70.fn c_k71.pre c_k71.fn c_k72.pre c_k72.fn c_k73.pre c_k73.fn x:=by kernel_rfl
def ord_k64:List (Nat×List DEnt):=[]
def an_k64:Ann:= .u
@[reducible] def lk_k64 : LitK := ⟨[]⟩
theorem run_k64 (A:Alg) (c_k73:Ct A.toCar s_k73) (c_k50:Ct A.toCar s_k50) (x:Tup A.toCar s_k64.inp): @runX lk_k64 A X (ofL A.toCar [(113,⟨s_k73,c_k73⟩),(114,⟨s_k50,c_k50⟩)]) (ordL ord_k64) (@chkL lk_k64 E ord_k64) an_k64 s_k64 Tryz.f108 (Tryz.f108.body.getD .skip) x=F_k64 A c_k73.pre c_k73.fn c_k50.pre c_k50.fn x:=by kernel_rfl
def ord_k8:List (Nat×List DEnt):=[]
def an_k8:Ann:=(.seq .u (.seq .u (.seq .u (.seq (.seq .u (.block (.loop ⟨[(3,.c (.pb 0 1 0)),(4,.c (.pb 1 1 0)),(6,.c (.own 2)),(22,.c (.rows false .mono)),(23,.c (.int .i64)),(24,.c (.int .i64))],[.box (.sv false .poly),.box (.agg [.nil]),.rows true .mono]⟩ (.seq .u (.seq .u (.seq (.block (.seq .u (.seq .u (.block (.loop ⟨[(3,.c (.pb 0 1 0)),(4,.c (.pb 1 1 0)),(6,.c (.own 2)),(8,.c (.pb 3 2 0)),(22,.c (.rows false .mono)),(23,.c (.int .i64)),(24,.c (.int .i64)),(29,.c (.rows false .mono)),(30,.c (.int .i64)),(31,.c (.int .i64))],[.box (.sv false .poly),.box (.agg [.nil]),.rows true .mono,.box (.sv false .mono)]⟩ .u))))) .u)))))) .u))))
@[reducible] def lk_k8 : LitK := ⟨[]⟩
theorem run_k8 (A:Alg) (c_k10:Ct A.toCar s_k10) (c_k31:Ct A.toCar s_k31) (c_k38:Ct A.toCar s_k38) (c_k54:Ct A.toCar s_k54) (c_k64:Ct A.toCar s_k64) (x:Tup A.toCar s_k8.inp): @runX lk_k8 A X (ofL A.toCar [(31,⟨s_k10,c_k10⟩),(75,⟨s_k31,c_k31⟩),(105,⟨s_k38,c_k38⟩),(107,⟨s_k54,c_k54⟩),(108,⟨s_k64,c_k64⟩)]) (ordL ord_k8) (@chkL lk_k8 E ord_k8) an_k8 s_k8 Tryz.f93 (Tryz.f93.body.getD .skip) x=F_k8 A c_k10.pre c_k10.fn c_k31.pre c_k31.fn c_k38.pre c_k38.fn c_k54.pre c_k54.fn c_k64.pre c_k64.fn x:=by kernel_rfl
def ord_k13:List (Nat×List DEnt):=[(3,[(0,([2],[])),(1,([1],[])),(2,([18],[0])),(3,([17,19],[])),(4,([20],[])),(5,([16],[])),(6,([16],[])),(7,([],[])),(8,([5,21],[])),(9,([22],[]))])]
def an_k13:Ann:= .u
@[reducible] def lk_k13 : LitK := ⟨[]⟩
theorem run_k13 (A:Alg) (c_k10:Ct A.toCar s_k10) (c_k6:Ct A.toCar s_k6) (c_k30:Ct A.toCar s_k30) (c_k8:Ct A.toCar s_k8) (x:Tup A.toCar s_k13.inp): @runX lk_k13 A X (ofL A.toCar [(31,⟨s_k10,c_k10⟩),(13,⟨s_k6,c_k6⟩),(36,⟨s_k30,c_k30⟩),(93,⟨s_k8,c_k8⟩)]) (ordL ord_k13) (@chkL lk_k13 E ord_k13) an_k13 s_k13 Tryz.f92 (Tryz.f92.body.getD .skip) x=F_k13 A c_k10.pre c_k10.fn c_k6.pre c_k6.fn c_k30.pre c_k30.fn c_k8.pre c_k8.fn x:=by kernel_rfl
def ord_k9:List (Nat×List DEnt):=[]
def an_k9:Ann:= .u
@[reducible] def lk_k9 : LitK := ⟨[]⟩
theorem run_k9 (A:Alg) (c_k10:Ct A.toCar s_k10) (x:Tup A.toCar s_k9.inp): @runX lk_k9 A X (ofL A.toCar [(31,⟨s_k10,c_k10⟩)]) (ordL ord_k9) (@chkL lk_k9 E ord_k9) an_k9 s_k9 Tryz.f94 (Tryz.f94.body.getD .skip) x=F_k9 A c_k10.pre c_k10.fn x:=by kernel_rfl
def ord_k37:List (Nat×List DEnt):=[(5,[(0,([4],[])),(1,([5],[])),(2,([23],[0])),(3,([22,24],[])),(4,([25],[])),(5,([25],[])),(6,([6,26],[])),(7,([27],[]))])]
def an_k37:Ann:=(.seq .u (.seq .u (.seq .u (.seq .u (.seq .u (.seq (.seq .u (.cut ⟨[(0,.c (.int .i64)),(4,.c (.pb 0 1 0)),(6,.c (.pb 1 1 0)),(10,.c (.int .i64)),(11,.c (.bool))],[.box (.sv false .poly),.box (.agg [.nil])]⟩ (.cond .u .u))) .u))))))
@[reducible] def lk_k37 : LitK := ⟨[]⟩
theorem run_k37 (A:Alg) (c_k28:Ct A.toCar s_k28) (c_k6:Ct A.toCar s_k6) (c_k29:Ct A.toCar s_k29) (c_k4:Ct A.toCar s_k4) (c_k8:Ct A.toCar s_k8) (c_k13:Ct A.toCar s_k13) (c_k9:Ct A.toCar s_k9) (x:Tup A.toCar s_k37.inp): @runX lk_k37 A X (ofL A.toCar [(95,⟨s_k28,c_k28⟩),(13,⟨s_k6,c_k6⟩),(48,⟨s_k29,c_k29⟩),(91,⟨s_k4,c_k4⟩),(93,⟨s_k8,c_k8⟩),(92,⟨s_k13,c_k13⟩),(94,⟨s_k9,c_k9⟩)]) (ordL ord_k37) (@chkL lk_k37 E ord_k37) an_k37 s_k37 Tryz.f61 (Tryz.f61.body.getD .skip) x=F_k37 A c_k28.pre c_k28.fn c_k6.pre c_k6.fn c_k29.pre c_k29.fn c_k4.pre c_k4.fn c_k8.pre c_k8.fn c_k13.pre c_k13.fn c_k9.pre c_k9.fn x:=by kernel_rfl
end Go.TX.Seat
namespace Go.TX.Seat
open Go Go.AE Go.TX Go.TX.F Go.Proofs
set_option maxRecDepth 100000
def ord_k51:List (Nat×List DEnt):=[]
def an_k51:Ann:= .u
@[reducible] def lk_k51 : LitK := ⟨[]⟩
theorem run_k51 (A:Alg) (x:Tup A.toCar s_k51.inp): @runX lk_k51 A X (ofL A.toCar []) (ordL ord_k51) (@chkL lk_k51 E ord_k51) an_k51 s_k51 Tryz.f96 (Tryz.f96.body.getD .skip) x=F_k51 A x:=by kernel_rfl
def ord_k24:List (Nat×List DEnt):=[(6,[(0,([2],[])),(1,([28],[])),(3,([3],[])),(4,([31],[])),(2,([29],[3])),(5,([30,32],[])),(6,([33],[])),(7,([],[])),(8,([7,34],[]))]),(7,[(0,([7],[])),(1,([2],[])),(2,([36],[])),(3,([37],[])),(4,([4,35],[2])),(5,([38],[]))])]
def an_k24:Ann:= .u
@[reducible] def lk_k24 : LitK := ⟨[]⟩
theorem run_k24 (A:Alg) (c_k16:Ct A.toCar s_k16) (c_k22:Ct A.toCar s_k22) (c_k51:Ct A.toCar s_k51) (x:Tup A.toCar s_k24.inp): @runX lk_k24 A X (ofL A.toCar [(50,⟨s_k16,c_k16⟩),(51,⟨s_k22,c_k22⟩),(96,⟨s_k51,c_k51⟩)]) (ordL ord_k24) (@chkL lk_k24 E ord_k24) an_k24 s_k24 Tryz.f63 (Tryz.f63.body.getD .skip) x=F_k24 A c_k16.pre c_k16.fn c_k22.pre c_k22.fn c_k51.pre c_k51.fn x:=by kernel_rfl
def ord_k5:List (Nat×List DEnt):=[]
def an_k5:Ann:= .u
@[reducible] def lk_k5 : LitK := ⟨[]⟩
theorem run_k5 (A:Alg) (c_k34:Ct A.toCar s_k34) (x:Tup A.toCar s_k5.inp): @runX lk_k5 A X (ofL A.toCar [(38,⟨s_k34,c_k34⟩)]) (ordL ord_k5) (@chkL lk_k5 E ord_k5) an_k5 s_k5 Tryz.f64 (Tryz.f64.body.getD .skip) x=F_k5 A c_k34.pre c_k34.fn x:=by kernel_rfl
def ord_k21:List (Nat×List DEnt):=[(3,[(0,([4],[])),(1,([11],[])),(2,([8,23],[1])),(3,([9,24],[])),(4,([],[]))]),(9,[(0,([13],[])),(1,([14],[])),(2,([49],[0])),(3,([8,48],[])),(4,([9,50],[])),(5,([],[]))])]
def an_k21:Ann:=(.seq .u (.seq .u (.seq (.seq .u (.cut ⟨[(1,.c (.int .i64)),(4,.c (.pb 0 1 0)),(6,.c (.pb 1 1 0)),(7,.c (.pb 2 1 0)),(8,.c (.pb 3 1 0)),(9,.c (.pb 4 1 0))],[.box (.sv false .tab),.box (.sv false .poly),.box (.sv false .poly),.box (.agg [.nil]),.box (.agg [.nil])]⟩ (.cond .u .u))) .u)))
@[reducible] def lk_k21 : LitK := ⟨[]⟩
theorem run_k21 (A:Alg) (c_k12:Ct A.toCar s_k12) (c_k37:Ct A.toCar s_k37) (c_k24:Ct A.toCar s_k24) (c_k5:Ct A.toCar s_k5) (x:Tup A.toCar s_k21.inp): @runX lk_k21 A X (ofL A.toCar [(62,⟨s_k12,c_k12⟩),(61,⟨s_k37,c_k37⟩),(63,⟨s_k24,c_k24⟩),(64,⟨s_k5,c_k5⟩)]) (ordL ord_k21) (@chkL lk_k21 E ord_k21) an_k21 s_k21 Tryz.f33 (Tryz.f33.body.getD .skip) x=F_k21 A c_k12.pre c_k12.fn c_k37.pre c_k37.fn c_k24.pre c_k24.fn c_k5.pre c_k5.fn x:=by kernel_rfl
def ord_k26:List (Nat×List DEnt):=[(5,[(0,([3],[])),(1,([13],[])),(2,([5],[])),(3,([15],[])),(4,([5],[])),(5,([17],[])),(6,([18],[1,3])),(7,([16,19],[])),(8,([20],[1])),(9,([14,21],[])),(10,([3],[])),(11,([22,23],[]))])]
def an_k26:Ann:=(.seq .u (.seq .u (.seq (.seq .u (.block (.loop ⟨[(2,.c (.pb 0 1 0)),(3,.c (.pb 1 1 0)),(7,.c (.rows false .mono)),(8,.c (.int .i64)),(9,.c (.int .i64))],[.box (.agg [.nil]),.box (.agg [.own 2]),.rows true .mono]⟩ .u))) .u)))
@[reducible] def lk_k26 : LitK := ⟨[20]⟩
theorem run_k26 (A:Alg) (c_k33:Ct A.toCar s_k33) (x:Tup A.toCar s_k26.inp): @runX lk_k26 A X (ofL A.toCar [(65,⟨s_k33,c_k33⟩)]) (ordL ord_k26) (@chkL lk_k26 E ord_k26) an_k26 s_k26 Tryz.f35 (Tryz.f35.body.getD .skip) x=F_k26 A c_k33.pre c_k33.fn x:=by kernel_rfl
def ord_k20:List (Nat×List DEnt):=[(5,[(0,([3],[])),(1,([13],[])),(2,([5],[])),(3,([15],[])),(4,([5],[])),(5,([17],[])),(6,([5],[])),(7,([19],[])),(9,([5],[])),(10,([22],[])),(8,([20],[1,3,5,10])),(11,([23],[1,3,5])),(12,([16,18,21,24],[])),(13,([25],[1])),(14,([14,26],[])),(15,([3],[])),(16,([27,28],[]))])]
def an_k20:Ann:=(.seq .u (.seq .u (.seq (.seq .u (.block (.loop ⟨[(2,.c (.pb 0 1 0)),(3,.c (.pb 1 1 0)),(7,.c (.rows false .atom)),(8,.c (.int .i64)),(9,.c (.int .i64))],[.box (.agg [.nil]),.box (.agg [.own 2]),.rows true .atom]⟩ .u))) .u)))
@[reducible] def lk_k20 : LitK := ⟨[25]⟩
theorem run_k20 (A:Alg) (c_k26:Ct A.toCar s_k26) (x:Tup A.toCar s_k20.inp): @runX lk_k20 A X (ofL A.toCar [(35,⟨s_k26,c_k26⟩)]) (ordL ord_k20) (@chkL lk_k20 E ord_k20) an_k20 s_k20 Tryz.f34 (Tryz.f34.body.getD .skip) x=F_k20 A c_k26.pre c_k26.fn x:=by kernel_rfl
def ord_k18:List (Nat×List DEnt):=[(4,[(0,([10],[])),(2,([11],[])),(1,([58],[2])),(3,([60],[])),(4,([8,59],[])),(5,([9,61],[]))])]
def an_k18:Ann:= .u
@[reducible] def lk_k18 : LitK := ⟨[]⟩
theorem run_k18 (A:Alg) (c_k35:Ct A.toCar s_k35) (c_k14:Ct A.toCar s_k14) (c_k10:Ct A.toCar s_k10) (c_k19:Ct A.toCar s_k19) (c_k21:Ct A.toCar s_k21) (c_k26:Ct A.toCar s_k26) (c_k20:Ct A.toCar s_k20) (x:Tup A.toCar s_k18.inp): @runX lk_k18 A X (ofL A.toCar [(30,⟨s_k35,c_k35⟩),(32,⟨s_k14,c_k14⟩),(31,⟨s_k10,c_k10⟩),(19,⟨s_k19,c_k19⟩),(33,⟨s_k21,c_k21⟩),(35,⟨s_k26,c_k26⟩),(34,⟨s_k20,c_k20⟩)]) (ordL ord_k18) (@chkL lk_k18 E ord_k18) an_k18 s_k18 Tryz.f7 (Tryz.f7.body.getD .skip) x=F_k18 A c_k35.pre c_k35.fn c_k14.pre c_k14.fn c_k10.pre c_k10.fn c_k19.pre c_k19.fn c_k21.pre c_k21.fn c_k26.pre c_k26.fn c_k20.pre c_k20.fn x:=by kernel_rfl
def ord_k46:List (Nat×List DEnt):=[]
def an_k46:Ann:= .u
@[reducible] def lk_k46 : LitK := ⟨[]⟩
theorem run_k46 (A:Alg) (c_k30:Ct A.toCar s_k30) (x:Tup A.toCar s_k46.inp): @runX lk_k46 A X (ofL A.toCar [(36,⟨s_k30,c_k30⟩)]) (ordL ord_k46) (@chkL lk_k46 E ord_k46) an_k46 s_k46 Tryz.f8 (Tryz.f8.body.getD .skip) x=F_k46 A c_k30.pre c_k30.fn x:=by kernel_rfl
def ord_k45:List (Nat×List DEnt):=[(6,[(0,([0],[])),(1,([5],[])),(2,([17,18],[])),(3,([19],[])),(4,([1],[])),(5,([5],[])),(6,([21,22],[])),(7,([23],[])),(8,([20,24],[]))])]
def an_k45:Ann:=(.seq .u (.seq .u (.seq (.seq .u (.block (.loop ⟨[(0,.c (.rows false .i64)),(1,.c (.rows false .i64)),(5,.c (.int .i64))],[]⟩ .u))) .u)))
@[reducible] def lk_k45 : LitK := ⟨[]⟩
theorem run_k45 (A:Alg) (x:Tup A.toCar s_k45.inp): @runX lk_k45 A X (ofL A.toCar []) (ordL ord_k45) (@chkL lk_k45 E ord_k45) an_k45 s_k45 Tryz.f20 (Tryz.f20.body.getD .skip) x=F_k45 A x:=by kernel_rfl
def ord_k47:List (Nat×List DEnt):=[(6,[(0,([2],[])),(1,([20],[])),(2,([5],[])),(3,([21,22],[])),(4,([23],[])),(5,([24],[])),(6,([3],[])),(7,([26],[])),(8,([5],[])),(9,([27,28],[])),(10,([29],[])),(11,([30],[])),(12,([25,31],[])),(13,([32],[])),(14,([2,33],[])),(15,([33,34],[])),(16,([5,33],[])),(17,([33,35,36],[])),(18,([33,37],[])),(19,([33,38],[])),(20,([3,33],[])),(21,([33,40],[])),(22,([5,33],[])),(23,([33,41,42],[])),(24,([33,43],[])),(25,([33,44],[])),(26,([33,39,45],[])),(27,([33,46],[])),(28,([33,47],[]))])]
def an_k47:Ann:=(.seq .u (.seq .u (.seq (.seq .u (.block (.loop ⟨[(2,.c (.pb 0 1 0)),(3,.c (.pb 1 1 0)),(5,.c (.int .i64))],[.box (.sv false .poly),.box (.sv false .poly)]⟩ .u))) .u)))
@[reducible] def lk_k47 : LitK := ⟨[]⟩
theorem run_k47 (A:Alg) (c_k45:Ct A.toCar s_k45) (x:Tup A.toCar s_k47.inp): @runX lk_k47 A X (ofL A.toCar [(20,⟨s_k45,c_k45⟩)]) (ordL ord_k47) (@chkL lk_k47 E ord_k47) an_k47 s_k47 Tryz.f10 (Tryz.f10.body.getD .skip) x=F_k47 A c_k45.pre c_k45.fn x:=by kernel_rfl
def ord_k48:List (Nat×List DEnt):=[]
def an_k48:Ann:=(.seq .u (.seq .u (.seq (.seq .u (.block (.loop ⟨[(2,.c (.pb 0 1 0)),(3,.c (.pb 1 1 0)),(5,.c (.int .i64))],[.box (.sv false .tab),.box (.sv false .tab)]⟩ .u))) .u)))
@[reducible] def lk_k48 : LitK := ⟨[]⟩
theorem run_k48 (A:Alg) (c_k47:Ct A.toCar s_k47) (x:Tup A.toCar s_k48.inp): @runX lk_k48 A X (ofL A.toCar [(10,⟨s_k47,c_k47⟩)]) (ordL ord_k48) (@chkL lk_k48 E ord_k48) an_k48 s_k48 Tryz.f9 (Tryz.f9.body.getD .skip) x=F_k48 A c_k47.pre c_k47.fn x:=by kernel_rfl
def ord_k104:List (Nat×List DEnt):=[]
def an_k104:Ann:=(.seq .u (.seq .u (.seq (.seq .u (.block (.loop ⟨[(0,.c (.pb 0 2 0)),(1,.c (.int .i64)),(5,.c (.own 1)),(6,.c (.int .i64))],[.box (.agg [.rows true .u8,.int .i64]),.rows true .i64]⟩ .u))) .u)))
@[reducible] def lk_k104 : LitK := ⟨[]⟩
theorem run_k104 (A:Alg) (c_k102:Ct A.toCar s_k102) (x:Tup A.toCar s_k104.inp): @runX lk_k104 A X (ofL A.toCar [(28,⟨s_k102,c_k102⟩)]) (ordL ord_k104) (@chkL lk_k104 E ord_k104) an_k104 s_k104 Tryz.f40 (Tryz.f40.body.getD .skip) x=F_k104 A c_k102.pre c_k102.fn x:=by kernel_rfl
def ord_k80:List (Nat×List DEnt):=[(6,[(0,([7],[])),(1,([8],[])),(2,([6],[])),(3,([6],[])),(6,([6],[])),(7,([6],[])),(4,([26],[0])),(5,([25,27],[0])),(8,([30],[0])),(9,([29,31],[0])),(10,([2,23],[])),(11,([24],[])),(12,([28],[])),(13,([32],[]))])]
def an_k80:Ann:=(.seq .u (.seq .u (.seq .u (.seq .u (.seq (.seq .u (.cut ⟨[(2,.c (.pb 0 1 0)),(6,.c (.pb 1 2 0)),(7,.c (.pb 2 1 0)),(8,.c (.own 3))],[.box (.agg [.nil]),.box (.agg [.rows true .u8,.int .i64]),.box (.agg [.own 4]),.rows true .i64,.rows true .atom]⟩ (.cond .u .u))) .u)))))
@[reducible] def lk_k80 : LitK := ⟨[]⟩
theorem run_k80 (A:Alg) (c_k99:Ct A.toCar s_k99) (c_k101:Ct A.toCar s_k101) (c_k100:Ct A.toCar s_k100) (c_k107:Ct A.toCar s_k107) (c_k104:Ct A.toCar s_k104) (x:Tup A.toCar s_k80.inp): @runX lk_k80 A X (ofL A.toCar [(22,⟨s_k99,c_k99⟩),(24,⟨s_k101,c_k101⟩),(25,⟨s_k100,c_k100⟩),(23,⟨s_k107,c_k107⟩),(40,⟨s_k104,c_k104⟩)]) (ordL ord_k80) (@chkL lk_k80 E ord_k80) an_k80 s_k80 Tryz.f15 (Tryz.f15.body.getD .skip) x=F_k80 A c_k99.pre c_k99.fn c_k101.pre c_k101.fn c_k100.pre c_k100.fn c_k107.pre c_k107.fn c_k104.pre c_k104.fn x:=by kernel_rfl
def ord_k41:List (Nat×List DEnt):=[]
def an_k41:Ann:=(.seq .u (.seq (.seq .u (.block (.loop ⟨[(5,.c (.rows false .i64)),(6,.c (.int .i64)),(7,.c (.int .i64))],[]⟩ .u))) .u))
@[reducible] def lk_k41 : LitK := ⟨[]⟩
theorem run_k41 (A:Alg) (c_k30:Ct A.toCar s_k30) (x:Tup A.toCar s_k41.inp): @runX lk_k41 A X (ofL A.toCar [(36,⟨s_k30,c_k30⟩)]) (ordL ord_k41) (@chkL lk_k41 E ord_k41) an_k41 s_k41 Tryz.f46 (Tryz.f46.body.getD .skip) x=F_k41 A c_k30.pre c_k30.fn x:=by kernel_rfl
def ord_k40:List (Nat×List DEnt):=[]
def an_k40:Ann:= .u
@[reducible] def lk_k40 : LitK := ⟨[]⟩
theorem run_k40 (A:Alg) (x:Tup A.toCar s_k40.inp): @runX lk_k40 A X (ofL A.toCar []) (ordL ord_k40) (@chkL lk_k40 E ord_k40) an_k40 s_k40 Tryz.f47 (Tryz.f47.body.getD .skip) x=F_k40 A x:=by kernel_rfl
def ord_k27:List (Nat×List DEnt):=[]
def an_k27:Ann:=(.seq .u (.seq .u (.seq (.seq .u (.block (.loop ⟨[(1,.c (.rows false .i64)),(5,.c (.int .i64)),(13,.c (.rows false .mono)),(14,.c (.int .i64)),(15,.c (.int .i64))],[]⟩ (.seq .u (.seq .u (.seq (.block (.seq .u (.seq .u (.seq (.seq .u (.block (.loop ⟨[(1,.c (.rows false .i64)),(5,.c (.int .i64)),(8,.c (.int .i64)),(13,.c (.rows false .mono)),(14,.c (.int .i64)),(15,.c (.int .i64)),(22,.c (.rows false .i64)),(23,.c (.int .i64)),(24,.c (.int .i64))],[]⟩ (.seq .u (.seq .u (.seq (.block (.seq .u (.seq .u (.seq (.seq .u (.cut ⟨[(1,.c (.rows false .i64)),(5,.c (.int .i64)),(8,.c (.int .i64)),(11,.c (.int .i64)),(13,.c (.rows false .mono)),(14,.c (.int .i64)),(15,.c (.int .i64)),(22,.c (.rows false .i64)),(23,.c (.int .i64)),(24,.c (.int .i64))],[]⟩ (.cond .u .u))) .u)))) .u)))))) .u)))) .u)))))) .u)))
@[reducible] def lk_k27 : LitK := ⟨[]⟩
theorem run_k27 (A:Alg) (c_k31:Ct A.toCar s_k31) (x:Tup A.toCar s_k27.inp): @runX lk_k27 A X (ofL A.toCar [(75,⟨s_k31,c_k31⟩)]) (ordL ord_k27) (@chkL lk_k27 E ord_k27) an_k27 s_k27 Tryz.f49 (Tryz.f49.body.getD .skip) x=F_k27 A c_k31.pre c_k31.fn x:=by kernel_rfl
def ord_k25:List (Nat×List DEnt):=[(9,[(0,([11],[])),(1,([40],[])),(2,([11],[])),(3,([42],[])),(4,([9],[])),(6,([11],[])),(7,([46],[])),(8,([9],[])),(5,([43,44],[1,7])),(9,([47,48],[1])),(10,([41,45,49],[])),(11,([50],[]))])]
def an_k25:Ann:=(.seq .u (.seq .u (.seq .u (.seq (.seq .u (.block (.loop ⟨[(1,.c (.rows false .i64)),(2,.c (.rows false .i64)),(3,.c (.rows false .i64)),(9,.c (.own 0)),(32,.c (.rows false .atom)),(33,.c (.int .i64)),(34,.c (.int .i64))],[.rows true .i64]⟩ (.seq .u (.seq .u (.seq (.block (.seq .u (.seq .u (.seq (.seq .u (.block (.seq .u (.cut ⟨[(1,.c (.rows false .i64)),(2,.c (.rows false .i64)),(3,.c (.rows false .i64)),(9,.c (.own 0)),(12,.c (.int .i64)),(32,.c (.rows false .atom)),(33,.c (.int .i64)),(34,.c (.int .i64))],[.rows true .i64]⟩ (.cond .u (.seq .u (.cut ⟨[(1,.c (.rows false .i64)),(2,.c (.rows false .i64)),(3,.c (.rows false .i64)),(9,.c (.own 0)),(12,.c (.int .i64)),(32,.c (.rows false .atom)),(33,.c (.int .i64)),(34,.c (.int .i64))],[.rows true .i64]⟩ (.cond .u (.seq .u (.cut ⟨[(1,.c (.rows false .i64)),(2,.c (.rows false .i64)),(3,.c (.rows false .i64)),(9,.c (.own 0)),(12,.c (.int .i64)),(32,.c (.rows false .atom)),(33,.c (.int .i64)),(34,.c (.int .i64))],[.rows true .i64]⟩ (.cond .u .u))))))))))) .u)))) .u)))))) .u))))
@[reducible] def lk_k25 : LitK := ⟨[]⟩
theorem run_k25 (A:Alg) (c_k19:Ct A.toCar s_k19) (c_k29:Ct A.toCar s_k29) (c_k41:Ct A.toCar s_k41) (c_k40:Ct A.toCar s_k40) (c_k27:Ct A.toCar s_k27) (x:Tup A.toCar s_k25.inp): @runX lk_k25 A X (ofL A.toCar [(19,⟨s_k19,c_k19⟩),(48,⟨s_k29,c_k29⟩),(46,⟨s_k41,c_k41⟩),(47,⟨s_k40,c_k40⟩),(49,⟨s_k27,c_k27⟩)]) (ordL ord_k25) (@chkL lk_k25 E ord_k25) an_k25 s_k25 Tryz.f17 (Tryz.f17.body.getD .skip) x=F_k25 A c_k19.pre c_k19.fn c_k29.pre c_k29.fn c_k41.pre c_k41.fn c_k40.pre c_k40.fn c_k27.pre c_k27.fn x:=by kernel_rfl
def ord_k49:List (Nat×List DEnt):=[]
def an_k49:Ann:=(.seq .u (.seq .u (.seq (.seq .u (.block (.loop ⟨[(0,.c (.rows false .i64)),(3,.c (.own 0)),(4,.c (.int .i64))],[.rows true .i64]⟩ .u))) .u)))
@[reducible] def lk_k49 : LitK := ⟨[]⟩
theorem run_k49 (A:Alg) (c_k97:Ct A.toCar s_k97) (x:Tup A.toCar s_k49.inp): @runX lk_k49 A X (ofL A.toCar [(39,⟨s_k97,c_k97⟩)]) (ordL ord_k49) (@chkL lk_k49 E ord_k49) an_k49 s_k49 Tryz.f18 (Tryz.f18.body.getD .skip) x=F_k49 A c_k97.pre c_k97.fn x:=by kernel_rfl
def ord_k7:List (Nat×List DEnt):=[]
def an_k7:Ann:= .u
@[reducible] def lk_k7 : LitK := ⟨[]⟩
theorem run_k7 (A:Alg) (c_k10:Ct A.toCar s_k10) (c_k41:Ct A.toCar s_k41) (c_k27:Ct A.toCar s_k27) (x:Tup A.toCar s_k7.inp): @runX lk_k7 A X (ofL A.toCar [(31,⟨s_k10,c_k10⟩),(46,⟨s_k41,c_k41⟩),(49,⟨s_k27,c_k27⟩)]) (ordL ord_k7) (@chkL lk_k7 E ord_k7) an_k7 s_k7 Tryz.f21 (Tryz.f21.body.getD .skip) x=F_k7 A c_k10.pre c_k10.fn c_k41.pre c_k41.fn c_k27.pre c_k27.fn x:=by kernel_rfl
def ord_k42:List (Nat×List DEnt):=[(11,[(0,([13],[])),(1,([10],[])),(3,([11],[])),(4,([12],[])),(2,([79],[0])),(5,([78,80,81,82],[])),(6,([83],[]))]),(12,[(0,([5],[])),(1,([10],[])),(3,([11],[])),(4,([12],[])),(2,([85],[0])),(5,([84,86,87,88],[])),(6,([89],[]))]),(15,[(0,([14],[])),(1,([17],[])),(3,([6],[])),(4,([7],[])),(5,([17],[])),(7,([8],[])),(8,([17],[])),(2,([119,120],[4,7])),(6,([123,124],[7])),(9,([126,127],[])),(10,([122,125,128],[])),(11,([121,129],[])),(12,([130],[]))])]
def an_k42:Ann:= .u
@[reducible] def lk_k42 : LitK := ⟨[]⟩
theorem run_k42 (A:Alg) (c_k95:Ct A.toCar s_k95) (c_k92:Ct A.toCar s_k92) (c_k79:Ct A.toCar s_k79) (c_k19:Ct A.toCar s_k19) (c_k18:Ct A.toCar s_k18) (c_k46:Ct A.toCar s_k46) (c_k45:Ct A.toCar s_k45) (c_k47:Ct A.toCar s_k47) (c_k48:Ct A.toCar s_k48) (c_k80:Ct A.toCar s_k80) (c_k25:Ct A.toCar s_k25) (c_k49:Ct A.toCar s_k49) (c_k7:Ct A.toCar s_k7) (x:Tup A.toCar s_k42.inp): @runX lk_k42 A X (ofL A.toCar [(14,⟨s_k95,c_k95⟩),(16,⟨s_k92,c_k92⟩),(6,⟨s_k79,c_k79⟩),(19,⟨s_k19,c_k19⟩),(7,⟨s_k18,c_k18⟩),(8,⟨s_k46,c_k46⟩),(20,⟨s_k45,c_k45⟩),(10,⟨s_k47,c_k47⟩),(9,⟨s_k48,c_k48⟩),(15,⟨s_k80,c_k80⟩),(17,⟨s_k25,c_k25⟩),(18,⟨s_k49,c_k49⟩),(21,⟨s_k7,c_k7⟩)]) (ordL ord_k42) (@chkL lk_k42 E ord_k42) an_k42 s_k42 Tryz.f5 (Tryz.f5.body.getD .skip) x=F_k42 A c_k95.pre c_k95.fn c_k92.pre c_k92.fn c_k79.pre c_k79.fn c_k19.pre c_k19.fn c_k18.pre c_k18.fn c_k46.pre c_k46.fn c_k45.pre c_k45.fn c_k47.pre c_k47.fn c_k48.pre c_k48.fn c_k80.pre c_k80.fn c_k25.pre c_k25.fn c_k49.pre c_k49.fn c_k7.pre c_k7.fn x:=by kernel_rfl
end Go.TX.Seat
namespace Go.TX
open Go Go.AE
theorem cz_lss (x y:Int):cmpZ .lss x y=decide (x<y):=rfl
theorem cz_leq (x y:Int):cmpZ .leq x y=decide (x≤y):=rfl
theorem cz_gtr (x y:Int):cmpZ .gtr x y=decide (y<x):=rfl
theorem cz_geq (x y:Int):cmpZ .geq x y=decide (y≤x):=rfl
theorem cz_eql (x y:Int):cmpZ .eql x y=decide (x=y):=rfl
theorem cz_neq (x y:Int):cmpZ .neq x y= !decide (x=y):=rfl
theorem az_add (k:IntKind) (x y:Int):arithZ .add k x y=k.wrap (x+y):=rfl
theorem az_sub (k:IntKind) (x y:Int):arithZ .sub k x y=k.wrap (x-y):=rfl
theorem az_mul (k:IntKind) (x y:Int):arithZ .mul k x y=k.wrap (x*y):=rfl
theorem az_quo (k:IntKind) (x y:Int):arithZ .quo k x y=k.wrap (x.tdiv y):=rfl
theorem az_rem (k:IntKind) (x y:Int):arithZ .rem k x y=x.tmod y:=rfl
theorem w64 {x:Int} (h1: -9223372036854775808≤x) (h2:x≤9223372036854775807):IntKind.i64.wrap x=x:=IntWalk.i64_in _ (by omega)
theorem f_mono0 (m:Mono):nthI .mono 0 m=m.coef:=rfl
theorem f_mono1 (m:Mono):nthL .mono 1 .i64 m=m.atoms:=rfl
theorem f_poly (p:List Mono):nthL .poly 0 .mono p=p:=rfl
theorem f_tab (p:List Atom):nthL .tab 0 .atom p=p:=rfl
theorem f_ints (p:List Int):nthL .ints 0 .i64 p=p:=rfl
theorem f_atom0 (m:Atom):nthI .atom 0 m=m.kind:=rfl
theorem f_atom1 (m:Atom):nthI .atom 1 m=m.k:=rfl
theorem f_atom2 (m:Atom):nthL .atom 2 .mono m=m.x:=rfl
theorem f_atom3 (m:Atom):nthL .atom 3 .mono m=m.y:=rfl
theorem f_i64 (n:Int):nthI .i64 0 n=n:=rfl
theorem f_u8 (n:Int):nthI .u8 0 n=n:=rfl
theorem mk_mono (x):Co.mk .mono x=⟨x.1,x.2.1⟩:=rfl
theorem mk_poly (x):Co.mk .poly x=x.1:=rfl
theorem mk_tab (x):Co.mk .tab x=x.1:=rfl
theorem mk_ints (x):Co.mk .ints x=x.1:=rfl
theorem mk_i64 (x):Co.mk .i64 x=x.1:=rfl
theorem mk_atom (x):Co.mk .atom x=⟨x.1,x.2.1,x.2.2.1,x.2.2.2.1⟩:=rfl
theorem loop_intro {α ρ:Type} {f:α→(α ⊕ ρ→Prop)→Prop} {x:α} {Q:ρ→Prop} (I:α→Prop) (μ:α→Nat) (h0:I x) (hs:∀y,I y→f y (sumQ (fun z _=>I z∧μ z<μ y) Q)):wIter f x Q:=⟨I,μ,h0,hs⟩
theorem sumQ_inl {α ρ:Type} (k:α→(ρ→Prop)→Prop) (Q:ρ→Prop) (x:α):sumQ k Q (.inl x)=k x Q:=rfl
theorem sumQ_inr {α ρ:Type} (k:α→(ρ→Prop)→Prop) (Q:ρ→Prop) (r:ρ):sumQ k Q (.inr r)=Q r:=rfl
theorem getD_lt {α:Type} {xs:List α} {d:α} {i:Nat} (h:i<xs.length):xs.getD i d=xs[i]:=by simp [List.getD,h]
theorem getD_mem {α:Type} {xs:List α} {d:α} {i:Int} (h0:0≤i) (h:i<xs.length):xs.getD i.toNat d∈xs:=by
  rw [getD_lt (by omega)];exact List.getElem_mem _
theorem RR:(∀(x y:Int),cmpZ BinOp.lss x y=decide (x<y))∧(∀(x y:Int),cmpZ BinOp.leq x y=decide (x≤y))∧(∀(x y:Int),cmpZ BinOp.gtr x y=decide (y<x))∧(∀(x y:Int),cmpZ BinOp.geq x y=decide (y≤x))∧(∀(x y:Int),cmpZ BinOp.eql x y=decide (x=y))∧(∀(x y:Int),cmpZ BinOp.neq x y= !decide (x=y))∧(∀(k:IntKind) (x y:Int),arithZ BinOp.add k x y=k.wrap (x+y))∧(∀(k:IntKind) (x y:Int),arithZ BinOp.sub k x y=k.wrap (x-y))∧(∀(k:IntKind) (x y:Int),arithZ BinOp.mul k x y=k.wrap (x*y))∧(∀(k:IntKind) (x y:Int),arithZ BinOp.quo k x y=k.wrap (x.tdiv y))∧(∀(k:IntKind) (x y:Int),arithZ BinOp.rem k x y=x.tmod y)∧(∀ {x:Int}, -9223372036854775808≤x→x≤9223372036854775807→IntKind.i64.wrap x=x)∧(∀(m:Mono),nthI Co.mono 0 m=m.coef)∧(∀(m:Mono),nthL Co.mono 1 Co.i64 m=m.atoms)∧(∀(p:List Mono),nthL Co.poly 0 Co.mono p=p)∧(∀(p:List Atom),nthL Co.tab 0 Co.atom p=p)∧(∀(p:List Int),nthL Co.ints 0 Co.i64 p=p)∧(∀(m:Atom),nthI Co.atom 0 m=m.kind)∧(∀(m:Atom),nthI Co.atom 1 m=m.k)∧(∀(m:Atom),nthL Co.atom 2 Co.mono m=m.x)∧(∀(m:Atom),nthL Co.atom 3 Co.mono m=m.y)∧(∀(n:Int),nthI Co.i64 0 n=n)∧(∀(n:Int),nthI Co.u8 0 n=n)∧(∀(x:TupS Co.mono.ltys),Co.mono.mk x=Mono.mk x.fst x.snd.fst)∧(∀(x:TupS Co.poly.ltys),Co.poly.mk x=x.fst)∧(∀(x:TupS Co.tab.ltys),Co.tab.mk x=x.fst)∧(∀(x:TupS Co.ints.ltys),Co.ints.mk x=x.fst)∧(∀(x:TupS Co.i64.ltys),Co.i64.mk x=x.fst)∧(∀(x:TupS Co.atom.ltys),Co.atom.mk x=Atom.mk x.fst x.snd.fst x.snd.snd.fst x.snd.snd.snd.fst)∧(∀ {α ρ:Type} (k:α→(ρ→Prop)→Prop) (Q:ρ→Prop) (x:α),sumQ k Q (Sum.inl x)=k x Q)∧(∀ {α ρ:Type} (k:α→(ρ→Prop)→Prop) (Q:ρ→Prop) (r:ρ),sumQ k Q (Sum.inr r)=Q r)∧(∀(c f:Bool),(bif c then true else f)=(c || f))∧(∀(c t:Bool),(bif c then t else false)=(c&&t))∧(∀(c f:Bool),(bif c then false else f)=(!c&&f))∧(∀(c t:Bool),(bif c then t else true)=(!c || t))∧(∀(a b:Bool),((a || b)=true)=(a=true∨b=true))∧(∀ {x y:Bool},(x || y)=false↔x=false∧y=false)∧(∀(a b:Bool),((a&&b)=true)=(a=true∧b=true))∧(∀ {p:Prop} [inst:Decidable p],(decide p=true)=p)∧(∀ {p:Prop} {x:Decidable p},decide p=false↔¬p)∧(∀(b:Bool),((!b)=true)=(b=false))∧(∀(b:Bool),((!b)=false)=(b=true))∧(∀(b:Bool),(!!b)=b)∧(∀(p:Prop),(True∧p)=p)∧(∀(p:Prop),(p∧True)=p)∧(∀ {α:Type} [inst:LE α] {x y:α},x≥y↔y≤x)∧(¬True)=False∧(¬False)=True∧(false=true)=False∧(true=false)=False∧(∀(p:Prop),(False→p)=True)∧(∀(p:Prop),(True→p)=p)∧(∀(α:Prop),(α→True)=True)∧(∀(α:Type),(∀(a:α),True)=True)∧(∀(p:Prop),(False∨p)=p)∧(∀(p:Prop),(p∨False)=p)∧(∀(p:Prop),(True∨p)=True)∧(∀(p:Prop),(p∨True)=True)∧(∀ {α:Type} {x:Decidable True} (t e:α),(if True then t else e)=t)∧∀ {α:Type} {x:Decidable False} (t e:α),(if False then t else e)=e:=And.intro (@cz_lss)<| And.intro (@cz_leq)<| And.intro (@cz_gtr)<| And.intro (@cz_geq)<| And.intro (@cz_eql)<| And.intro (@cz_neq)<| And.intro (@az_add)<| And.intro (@az_sub)<| And.intro (@az_mul)<| And.intro (@az_quo)<| And.intro (@az_rem)<| And.intro (@w64)<| And.intro (@f_mono0)<| And.intro (@f_mono1)<| And.intro (@f_poly)<| And.intro (@f_tab)<| And.intro (@f_ints)<| And.intro (@f_atom0)<| And.intro (@f_atom1)<| And.intro (@f_atom2)<| And.intro (@f_atom3)<| And.intro (@f_i64)<| And.intro (@f_u8)<| And.intro (@mk_mono)<| And.intro (@mk_poly)<| And.intro (@mk_tab)<| And.intro (@mk_ints)<| And.intro (@mk_i64)<| And.intro (@mk_atom)<| And.intro (@sumQ_inl)<| And.intro (@sumQ_inr)<| And.intro (@Bool.cond_true_left)<| And.intro (@Bool.cond_false_right)<| And.intro (@Bool.cond_false_left)<| And.intro (@Bool.cond_true_right)<| And.intro (@Bool.or_eq_true)<| And.intro (@Bool.or_eq_false_iff)<| And.intro (@Bool.and_eq_true)<| And.intro (@decide_eq_true_eq)<| And.intro (@decide_eq_false_iff_not)<| And.intro (@Bool.not_eq_true')<| And.intro (@Bool.not_eq_false')<| And.intro (@Bool.not_not)<| And.intro (@true_and)<| And.intro (@and_true)<| And.intro (@ge_iff_le.{0})<| And.intro (@not_true_eq_false)<| And.intro (@not_false_eq_true)<| And.intro (@Bool.false_eq_true)<| And.intro (@Bool.true_eq_false)<| And.intro (@false_implies)<| And.intro (@true_implies)<| And.intro (@implies_true.{0})<| And.intro (@implies_true.{1})<| And.intro (@false_or)<| And.intro (@or_false)<| And.intro (@true_or)<| And.intro (@or_true)<| And.intro (@if_true.{1})<| @if_false.{1}
end Go.TX
namespace Go.TX.F
open Go Go.AE Go.TX
def inB (a lo hi:Int):Bool:=decide (lo≤a)&&decide (a≤hi)
theorem w_k34 (a b c:Int):F_k34 (std 0) (a,b,c,()) (fun y=>y=(inB a b c,())):=by
  dsimp only [F_k34]
  simp (disch:=omega) only [RR]
  rfl
theorem w_k30 {p:Int×Int×Int×Unit→Bool} {f:Int×Int×Int×Unit→Bool×Unit} (hp:∀a b c,p (a,b,c,())=true) (hf:∀a b c,f (a,b,c,())=(inB a b c,())) (a:Int):F_k30 (std 0) p f (a,()) (fun y=>y=(inB a 0 65535,())):=by
  dsimp only [F_k30]
  simp (disch:=omega) only [RR,hp,hf]
theorem w_k35 {p:Int×Int×Int×Unit→Bool} {f:Int×Int×Int×Unit→Bool×Unit} (hp:∀a b c,p (a,b,c,())=true) (hf:∀a b c,f (a,b,c,())=(inB a b c,())) (a:Int):F_k35 (std 0) p f (a,()) (fun y=>y=(inB a 1 5,())):=by
  dsimp only [F_k35]
  simp (disch:=omega) only [RR,hp,hf]
theorem w_k36 {p:Int×Int×Int×Unit→Bool} {f:Int×Int×Int×Unit→Bool×Unit} (hp:∀a b c,p (a,b,c,())=true) (hf:∀a b c,f (a,b,c,())=(inB a b c,())) (a:Int):F_k36 (std 0) p f (a,()) (fun y=>y=(inB a 0 3,())):=by
  dsimp only [F_k36]
  simp (disch:=omega) only [RR,hp,hf]
theorem w_k3 (a:Int):F_k3 (std 0) (a,()) (fun y=>y=(false,())):=by
  dsimp only [F_k3]
  simp (disch:=omega) only [RR]
  simp
def cmpI (a b:Int):Int:=if a<b then-1 else if b<a then 1 else 0
theorem w_k0 {p:Int×Unit→Bool} {f:Int×Unit→Bool×Unit} (hp:∀a,p (a,())=true) (hf:∀a,f (a,())=(false,())) (a b:Int):F_k0 (std 0) p f (a,b,()) (fun y=>y=(cmpI a b,())):=by
  dsimp only [F_k0]
  simp (disch:=omega) only [RR,hp,hf]
  unfold cmpI
  refine⟨fun h=>by simp [h],fun h=>⟨fun h2=>by simp [h,h2],fun h2=>by simp [h,h2]⟩⟩
theorem w_k1 {p:Int×Unit→Bool} {f:Int×Unit→Bool×Unit} (hp:∀a,p (a,())=true) (hf:∀a,f (a,())=(false,())) (a b:Int):F_k1 (std 0) p f (a,b,()) (fun y=>y=(decide (a<b),())):=by
  dsimp only [F_k1]
  simp (disch:=omega) only [RR,hp,hf]
  simp
def or2 (a b:Int):Int:=if a≠0 then a else b
theorem w_k2 (a b:Int):F_k2 (std 0) ([a,b],()) (fun y=>y=(or2 a b,())):=by
  dsimp only [F_k2]
  refine loop_intro (fun(y:Int×List Int×Int×Int×Unit)=>y.1=0∧y.2.1=[a,b]∧y.2.2.1=2∧0≤y.2.2.2.1∧y.2.2.2.1≤2∧(0<y.2.2.2.1→a=0)∧(1<y.2.2.2.1→b=0)) (fun y=>(2-y.2.2.2.1).toNat) ⟨rfl,rfl,rfl,by simp,by simp,fun h=>absurd h (by simp),fun h=>absurd h (by simp)⟩ ?_
  rintro⟨(z:Int),(l:List Int),(n:Int),(i:Int),⟨⟩⟩ hI
  dsimp only at hI ⊢
  obtain⟨rfl,rfl,rfl,h1,h2,h3,h4⟩:=hI
  simp (disch:=omega) only [RR]
  have hi:i=0∨i=1∨i=2:=by omega
  rcases hi with rfl | rfl | rfl
  · by_cases ha:a=0<;>simp [or2,ha]<;>(try omega)
  · have:=h3 (by omega)
    by_cases hb:b=0<;>simp [or2,this,hb]<;>(try omega)
  · have:=h3 (by omega)
    have:=h4 (by omega)
    simp [or2, *]
def lexI:List Int→List Int→Int
  | [],[]=>0
  | [],_::_=> -1
  | _::_,[]=>1
  | a::az,b::bs=>if cmpI a b≠0 then cmpI a b else lexI az bs
theorem lexI_drop (a b:List Int) (i:Nat):(h1:i<a.length)→(h2:i<b.length)→lexI (a.drop i) (b.drop i)=if cmpI a[i] b[i]≠0 then cmpI a[i] b[i]else lexI (a.drop (i+1)) (b.drop (i+1)):=by
  intro h1 h2
  rw [List.drop_eq_getElem_cons h1,List.drop_eq_getElem_cons h2];rfl
theorem lexI_nil (l:List Int) (h:l≠ []):lexI l []=1:=by cases l<;>simp_all [lexI]
theorem w_k52 {p:Int×Int×Unit→Bool} {f:Int×Int×Unit→Int×Unit} (hp:∀a b,p (a,b,())=true) (hf:∀a b,f (a,b,())=(cmpI a b,())) (a b:List Int) (ha:a.length<1000000000):
    F_k52 (std 0) p f (a,b,()) (fun y=>y=(lexI a b,())):=by
  dsimp only [F_k52]
  refine loop_intro (fun(y:List Int×List Int×List Int×Int×Int×Unit)=>y.1=a∧y.2.1=b∧y.2.2.1=a∧y.2.2.2.1=a.length∧0≤y.2.2.2.2.1∧y.2.2.2.2.1≤a.length∧y.2.2.2.2.1≤b.length∧lexI a b=lexI (a.drop y.2.2.2.2.1.toNat) (b.drop y.2.2.2.2.1.toNat))
    (fun y=>(a.length-y.2.2.2.2.1).toNat) ⟨rfl,rfl,rfl,rfl,by simp,by simp,by simp,by simp⟩ ?_
  rintro⟨(l1:List Int),(l2:List Int),(l3:List Int),(n:Int),(i:Int),⟨⟩⟩ hI
  dsimp only at hI ⊢
  obtain⟨rfl,rfl,rfl,rfl,h1,h2,h3,h4⟩:=hI
  simp (disch:=omega) only [RR,hp,hf]
  refine⟨fun hi=>⟨h1,hi,fun hj=> ?_,fun hj=>⟨h1,by omega,fun hc=> ?_,fun hc=> ?_⟩⟩,fun hi=>⟨fun hj=> ?_,fun hj=> ?_⟩⟩
  · rw [h4,List.drop_eq_nil_of_le (show l2.length≤i.toNat by omega),lexI_nil _ (by simp;omega)]
  · rw [h4,lexI_drop l3 l2 i.toNat (by omega) (by omega)]
    rw [getD_lt (by omega),getD_lt (by omega)]at hc
    rw [getD_lt (by omega),getD_lt (by omega),if_pos hc]
  · rw [getD_lt (by omega),getD_lt (by omega)]at hc
    refine⟨⟨by omega,by omega,by omega,?_⟩,by omega⟩
    rw [h4,lexI_drop l3 l2 i.toNat (by omega) (by omega),if_neg (by simpa using hc),show(i+1).toNat=i.toNat+1 by omega]
  · rw [h4,List.drop_eq_nil_of_le (show l3.length≤i.toNat by omega)]
    have:∃q r,l2.drop i.toNat=q::r:=by
      cases hq:l2.drop i.toNat with
      | nil=>have:=congrArg List.length hq;simp at this;omega
      | cons q r=>exact⟨q,r,rfl⟩
    obtain⟨q,r,hq⟩:=this
    rw [hq];rfl
  · rw [h4,List.drop_eq_nil_of_le (show l3.length≤i.toNat by omega),List.drop_eq_nil_of_le (show l2.length≤i.toNat by omega)];rfl
def aOrd (a b:List Int):Int:=or2 (cmpI a.length b.length) (lexI a b)
theorem w_k32 {p1:Int×Int×Unit→Bool} {f1:Int×Int×Unit→Int×Unit} (hp1:∀a b,p1 (a,b,())=true) (hf1:∀a b,f1 (a,b,())=(cmpI a b,()))
    {p2:List Int×List Int×Unit→Bool} {f2:List Int×List Int×Unit→Int×Unit} (hp2:∀a b,a.length<1000000000→p2 (a,b,())=true) (hf2:∀a b,a.length<1000000000→f2 (a,b,())=(lexI a b,()))
    {p3:List Int×Unit→Bool} {f3:List Int×Unit→Int×Unit} (hp3:∀a b,p3 ([a,b],())=true) (hf3:∀a b,f3 ([a,b],())=(or2 a b,())) (a b:List Int) (ha:a.length<1000000000):
    F_k32 (std 0) p3 f3 p1 f1 p2 f2 (a,b,()) (fun y=>y=(aOrd a b,())):=by
  dsimp only [F_k32]
  simp (disch:=omega) only [RR,hp1,hf1,hp2 a b ha,hf2 a b ha,hp3,hf3]
  rfl
end Go.TX.F
namespace Go.TX.F
open Go Go.AE Go.TX
noncomputable def bp (P:Prop):Bool:= @decide P (Classical.propDecidable P)
theorem bp_t {P:Prop} (h:P):bp P=true:=by simp [bp,h]
theorem bp_f {P:Prop} (h:¬P):bp P=false:=by simp [bp,h]
theorem bp_eq {P:Prop}:bp P=true↔P:=by simp [bp]
theorem bp_ne {P:Prop}:bp P=false↔¬P:=by simp [bp]
theorem bp_and {P Q:Prop}:bp (P∧Q)=(bp P&&bp Q):=by by_cases h1:P<;>by_cases h2:Q<;>simp [bp,h1,h2]
theorem bp_iff {P Q:Prop} (h:P↔Q):bp P=bp Q:=by simp [bp,h]
def All (n:Int) (G:Int→Prop):Prop:=∀j,0≤j→j<n→G j
theorem All.zero {G:Int→Prop}:All 0 G:=fun j h1 h2=>absurd h2 (by omega)
theorem All.snoc {n:Int} {G:Int→Prop} (h:All n G) (hi:G n):All (n+1) G:=fun j h1 h2=>by
  by_cases hj:j=n
  · exact hj▸hi
  · exact h j h1 (by omega)
theorem All.le {n m:Int} {G:Int→Prop} (h:All n G) (hi:m≤n):All m G:=fun j h1 h2=>h j h1 (by omega)
def Idx (n:Int) (G:Int→Prop) (r:Int):Prop:=(r= -1∧All n (fun j=>¬G j))∨(0≤r∧r<n∧G r∧All r (fun j=>¬G j))
theorem Idx.ge {n:Int} {G:Int→Prop} {r:Int} (h:Idx n G r):(0≤r)↔¬All n (fun j=>¬G j):=by
  rcases h with⟨rfl,h⟩ | ⟨h1,h2,h3,h4⟩
  · simp [h]
  · simp only [h1,true_iff];exact fun h=>h r h1 h2 h3
def Srt (l:List Int):Prop:=All (l.length-1) (fun i=>l.getD i.toNat default≤l.getD (i+1).toNat default)
theorem w_k62 {p:Int×Int×Unit→Bool} {f:Int×Int×Unit→Bool×Unit} (hp:∀a b,p (a,b,())=true) (hf:∀a b,f (a,b,())=(decide (a<b),())) (a:List Int) (ha:a.length<1000000000):
    F_k62 (std 0) p f (a,()) (fun y=>y=(bp (Srt a),())):=by
  dsimp only [F_k62]
  simp (disch:=omega) only [RR,hp,hf]
  refine loop_intro (fun(y:List Int×Int×Unit)=>y.1=a∧ -1≤y.2.1∧y.2.1≤a.length-1∧∀j,y.2.1≤j→0≤j→j< (a.length:Int)-1→a.getD j.toNat default≤a.getD (j+1).toNat default) (fun y=>(y.2.1+1).toNat) ⟨rfl,by simp;omega,by simp,by simp;omega⟩ ?_
  rintro⟨(l:List Int),(i:Int),⟨⟩⟩ hI
  dsimp only at hI ⊢
  obtain⟨rfl,h1,h2,h3⟩:=hI
  simp (disch:=omega) only [RR,hp,hf]
  refine⟨fun h4=>⟨by omega,by omega,by omega,by omega,fun h5=> ?_,fun h5=>⟨⟨by omega,by omega,fun j h6 h7 h8=> ?_⟩,by omega⟩⟩,fun h4=> ?_⟩
  · rw [bp_f]
    intro h;have:=h (i-1) (by omega) (by omega)
    dsimp only at this
    rw [show i-1+1=i by omega]at this;omega
  · by_cases hj:j=i-1
    · subst hj;rw [show i-1+1=i by omega];omega
    · exact h3 j (by omega) h7 h8
  · rw [bp_t]
    exact fun j h6 h7=>h3 j (by omega) h6 h7
theorem w_k15 (a n:Int):F_k15 (std 0) (a,n,()) (fun y=>y=(decide (n≤a),n,())):=by
  dsimp only [F_k15]
  simp (disch:=omega) only [RR]
theorem w_k61 {p:Int×Int×Unit→Bool} {f:Int×Int×Unit→Bool×Int×Unit} (hp:∀a b,p (a,b,())=true) (hf:∀a b,f (a,b,())=(decide (b≤a),b,())) (a:List Int) (n:Int) (ha:a.length<1000000000):
    F_k61 (std 0) p f (a,n,()) (fun y=>Idx a.length (fun i=>n≤a.getD i.toNat default) y.1∧y.2.1=n):=by
  dsimp only [F_k61]
  refine loop_intro (fun(y:List Int×Int×Int×Int×Unit)=>y.1=a∧y.2.1=a.length∧y.2.2.2.1=n∧0≤y.2.2.1∧y.2.2.1≤a.length∧All y.2.2.1 (fun i=>¬n≤a.getD i.toNat default)) (fun y=>(a.length-y.2.2.1).toNat) ⟨rfl,rfl,rfl,by simp,by simp,All.zero⟩ ?_
  rintro⟨(l:List Int),(m:Int),(i:Int),(n':Int),⟨⟩⟩ hI
  dsimp only at hI ⊢
  obtain⟨rfl,rfl,rfl,h1,h2,h3⟩:=hI
  simp (disch:=omega) only [RR,hp,hf]
  refine⟨fun h4=>⟨by omega,by omega,fun h5=> ?_,fun h5=>⟨⟨by omega,by omega,h3.snoc h5⟩,by omega⟩⟩,fun h4=> ?_⟩
  · exact Or.inr ⟨by omega,by omega,h5,h3⟩
  · exact Or.inl ⟨rfl,h3.le (by omega)⟩
theorem w_k56 {p:List Int×Int×Unit→Bool} {f:List Int×Int×Unit→Int×Int×Unit} (hp:∀a b,a.length<1000000000→p (a,b,())=true)
    (hf:∀a n,a.length<1000000000→Idx a.length (fun i=>n≤a.getD i.toNat default) (f (a,n,())).1∧(f (a,n,())).2.1=n) (a:List Int) (n:Int) (ha:a.length<1000000000):
    F_k56 (std 0) p f (a,n,()) (fun y=>y=(bp (¬All a.length (fun i=>¬n≤a.getD i.toNat default)),n,())):=by
  obtain⟨h1,h2⟩:=hf a n ha
  dsimp only [F_k56]
  simp (disch:=omega) only [RR,hp a n ha,h2]
  rw [show decide ((0:Int)≤(f (a,n,())).1)=bp (¬All a.length (fun i=>¬n≤a.getD i.toNat default))from ?_]
  rw [←bp_iff h1.ge];simp [bp]
def mUnder (n:Int) (m:Mono):Prop:=All m.atoms.length (fun i=>¬n≤m.atoms.getD i.toNat default)
def pUnder (p:List Mono) (n:Int):Prop:=All p.length (fun i=>mUnder n (p.getD i.toNat default))
def Sh (p:List Mono):Prop:=p.length<1000000000∧∀m∈p,m.atoms.length<1000000000
theorem Sh.at {p:List Mono} (h:Sh p) (n:Nat):(p.getD n default).atoms.length<1000000000:=by
  by_cases h1:n<p.length
  · rw [getD_lt h1];exact h.2 _ (List.getElem_mem _)
  · simp only [List.getD,List.getElem?_eq_none (by omega:p.length≤n)];decide
theorem w_k14 {p:List Int×Int×Unit→Bool} {f:List Int×Int×Unit→Bool×Int×Unit} (hp:∀a b,a.length<1000000000→p (a,b,())=true)
    (hf:∀a n,a.length<1000000000→f (a,n,())=(bp (¬All a.length (fun i=>¬n≤a.getD i.toNat default)),n,())) (a:List Mono) (n:Int) (ha:Sh a):
    F_k14 (std 0) p f (a,n,()) (fun y=>y=(bp (pUnder a n),())):=by
  have hlen:=ha.1
  dsimp only [F_k14]
  refine loop_intro (fun(y:List Mono×Int×Int×Int×Unit)=>y.1=a∧y.2.1=a.length∧y.2.2.2.1=n∧0≤y.2.2.1∧y.2.2.1≤a.length∧All y.2.2.1 (fun i=>mUnder n (a.getD i.toNat default))) (fun y=>(a.length-y.2.2.1).toNat) ⟨rfl,rfl,rfl,by simp,by simp,All.zero⟩ ?_
  rintro⟨(l:List Mono),(m:Int),(i:Int),(n':Int),⟨⟩⟩ hI
  dsimp only at hI ⊢
  obtain⟨rfl,rfl,rfl,h1,h2,h3⟩:=hI
  simp (disch:=omega) only [RR]
  refine⟨fun h4=> ?_,fun h4=> ?_⟩
  · have h5:=ha.at i.toNat
    rw [hp _ _ h5,hf _ _ h5]
    refine⟨by omega,by omega,rfl,fun h6=> ?_,fun h6=>⟨⟨rfl,by omega,by omega,h3.snoc ?_⟩,by omega⟩⟩
    · rw [bp_f (fun h=> ?_)]
      exact bp_eq.1 h6 (h i h1 h4)
    · exact Classical.byContradiction (fun h=>bp_ne.1 h6 h)
  · rw [bp_t (show pUnder l n' from h3.le (by omega))]
theorem w_k11 (m:Mono):F_k11 (std 0) (m,()) (fun y=>y=(bp (0<m.atoms.length∧m.atoms.getD 0 default<0),())):=by
  dsimp only [F_k11]
  simp (disch:=omega) only [RR]
  refine⟨by omega,by omega,?_⟩
  rw [bp_and]
  by_cases h1:0<m.atoms.length
  · by_cases h2:m.atoms.getD 0 default<0
    · rw [bp_t h1,bp_t h2,show Int.toNat 0=0 from rfl,decide_eq_true h2,decide_eq_true (by omega)]
    · rw [bp_t h1,bp_f h2,show Int.toNat 0=0 from rfl,decide_eq_false h2,Bool.and_false,Bool.and_false]
  · rw [bp_f h1,decide_eq_false (by omega),Bool.false_and,Bool.false_and]
theorem w_k60 {p:Mono×Unit→Bool} {f:Mono×Unit→Bool×Unit} (G:Mono→Prop) (hp:∀a,p (a,())=true) (hf:∀a,f (a,())=(bp (G a),())) (a:List Mono) (ha:a.length<1000000000):
    F_k60 (std 0) p f (a,()) (fun y=>Idx a.length (fun i=>G (a.getD i.toNat default)) y.1):=by
  dsimp only [F_k60]
  refine loop_intro (fun(y:List Mono×Int×Int×Unit)=>y.1=a∧y.2.1=a.length∧0≤y.2.2.1∧y.2.2.1≤a.length∧All y.2.2.1 (fun i=>¬G (a.getD i.toNat default))) (fun y=>(a.length-y.2.2.1).toNat) ⟨rfl,rfl,by simp,by simp,All.zero⟩ ?_
  rintro⟨(l:List Mono),(m:Int),(i:Int),⟨⟩⟩ hI
  dsimp only at hI ⊢
  obtain⟨rfl,rfl,h1,h2,h3⟩:=hI
  simp (disch:=omega) only [RR,hp,hf]
  refine⟨fun h4=>⟨by omega,by omega,fun h5=> ?_,fun h5=>⟨⟨by omega,by omega,h3.snoc (bp_ne.1 h5)⟩,by omega⟩⟩,fun h4=> ?_⟩
  · exact Or.inr ⟨by omega,by omega,bp_eq.1 h5,h3⟩
  · exact Or.inl ⟨rfl,h3.le (by omega)⟩
theorem w_k55 {p:List Mono×Unit→Bool} {f:List Mono×Unit→Int×Unit} (G:Mono→Prop) (hp:∀a,a.length<1000000000→p (a,())=true)
    (hf:∀a,a.length<1000000000→Idx a.length (fun i=>G (a.getD i.toNat default)) (f (a,())).1) (a:List Mono) (ha:a.length<1000000000):
    F_k55 (std 0) p f (a,()) (fun y=>y=(bp (¬All a.length (fun i=>¬G (a.getD i.toNat default))),())):=by
  have h1:=hf a ha
  dsimp only [F_k55]
  simp (disch:=omega) only [RR,hp a ha]
  rw [show decide ((0:Int)≤(f (a,())).1)=bp (¬All a.length (fun i=>¬G (a.getD i.toNat default)))from ?_]
  rw [←bp_iff h1.ge];simp [bp]
def mOk (m:Mono):Prop:=(1≤m.coef∧m.coef≤65535)∧m.atoms.length≤4∧Srt m.atoms
def PolOK (p:List Mono):Prop:=All p.length (fun i=>mOk (p.getD i.toNat default)∧(0<i→aOrd (p.getD (i-1).toNat default).atoms (p.getD i.toNat default).atoms<0))∧p.length≤12∧pUnder p 200
  ∧All p.length (fun i=>¬(0< (p.getD i.toNat default).atoms.length∧(p.getD i.toNat default).atoms.getD 0 default<0))
theorem w_k10 {p1:Int×Int×Int×Unit→Bool} {f1:Int×Int×Int×Unit→Bool×Unit} (hp1:∀a b c,p1 (a,b,c,())=true) (hf1:∀a b c,f1 (a,b,c,())=(inB a b c,()))
    {p2:List Mono×Int×Unit→Bool} {f2:List Mono×Int×Unit→Bool×Unit} (hp2:∀a n,Sh a→p2 (a,n,())=true) (hf2:∀a n,Sh a→f2 (a,n,())=(bp (pUnder a n),()))
    {p3:List Int×Unit→Bool} {f3:List Int×Unit→Bool×Unit} (hp3:∀a,a.length<1000000000→p3 (a,())=true) (hf3:∀a,a.length<1000000000→f3 (a,())=(bp (Srt a),()))
    {p4:List Int×List Int×Unit→Bool} {f4:List Int×List Int×Unit→Int×Unit} (hp4:∀a b,a.length<1000000000→p4 (a,b,())=true) (hf4:∀a b,a.length<1000000000→f4 (a,b,())=(aOrd a b,()))
    {p5:List Mono×Unit→Bool} {f5:List Mono×Unit→Bool×Unit} (hp5:∀a,a.length<1000000000→p5 (a,())=true) (hf5:∀a,a.length<1000000000→f5 (a,())=(bp (¬All a.length (fun i=>¬(0< (a.getD i.toNat default).atoms.length∧(a.getD i.toNat default).atoms.getD 0 default<0))),()))
    (a:List Mono) (ha:Sh a):F_k10 (std 0) p1 f1 p2 f2 p3 f3 p4 f4 p5 f5 (a,()) (fun y=>y=(bp (PolOK a),())):=by
  have hlen:=ha.1
  dsimp only [F_k10]
  refine loop_intro (fun(y:List Mono×Int×Int×List Mono×Unit)=>y.1=a∧y.2.1=a.length∧y.2.2.2.1=a∧0≤y.2.2.1∧y.2.2.1≤a.length∧All y.2.2.1 (fun i=>mOk (a.getD i.toNat default)∧(0<i→aOrd (a.getD (i-1).toNat default).atoms (a.getD i.toNat default).atoms<0))) (fun y=>(a.length-y.2.2.1).toNat) ⟨rfl,rfl,rfl,by simp,by simp,All.zero⟩ ?_
  rintro⟨(l:List Mono),(m:Int),(i:Int),(l':List Mono),⟨⟩⟩ hI
  dsimp only at hI ⊢
  obtain⟨rfl,rfl,rfl,h1,h2,h3⟩:=hI
  simp (disch:=omega) only [RR,hp1,hf1,hp2 l' _ ha,hf2 l' _ ha,hp5 l' hlen,hf5 l' hlen]
  refine⟨fun h4=> ?_,fun h4=> ?_⟩
  · simp (disch:=omega) only [RR,hp3 _ (ha.at _),hf3 _ (ha.at _),hp4 _ _ (ha.at _),hf4 _ _ (ha.at _),bp_eq,bp_ne,inB]
    refine⟨by omega,by omega,by by_cases h:i≤0<;>simp [h]<;>omega,by omega,fun h5=> ?_,fun h5=>⟨⟨by omega,by omega,h3.snoc ?_⟩,by omega⟩⟩
    · rw [bp_f (fun h=> ?_)]
      have:=h.1 i h1 h4
      dsimp only [mOk]at this
      obtain⟨⟨h6,h7,h8⟩,h9⟩:=this
      rcases h5 with((h5 | h5) | h5) | ⟨h5,h10⟩
      · simp [-List.getD_eq_getElem?_getD]at h5;omega
      · omega
      · exact h5 h8
      · have:=h9 h5;omega
    · refine⟨⟨by omega,by omega,h5.1.2⟩,fun h6=> ?_⟩
      have:=h5.2;simp only [decide_eq_true h6,Bool.true_and,decide_eq_false_iff_not]at this;omega
  · unfold PolOK
    rw [show All (↑l'.length) (fun i=>mOk (l'.getD i.toNat default)∧(0<i→aOrd (l'.getD (i-1).toNat default).atoms (l'.getD i.toNat default).atoms<0))=True from eq_true (h3.le (by omega))]
    rw [true_and,bp_and,bp_and,Bool.and_assoc]
    refine congrArg (fun b=>(b,())) ?_
    congr 1
    · by_cases h:l'.length≤12<;>simp [bp,h]<;>omega
    · congr 1
      simp [bp]
def mOrd (a b:Mono):Int:=or2 (aOrd a.atoms b.atoms) (cmpI a.coef b.coef)
def lexM:List Mono→List Mono→Int
  | a::az,b::bs=>if mOrd a b≠0 then mOrd a b else lexM az bs
  | _,_=>0
def pOrd (a b:List Mono):Int:=if cmpI a.length b.length≠0 then cmpI a.length b.length else lexM a b
theorem lexM_drop (a b:List Mono) (i:Nat):(h1:i<a.length)→(h2:i<b.length)→lexM (a.drop i) (b.drop i)=if mOrd a[i] b[i]≠0 then mOrd a[i] b[i]else lexM (a.drop (i+1)) (b.drop (i+1)):=by
  intro h1 h2
  rw [List.drop_eq_getElem_cons h1,List.drop_eq_getElem_cons h2];rfl
theorem w_k12 {p1:List Int×Unit→Bool} {f1:List Int×Unit→Int×Unit} (hp1:∀a b,p1 ([a,b],())=true) (hf1:∀a b,f1 ([a,b],())=(or2 a b,()))
    {p2:Int×Int×Unit→Bool} {f2:Int×Int×Unit→Int×Unit} (hp2:∀a b,p2 (a,b,())=true) (hf2:∀a b,f2 (a,b,())=(cmpI a b,()))
    {p4:List Int×List Int×Unit→Bool} {f4:List Int×List Int×Unit→Int×Unit} (hp4:∀a b,a.length<1000000000→p4 (a,b,())=true) (hf4:∀a b,a.length<1000000000→f4 (a,b,())=(aOrd a b,()))
    (a b:List Mono) (ha:Sh a):F_k12 (std 0) p1 f1 p2 f2 p4 f4 (a,b,()) (fun y=>y=(pOrd a b,())):=by
  have hlen:=ha.1
  dsimp only [F_k12]
  simp (disch:=omega) only [RR,hp2,hf2]
  refine⟨fun h=>by rw [pOrd,if_pos h],fun h=> ?_⟩
  have hl:a.length=b.length:=by unfold cmpI at h;split at h<;>(try split at h)<;>omega
  rw [show pOrd a b=lexM a b by rw [pOrd,if_neg (by simp [h])]]
  refine loop_intro (fun(y:List Mono×Int×Int×List Mono×Unit)=>y.1=a∧y.2.1=a.length∧y.2.2.2.1=b∧0≤y.2.2.1∧y.2.2.1≤a.length∧lexM a b=lexM (a.drop y.2.2.1.toNat) (b.drop y.2.2.1.toNat)) (fun y=>(a.length-y.2.2.1).toNat) ⟨rfl,rfl,rfl,by simp,by simp,by simp⟩ ?_
  rintro⟨(l:List Mono),(m:Int),(i:Int),(l':List Mono),⟨⟩⟩ hI
  dsimp only at hI ⊢
  obtain⟨rfl,rfl,rfl,h1,h2,h3⟩:=hI
  simp (disch:=omega) only [RR,hp1,hf1,hp4 _ _ (ha.at _),hf4 _ _ (ha.at _)]
  refine⟨fun h4=>⟨by omega,by omega,by omega,by omega,by omega,by omega,fun h5=> ?_,fun h5=>⟨⟨by omega,by omega,?_⟩,by omega⟩⟩,fun h4=> ?_⟩
  · rw [h3,lexM_drop _ _ _ (by omega) (by omega)]
    rw [getD_lt (by omega),getD_lt (by omega)]at h5 ⊢
    exact((if_pos (c:=mOrd l[i.toNat] l'[i.toNat]≠0) h5).trans rfl).symm▸rfl
  · rw [h3,lexM_drop _ _ _ (by omega) (by omega)]
    rw [getD_lt (by omega),getD_lt (by omega)]at h5
    rw [if_neg (show¬(mOrd l[i.toNat] l'[i.toNat]≠0)from fun h=>h h5),show(i+1).toNat=i.toNat+1 by omega]
  · rw [h3,List.drop_eq_nil_of_le (by omega)];rfl
theorem w_k28 {p1:List Mono×List Mono×Unit→Bool} {f1:List Mono×List Mono×Unit→Int×Unit} (hp1:∀a b,Sh a→p1 (a,b,())=true) (hf1:∀a b,Sh a→f1 (a,b,())=(pOrd a b,())) (a b:List Mono) (ha:Sh a):
    F_k28 (std 0) p1 f1 (a,b,()) (fun y=>y=(decide (pOrd a b=0),())):=by
  dsimp only [F_k28]
  simp (disch:=omega) only [RR,hp1 a b ha,hf1 a b ha]
end Go.TX.F
namespace Go.TX.F
open Go Go.AE Go.TX
theorem az_and (k:IntKind) (x y:Int):arithZ .and k x y=bitI .and k x y:=rfl
theorem az_xor (k:IntKind) (x y:Int):arithZ .xor k x y=bitI .xor k x y:=rfl
theorem and_mask (x:Int):bitI .and .i64 x 65535=x%65536:=by
  unfold bitI
  dsimp only
  rw [BitVec.toNat_and,BitVec.toNat_ofInt,BitVec.toNat_ofInt]
  have h1:((65535:Int)% ((2^IntKind.i64.bits:Nat):Int)).toNat=2^16-1:=by decide
  rw [h1,Nat.and_two_pow_sub_one_eq_mod]
  rw [w64 (by omega) (by omega)]
  have h2:((2^IntKind.i64.bits:Nat):Int)=18446744073709551616:=by decide
  rw [h2]
  omega
theorem bit_rng {a b:Int} (ha:0≤a) (ha':a≤65535) (hb:0≤b) (hb':b≤65535):(0≤bitI .and .i64 a b∧bitI .and .i64 a b≤65535)∧(0≤bitI .xor .i64 a b∧bitI .xor .i64 a b≤65535):=by
  have h2:((2^IntKind.i64.bits:Nat):Int)=18446744073709551616:=by decide
  have e1:bitI .and .i64 a b=((a.toNat&&&b.toNat:Nat):Int):=by
    unfold bitI;dsimp only
    rw [BitVec.toNat_and,BitVec.toNat_ofInt,BitVec.toNat_ofInt,h2,show a%18446744073709551616=a by omega,show b%18446744073709551616=b by omega]
    have:=Nat.and_lt_two_pow (a.toNat) (show b.toNat<2^16 by omega)
    rw [w64 (by omega) (by omega)]
  have e2:bitI .xor .i64 a b=((a.toNat^^^b.toNat:Nat):Int):=by
    unfold bitI;dsimp only
    rw [BitVec.toNat_xor,BitVec.toNat_ofInt,BitVec.toNat_ofInt,h2,show a%18446744073709551616=a by omega,show b%18446744073709551616=b by omega]
    have:=Nat.xor_lt_two_pow (show a.toNat<2^16 by omega) (show b.toNat<2^16 by omega)
    rw [w64 (by omega) (by omega)]
  rw [e1,e2]
  have:=Nat.and_lt_two_pow (a.toNat) (show b.toNat<2^16 by omega)
  have:=Nat.xor_lt_two_pow (show a.toNat<2^16 by omega) (show b.toNat<2^16 by omega)
  omega
theorem and_comm' (a b:Int):bitI .and .i64 a b=bitI .and .i64 b a:=by unfold bitI;dsimp only;rw [BitVec.and_comm]
theorem xor_comm' (a b:Int):bitI .xor .i64 a b=bitI .xor .i64 b a:=by unfold bitI;dsimp only;rw [BitVec.xor_comm]
theorem w_k31 (a:Int):F_k31 (std 0) (a,()) (fun y=>y=(a%65536,())):=by
  dsimp only [F_k31]
  simp (disch:=omega) only [RR,az_and,and_mask]
def wdo (op a b:Int):Int:=if(0≤a∧a≤65535)∧(0≤b∧b≤65535)then
  (if op=1 then(a+b)%65536 else if op=2 then(a-b)%65536 else if op=3 then(a*b)%65536 else if op=4 then bitI .and .i64 a b else if op=5 then bitI .xor .i64 a b else 0)else 0
theorem wdo_rng (op a b:Int):0≤wdo op a b∧wdo op a b≤65535:=by
  unfold wdo
  split
  · rename_i h
    have:=bit_rng h.1.1 h.1.2 h.2.1 h.2.2
    repeat' split
    all_goals omega
  · omega
theorem wdo_comm {op:Int} (h:op≠2) (a b:Int):wdo op a b=wdo op b a:=by
  unfold wdo
  have e:((0≤b∧b≤65535)∧(0≤a∧a≤65535))=((0≤a∧a≤65535)∧(0≤b∧b≤65535)):=propext And.comm
  rw [and_comm' a b,xor_comm' a b,Int.add_comm a b,Int.mul_comm a b]
  simp only [if_neg h,e]
theorem inB_t {a b c:Int}:inB a b c=true↔(b≤a∧a≤c):=by simp [inB]
theorem inB_f {a b c:Int}:inB a b c=false↔¬(b≤a∧a≤c):=by rw [←inB_t,Bool.not_eq_true]
theorem w_k29 {p1:Int×Unit→Bool} {f1:Int×Unit→Bool×Unit} (hp1:∀a,p1 (a,())=true) (hf1:∀a,f1 (a,())=(inB a 0 65535,()))
    {p2:Int×Unit→Bool} {f2:Int×Unit→Int×Unit} (hp2:∀a,p2 (a,())=true) (hf2:∀a,f2 (a,())=(a%65536,())) (op a b:Int):
    F_k29 (std 0) p1 f1 p2 f2 (op,a,b,()) (fun y=>y=(wdo op a b,())):=by
  dsimp only [F_k29]
  simp (disch:=omega) only [RR,hp1,hf1,hp2,hf2,az_and,az_xor,inB_t,inB_f]
  by_cases ha:(0≤a∧a≤65535)∧(0≤b∧b≤65535)
  · have hm:0≤a*b∧a*b≤65535*65535:=⟨Int.mul_nonneg ha.1.1 ha.2.1,Int.mul_le_mul ha.1.2 ha.2.2 ha.2.1 (by omega)⟩
    rw [w64 (x:=a+b) (by omega) (by omega),w64 (x:=a-b) (by omega) (by omega),w64 (x:=a*b) (by omega) (by omega)]
    unfold wdo
    rw [if_pos ha]
    refine⟨fun h=>absurd h (by omega),fun _=>⟨fun h=> ?_,fun h=>⟨fun h1=> ?_,fun h1=>⟨fun h2=> ?_,fun h2=>⟨fun h3=> ?_,fun h3=>⟨fun h4=> ?_,fun h4=> ?_⟩⟩⟩⟩⟩⟩<;>(subst_vars;first | rfl | simp only [if_true,if_false, *])
  · refine⟨fun h=> ?_,fun h=>absurd h ?_⟩
    · unfold wdo;rw [if_neg ha]
    · exact ha
def pConst (n:Int):List Mono:=if 1≤n∧n≤65535 then [⟨n,[]⟩]else []
theorem w_k6 {p1:Int×Int×Int×Unit→Bool} {f1:Int×Int×Int×Unit→Bool×Unit} (hp1:∀a b c,p1 (a,b,c,())=true) (hf1:∀a b c,f1 (a,b,c,())=(inB a b c,())) (a:Int):
    F_k6 (std 0) p1 f1 (a,()) (fun y=>y=(pConst a,())):=by
  dsimp only [F_k6]
  simp (disch:=omega) only [RR,hp1,hf1,inB_t,inB_f]
  unfold pConst
  exact⟨fun h=>by rw [if_neg (by omega)],fun h=>by rw [if_pos (by omega)]⟩
def pAtom (n:Int):List Mono:=if 0≤n∧n≤199 then [⟨1,[n]⟩]else []
theorem w_k5 {p1:Int×Int×Int×Unit→Bool} {f1:Int×Int×Int×Unit→Bool×Unit} (hp1:∀a b c,p1 (a,b,c,())=true) (hf1:∀a b c,f1 (a,b,c,())=(inB a b c,())) (a:Int):
    F_k5 (std 0) p1 f1 (a,()) (fun y=>y=(pAtom a,())):=by
  dsimp only [F_k5]
  simp (disch:=omega) only [RR,hp1,hf1,inB_t,inB_f]
  unfold pAtom
  exact⟨fun h=>by rw [if_neg (by omega)],fun h=>by rw [if_pos (by omega)]⟩
noncomputable def pNum (p:List Mono):Int×Bool:=if bp (PolOK p)then(if p.length=0 then(0,true)else if p.length=1∧(p.getD 0 default).atoms.length=0 then((p.getD 0 default).coef,true)else(0,false))else(0,false)
theorem w_k9 {p1:List Mono×Unit→Bool} {f1:List Mono×Unit→Bool×Unit} (hp1:∀a,Sh a→p1 (a,())=true) (hf1:∀a,Sh a→f1 (a,())=(bp (PolOK a),())) (a:List Mono) (ha:Sh a):
    F_k9 (std 0) p1 f1 (a,()) (fun y=>y=((pNum a).1,(pNum a).2,())):=by
  dsimp only [F_k9]
  simp (disch:=omega) only [RR,hp1 a ha,hf1 a ha]
  unfold pNum
  refine⟨fun h=> ?_,fun h=>⟨fun h1=> ?_,fun h1=>⟨by omega,by omega,fun h2=>⟨by omega,by omega,?_⟩,fun h2=> ?_⟩⟩⟩
  · rw [if_neg (by simpa using h)]
  · rw [if_pos h,if_pos (by omega)]
  · have h3:=h2.2;rw [show Int.toNat 0=0 from rfl]at h3
    rw [if_pos h,if_neg (by omega),if_pos (show a.length=1∧(a.getD 0 default).atoms.length=0 by omega)];rfl
  · rw [if_pos h,if_neg (by omega),if_neg]
    intro h3
    rw [decide_eq_true (by omega),Bool.true_and,decide_eq_false_iff_not]at h2
    apply h2;rw [show Int.toNat 0=0 from rfl];omega
theorem w_k33 (a:List Int) (ha:a.length≤1073741824):F_k33 (std 0) (a,()) (fun y=>y=(a,())):=by
  dsimp only [F_k33]
  simp (disch:=omega) only [RR]
  omega
theorem take_snoc {α:Type} {l:List α} {i:Int} {d x:α} (h0:0≤i) (h:i<l.length) (e:x=l.getD i.toNat d):l.take i.toNat++ [x]=l.take (i+1).toNat:=by
  rw [e,getD_lt (by omega),show(i+1).toNat=i.toNat+1 by omega,List.take_succ_eq_append_getElem (by omega)]
theorem w_k26 {p1:List Int×Unit→Bool} {f1:List Int×Unit→List Int×Unit} (hp1:∀a,a.length≤1073741824→p1 (a,())=true) (hf1:∀a,a.length≤1073741824→f1 (a,())=(a,())) (a:List Mono) (ha:Sh a):
    F_k26 (std 0) p1 f1 (a,()) (fun y=>y=(a,())):=by
  have hlen:=ha.1
  dsimp only [F_k26]
  refine loop_intro (fun(y:List Mono×Int×Int×List Mono×Unit)=>y.1=a∧y.2.1=a.length∧y.2.2.2.1=a.take y.2.2.1.toNat∧0≤y.2.2.1∧y.2.2.1≤a.length) (fun y=>(a.length-y.2.2.1).toNat) ⟨rfl,rfl,by simp,by simp,by simp⟩ ?_
  rintro⟨(l:List Mono),(m:Int),(i:Int),(o:List Mono),⟨⟩⟩ hI
  dsimp only at hI ⊢
  obtain⟨rfl,rfl,rfl,h1,h2⟩:=hI
  simp (disch:=first | omega | (have:=ha.at i.toNat;omega)) only [RR,hp1,hf1]
  have h3:=ha.at i.toNat
  refine⟨fun h4=>⟨by omega,by omega,?_,⟨take_snoc h1 h4 rfl,by omega,by omega⟩,by omega⟩,fun h4=>by rw [List.take_of_length_le (by omega)]⟩
  have:=List.length_take_le' i.toNat l
  simp only [List.length_cons,List.length_nil];omega
def ShA (a:Atom):Prop:=Sh a.x∧Sh a.y
def ShT (t:List Atom):Prop:=t.length<1000000000∧∀a∈t,ShA a
theorem ShT.at {p:List Atom} (h:ShT p) (n:Nat):ShA (p.getD n default):=by
  by_cases h1:n<p.length
  · rw [getD_lt h1];exact h.2 _ (List.getElem_mem _)
  · simp only [List.getD,List.getElem?_eq_none (by omega:p.length≤n)]
    refine⟨⟨by decide,fun m hm=> ?_⟩,⟨by decide,fun m hm=> ?_⟩⟩<;>exact absurd hm (by simp [default,instInhabitedAtom.default])
theorem w_k20 {p1:List Mono×Unit→Bool} {f1:List Mono×Unit→List Mono×Unit} (hp1:∀a,Sh a→p1 (a,())=true) (hf1:∀a,Sh a→f1 (a,())=(a,())) (a:List Atom) (ha:ShT a):
    F_k20 (std 0) p1 f1 (a,()) (fun y=>y=(a,())):=by
  have hlen:=ha.1
  dsimp only [F_k20]
  refine loop_intro (fun(y:List Atom×Int×Int×List Atom×Unit)=>y.1=a∧y.2.1=a.length∧y.2.2.2.1=a.take y.2.2.1.toNat∧0≤y.2.2.1∧y.2.2.1≤a.length) (fun y=>(a.length-y.2.2.1).toNat) ⟨rfl,rfl,by simp,by simp,by simp⟩ ?_
  rintro⟨(l:List Atom),(m:Int),(i:Int),(o:List Atom),⟨⟩⟩ hI
  dsimp only at hI ⊢
  obtain⟨rfl,rfl,rfl,h1,h2⟩:=hI
  simp (disch:=omega) only [RR,hp1 _ (ha.at _).1,hf1 _ (ha.at _).1,hp1 _ (ha.at _).2,hf1 _ (ha.at _).2]
  refine⟨fun h4=>⟨by omega,by omega,?_,⟨take_snoc h1 h4 rfl,by omega,by omega⟩,by omega⟩,fun h4=>by rw [List.take_of_length_le (by omega)]⟩
  have:=List.length_take_le' i.toNat l
  simp only [List.length_cons,List.length_nil];omega
theorem w_k39 {p4:List Int×List Int×Unit→Bool} {f4:List Int×List Int×Unit→Int×Unit} (hp4:∀a b,a.length<1000000000→p4 (a,b,())=true) (hf4:∀a b,a.length<1000000000→f4 (a,b,())=(aOrd a b,())) (a b:Mono) (ha:a.atoms.length<1000000000):
    F_k39 (std 0) p4 f4 (a,b,()) (fun y=>y=(aOrd a.atoms b.atoms,())):=by
  dsimp only [F_k39]
  simp (disch:=omega) only [RR,hp4 a.atoms b.atoms ha,hf4 a.atoms b.atoms ha]
theorem w_k51 (a:List Atom):F_k51 (std 0) (a,()) (fun y=>y=(a,())):=by
  dsimp only [F_k51]
  simp (disch:=omega) only [RR]
  refine⟨by omega,by omega,by omega,?_⟩
  rw [List.take_of_length_le (by omega)];rfl
def aSame (a b:Atom):Bool:=decide (a.kind=b.kind)&&decide (a.k=b.k)&&decide (pOrd a.x b.x=0)&&decide (pOrd a.y b.y=0)
theorem w_k17 {p1:List Mono×List Mono×Unit→Bool} {f1:List Mono×List Mono×Unit→Bool×Unit} (hp1:∀a b,Sh a→p1 (a,b,())=true) (hf1:∀a b,Sh a→f1 (a,b,())=(decide (pOrd a b=0),())) (a b:Atom) (ha:ShA a):
    F_k17 (std 0) p1 f1 (a,b,()) (fun y=>y=(aSame a b,())):=by
  dsimp only [F_k17]
  simp (disch:=omega) only [RR,hp1 a.x b.x ha.1,hf1 a.x b.x ha.1,hp1 a.y b.y ha.2,hf1 a.y b.y ha.2]
  rfl
theorem w_k23 {p1:Atom×Atom×Unit→Bool} {f1:Atom×Atom×Unit→Bool×Unit} (hp1:∀a b,ShA a→p1 (a,b,())=true) (hf1:∀a b,ShA a→f1 (a,b,())=(aSame a b,())) (a b:Atom) (hb:ShA b):
    F_k23 (std 0) p1 f1 (a,b,()) (fun y=>y=(aSame b a,b,())):=by
  dsimp only [F_k23]
  simp (disch:=omega) only [RR,hp1 b a hb,hf1 b a hb]
noncomputable def idxOf (n:Int) (G:Int→Prop):Int:= @dite _ (∃r,Idx n G r) (Classical.propDecidable _) (fun h=>Classical.choose h) (fun _=> -1)
theorem Idx.uniq {n:Int} {G:Int→Prop} {r s:Int} (h:Idx n G r) (h':Idx n G s):r=s:=by
  rcases h with⟨h1,h2⟩ | ⟨h1,h2,h3,h4⟩<;>rcases h' with⟨g1,g2⟩ | ⟨g1,g2,g3,g4⟩
  · omega
  · exact absurd g3 (h2 s g1 g2)
  · exact absurd h3 (g2 r h1 h2)
  · by_cases h5:r<s
    · exact absurd h3 (g4 r h1 h5)
    · by_cases h6:s<r
      · exact absurd g3 (h4 s g1 h6)
      · omega
theorem Idx.eq {n:Int} {G:Int→Prop} {r:Int} (h:Idx n G r):r=idxOf n G:=by
  unfold idxOf
  have he:∃r,Idx n G r:=⟨r,h⟩
  rw [dif_pos he];exact h.uniq (Classical.choose_spec he)
theorem w_k59 {p:Atom×Atom×Unit→Bool} {f:Atom×Atom×Unit→Bool×Atom×Unit} (hp:∀a b,ShA b→p (a,b,())=true) (hf:∀a b,ShA b→f (a,b,())=(aSame b a,b,())) (a:List Atom) (b:Atom) (ha:a.length<1000000000) (hb:ShA b):
    F_k59 (std 0) p f (a,b,()) (fun y=>y=(idxOf a.length (fun i=>aSame b (a.getD i.toNat default)=true),b,())):=by
  dsimp only [F_k59]
  refine loop_intro (fun(y:List Atom×Int×Int×Atom×Unit)=>y.1=a∧y.2.1=a.length∧y.2.2.2.1=b∧0≤y.2.2.1∧y.2.2.1≤a.length∧All y.2.2.1 (fun i=>¬aSame b (a.getD i.toNat default)=true)) (fun y=>(a.length-y.2.2.1).toNat) ⟨rfl,rfl,rfl,by simp,by simp,All.zero⟩ ?_
  rintro⟨(l:List Atom),(m:Int),(i:Int),(b':Atom),⟨⟩⟩ hI
  dsimp only at hI ⊢
  obtain⟨rfl,rfl,rfl,h1,h2,h3⟩:=hI
  simp (disch:=omega) only [RR,hp _ _ hb,hf _ _ hb]
  refine⟨fun h4=>⟨by omega,by omega,fun h5=> ?_,fun h5=>⟨⟨by omega,by omega,h3.snoc (by simp only [h5];simp)⟩,by omega⟩⟩,fun h4=> ?_⟩
  · rw [←Idx.eq (Or.inr ⟨by omega,by omega,h5,h3⟩)]
  · rw [←Idx.eq (Or.inl ⟨rfl,h3.le (by omega)⟩)]
noncomputable def tFind (t:List Atom) (a:Atom):Int:=idxOf t.length (fun i=>aSame a (t.getD i.toNat default)=true)
theorem w_k22 {p:List Atom×Atom×Unit→Bool} {f:List Atom×Atom×Unit→Int×Atom×Unit} (hp:∀a b,a.length<1000000000→ShA b→p (a,b,())=true)
    (hf:∀a b,a.length<1000000000→ShA b→f (a,b,())=(idxOf a.length (fun i=>aSame b (a.getD i.toNat default)=true),b,())) (a:List Atom) (b:Atom) (ha:a.length<1000000000) (hb:ShA b):
    F_k22 (std 0) p f (a,b,()) (fun y=>y=(tFind a b,())):=by
  dsimp only [F_k22]
  simp (disch:=omega) only [RR,hp a b ha hb,hf a b ha hb]
  rfl
def aDefd (a:Atom) (n:Int):Prop:=if a.kind=4 then(1≤a.k∧a.k≤5)∧PolOK a.x∧PolOK a.y∧pUnder a.x n∧pUnder a.y n else
  (a.x=[]∧a.y=[])∧((a.kind=1∧0≤a.k∧a.k≤3)∨(a.kind=2∨a.kind=3)∧0≤a.k∧a.k≤199)
theorem w_k16 {p1:Int×Int×Int×Unit→Bool} {f1:Int×Int×Int×Unit→Bool×Unit} (hp1:∀a b c,p1 (a,b,c,())=true) (hf1:∀a b c,f1 (a,b,c,())=(inB a b c,()))
    {p2:Int×Unit→Bool} {f2:Int×Unit→Bool×Unit} (hp2:∀a,p2 (a,())=true) (hf2:∀a,f2 (a,())=(inB a 1 5,()))
    {p3:List Mono×Int×Unit→Bool} {f3:List Mono×Int×Unit→Bool×Unit} (hp3:∀a n,Sh a→p3 (a,n,())=true) (hf3:∀a n,Sh a→f3 (a,n,())=(bp (pUnder a n),()))
    {p4:List Mono×Unit→Bool} {f4:List Mono×Unit→Bool×Unit} (hp4:∀a,Sh a→p4 (a,())=true) (hf4:∀a,Sh a→f4 (a,())=(bp (PolOK a),()))
    {p5:Int×Unit→Bool} {f5:Int×Unit→Bool×Unit} (hp5:∀a,p5 (a,())=true) (hf5:∀a,f5 (a,())=(inB a 0 3,())) (a:Atom) (n:Int) (ha:ShA a):
    F_k16 (std 0) p1 f1 p2 f2 p3 f3 p4 f4 p5 f5 (a,n,()) (fun y=>y=(bp (aDefd a n),())):=by
  obtain⟨hx,hy⟩:=ha
  have hx1:=hx.1
  have hy1:=hy.1
  dsimp only [F_k16]
  simp (disch:=omega) only [RR,hp1,hf1,hp2,hf2,hp3 a.x n hx,hf3 a.x n hx,hp3 a.y n hy,hf3 a.y n hy,hp4 a.x hx,hf4 a.x hx,hp4 a.y hy,hf4 a.y hy,hp5,hf5]
  unfold aDefd
  refine⟨fun h=> ?_,fun h=>⟨fun h1=> ?_,fun h1=> ?_⟩⟩
  · rw [if_pos h]
    congr 1
    rw [Bool.eq_iff_iff,bp_eq]
    simp only [Bool.and_eq_true,inB_t,bp_eq,and_assoc]
  · rw [if_neg h,bp_f]
    rintro⟨⟨h2,h3⟩, -⟩
    rw [h2,h3]at h1;exact absurd h1 (by simp)
  · rw [if_neg h]
    have h2:a.x=[]:=List.eq_nil_of_length_eq_zero (by omega)
    have h3:a.y=[]:=List.eq_nil_of_length_eq_zero (by omega)
    congr 1
    rw [Bool.eq_iff_iff,bp_eq]
    simp only [Bool.or_eq_true,Bool.and_eq_true,decide_eq_true_eq,inB_t,h2,h3,true_and]
def TabOK (t:List Atom):Prop:=All t.length (fun i=>aDefd (t.getD i.toNat default) i∧tFind t (t.getD i.toNat default)=i)∧t.length≤200
theorem w_k19 {p1:Atom×Int×Unit→Bool} {f1:Atom×Int×Unit→Bool×Unit} (hp1:∀a n,ShA a→p1 (a,n,())=true) (hf1:∀a n,ShA a→f1 (a,n,())=(bp (aDefd a n),()))
    {p2:List Atom×Atom×Unit→Bool} {f2:List Atom×Atom×Unit→Int×Unit} (hp2:∀a b,a.length<1000000000→ShA b→p2 (a,b,())=true) (hf2:∀a b,a.length<1000000000→ShA b→f2 (a,b,())=(tFind a b,())) (a:List Atom) (ha:ShT a):
    F_k19 (std 0) p1 f1 p2 f2 (a,()) (fun y=>y=(bp (TabOK a),())):=by
  have hlen:=ha.1
  dsimp only [F_k19]
  refine loop_intro (fun(y:List Atom×Int×Int×List Atom×Unit)=>y.1=a∧y.2.1=a.length∧y.2.2.2.1=a∧0≤y.2.2.1∧y.2.2.1≤a.length∧All y.2.2.1 (fun i=>aDefd (a.getD i.toNat default) i∧tFind a (a.getD i.toNat default)=i)) (fun y=>(a.length-y.2.2.1).toNat) ⟨rfl,rfl,rfl,by simp,by simp,All.zero⟩ ?_
  rintro⟨(l:List Atom),(m:Int),(i:Int),(b':List Atom),⟨⟩⟩ hI
  dsimp only at hI ⊢
  obtain⟨rfl,rfl,rfl,h1,h2,h3⟩:=hI
  simp (disch:=omega) only [RR,hp1 _ _ (ha.at _),hf1 _ _ (ha.at _),hp2 _ _ ha.1 (ha.at _),hf2 _ _ ha.1 (ha.at _),bp_eq,bp_ne]
  refine⟨fun h4=>⟨by omega,by omega,fun h5=> ?_,fun h5=>⟨⟨by omega,by omega,h3.snoc h5⟩,by omega⟩⟩,fun h4=> ?_⟩
  · rw [bp_f (fun h=> ?_)]
    have:=h.1 i h1 h4
    rcases h5 with h5 | h5
    · exact h5 this.1
    · exact h5 this.2
  · by_cases h5:b'.length≤200
    · rw [bp_t (show TabOK b' from⟨h3.le (by omega),h5⟩),decide_eq_true (by omega)]
    · rw [bp_f (show¬TabOK b' from fun h=>h5 h.2),decide_eq_false (by omega)]
noncomputable def tPut (t:List Atom) (a:Atom):List Atom×Int:=if 0≤tFind t a then(t,tFind t a)else @ite _ (¬aDefd a t.length∨t.length=200) (Classical.propDecidable _) (t, -1) (t++ [a],(t.length:Int))
theorem w_k24 {p1:Atom×Int×Unit→Bool} {f1:Atom×Int×Unit→Bool×Unit} (hp1:∀a n,ShA a→p1 (a,n,())=true) (hf1:∀a n,ShA a→f1 (a,n,())=(bp (aDefd a n),()))
    {p2:List Atom×Atom×Unit→Bool} {f2:List Atom×Atom×Unit→Int×Unit} (hp2:∀a b,a.length<1000000000→ShA b→p2 (a,b,())=true) (hf2:∀a b,a.length<1000000000→ShA b→f2 (a,b,())=(tFind a b,()))
    {p3:List Atom×Unit→Bool} {f3:List Atom×Unit→List Atom×Unit} (hp3:∀a,p3 (a,())=true) (hf3:∀a,f3 (a,())=(a,())) (t:List Atom) (a:Atom) (ht:t.length<1000000000) (ha:ShA a):
    F_k24 (std 0) p1 f1 p2 f2 p3 f3 (t,a,()) (fun y=>y=((tPut t a).1,(tPut t a).2,())):=by
  dsimp only [F_k24]
  simp (disch:=omega) only [RR,hp1 a t.length ha,hf1 a t.length ha,hp2 t a ht ha,hf2 t a ht ha,hp3,hf3,bp_eq,bp_ne]
  unfold tPut
  refine⟨fun h=>by rw [if_pos h],fun h=>⟨fun h1=> ?_,fun h1=>⟨?_,?_,?_⟩⟩⟩
  · rw [if_neg h,if_pos (by rcases h1 with h1 | h1;exact Or.inl h1;exact Or.inr (by omega))]
  · exact Or.inl (by simp)
  · simp only [List.length_cons,List.length_nil];omega
  · rw [if_neg h,if_neg (by rintro(h2 | h2);exact h2 h1.1;exact absurd h2 (by omega))]
end Go.TX.F
namespace Go.TX.F
open Go Go.AE Go.TX
theorem cmpI_flip (a b:Int):cmpI b a= -cmpI a b:=by unfold cmpI;repeat' split<;>omega
theorem cmpI_zero {a b:Int}:cmpI a b=0↔a=b:=by unfold cmpI;constructor<;>intro h<;>(repeat' split at*)<;>omega
theorem lexI_flip:∀a b:List Int,lexI b a= -lexI a b
  | [],[]=>rfl | [],_::_=>rfl | _::_,[]=>rfl
  | a::az,b::bs=>by
    simp only [lexI,cmpI_flip a b,lexI_flip az bs]
    split<;>split<;>omega
theorem lexI_zero:∀ {a b:List Int},lexI a b=0→a=b
  | [],[],_=>rfl | [],_::_,h=>by simp [lexI]at h
  | _::_,[],h=>by simp [lexI]at h
  | a::az,b::bs,h=>by
    simp only [lexI]at h
    split at h
    · exact absurd h (by assumption)
    · rename_i h1
      rw [cmpI_zero.1 (Classical.not_not.1 h1),lexI_zero h]
theorem lexI_self:∀a:List Int,lexI a a=0
  | []=>rfl
  | a::az=>by simp only [lexI,show cmpI a a=0 from cmpI_zero.2 rfl];simp [lexI_self az]
theorem lexI_trans:∀ {a b c:List Int},lexI a b≤0→lexI b c≤0→lexI a c≤0
  | [],_,[],_,_=>by simp [lexI]
  | [],_,_::_,_,_=>by simp [lexI]
  | _::_,[],_,h,_=>by simp [lexI]at h
  | _::_,_::_,[],_,h=>by simp [lexI]at h
  | a::az,b::bs,c::cs,h1,h2=>by
    have ih:= @lexI_trans az bs cs
    simp only [lexI]at h1 h2 ⊢
    unfold cmpI at h1 h2 ⊢
    repeat' split at h1
    all_goals (repeat' split at h2)
    all_goals (repeat' split)
    all_goals omega
theorem aOrd_flip (a b:List Int):aOrd b a= -aOrd a b:=by
  unfold aOrd or2;rw [cmpI_flip,lexI_flip];repeat' split<;>omega
theorem aOrd_zero {a b:List Int}:aOrd a b=0↔a=b:=by
  constructor
  · intro h;unfold aOrd or2 at h
    split at h
    · exact absurd h (by assumption)
    · exact lexI_zero h
  · rintro rfl;unfold aOrd or2;rw [show cmpI (a.length:Int) a.length=0 from cmpI_zero.2 rfl,lexI_self];rfl
theorem aOrd_trans {a b c:List Int} (h1:aOrd a b≤0) (h2:aOrd b c≤0):aOrd a c≤0:=by
  have ih:= @lexI_trans a b c
  unfold aOrd or2 cmpI at*
  repeat' split at h1
  all_goals (repeat' split at h2)
  all_goals (repeat' split)
  all_goals omega
def le (x y:Mono):Prop:=aOrd x.atoms y.atoms≤0
theorem le.trans {x y z:Mono} (h1:le x y) (h2:le y z):le x z:=aOrd_trans h1 h2
theorem le_of_nlt {x y:Mono} (h:¬aOrd y.atoms x.atoms<0):le x y:=by unfold le;rw [aOrd_flip];omega
theorem le_of_lt {x y:Mono} (h:aOrd x.atoms y.atoms<0):le x y:=by unfold le;omega
theorem le_refl (x:Mono):le x x:=by unfold le;rw [aOrd_zero.2 rfl];omega
theorem lt_of_le_lt {x y z:Mono} (h1:le x y) (h2:aOrd y.atoms z.atoms<0):aOrd x.atoms z.atoms<0:=by
  have h3:=aOrd_trans h1 (le_of_lt h2)
  by_cases h:aOrd x.atoms z.atoms=0
  · have e:=aOrd_zero.1 h
    unfold le at h1;rw [e,aOrd_flip]at h1;omega
  · omega
theorem lt_of_lt_le {x y z:Mono} (h1:aOrd x.atoms y.atoms<0) (h2:le y z):aOrd x.atoms z.atoms<0:=by
  have h3:=aOrd_trans (le_of_lt h1) h2
  by_cases h:aOrd x.atoms z.atoms=0
  · have e:=aOrd_zero.1 h
    unfold le at h2;rw [←e,aOrd_flip]at h2;omega
  · omega
theorem sum_set (g:Mono→Int) (x:Mono):∀(d:List Mono) (n:Nat) (h:n<d.length),((d.set n x).map g).sum=(d.map g).sum-g d[n]+g x
  | [],_,h=>absurd h (by simp)
  | a::d,0,h=>by simp;omega
  | a::d,n+1,h=>by
    have:=sum_set g x d n (by simpa using h)
    simp only [List.set_cons_succ,List.map_cons,List.sum_cons,List.getElem_cons_succ];omega
structure Sm (d d':List Mono):Prop where
  len:d'.length=d.length
  sum:∀g:Mono→Int,(d'.map g).sum=(d.map g).sum
theorem Sm.refl (d:List Mono):Sm d d:=⟨rfl,fun _=>rfl⟩
theorem Sm.trans {a b c:List Mono} (h1:Sm a b) (h2:Sm b c):Sm a c:=⟨h2.1.trans h1.1,fun g=>(h2.2 g).trans (h1.2 g)⟩
theorem Sm.symm {a b:List Mono} (h1:Sm a b):Sm b a:=⟨h1.1.symm,fun g=>(h1.2 g).symm⟩
theorem ind_sum (x:Mono):∀d:List Mono,0≤(d.map (fun y=>if y=x then(1:Int)else 0)).sum∧(0< (d.map (fun y=>if y=x then(1:Int)else 0)).sum↔x∈d)
  | []=>by simp
  | a::d=>by
    have:=ind_sum x d
    simp only [List.map_cons,List.sum_cons,List.mem_cons]
    by_cases h:a=x
    · rw [if_pos h];refine⟨by omega,⟨fun _=>Or.inl h.symm,fun _=>by omega⟩⟩
    · rw [if_neg h];refine⟨by omega,⟨fun h2=>Or.inr (this.2.1 (by omega)),fun h2=> ?_⟩⟩
      rcases h2 with h2 | h2
      · exact absurd h2.symm h
      · have:=this.2.2 h2;omega
theorem Sm.mem {a b:List Mono} (h:Sm a b) {x:Mono} (hx:x∈b):x∈a:=by
  rw [←(ind_sum x a).2,←h.2];exact(ind_sum x b).2.2 hx
theorem Sm.sh {a b:List Mono} (h:Sm a b) (hs:Sh a):Sh b:=⟨by have:=hs.1;have:=h.1;omega,fun m hm=>hs.2 m (h.mem hm)⟩
def swp (d:List Mono) (i j:Int):List Mono:=(d.set i.toNat ((d).getD (j).toNat default)).set j.toNat ((d).getD (i).toNat default)
theorem swp_len (d:List Mono) (i j:Int):(swp d i j).length=d.length:=by simp [swp]
theorem at_set {d:List Mono} {i j:Int} {x:Mono} (h1:0≤i) (h2:i<d.length) (h3:0≤j):((d.set i.toNat x).getD (j).toNat default)=if j=i then x else((d).getD (j).toNat default):=by
  simp only [List.getD]
  by_cases h:j=i
  · subst h;rw [if_pos rfl,List.getElem?_set_self (by omega)];rfl
  · rw [if_neg h,List.getElem?_set_ne (by omega)]
theorem at_swp {d:List Mono} {i j k:Int} (h1:0≤i) (h2:i<d.length) (h3:0≤j) (h4:j<d.length) (h5:0≤k):((swp d i j).getD (k).toNat default)=if k=j then((d).getD (i).toNat default)else if k=i then((d).getD (j).toNat default)else((d).getD (k).toNat default):=by
  unfold swp
  rw [at_set h3 (by simp;omega) h5,at_set h1 h2 h5]
theorem swp_sm {d:List Mono} {i j:Int} (h1:0≤i) (h2:i<d.length) (h3:0≤j) (h4:j<d.length):Sm d (swp d i j):=by
  refine⟨swp_len d i j,fun g=> ?_⟩
  unfold swp
  rw [getD_lt (show i.toNat<d.length by omega),getD_lt (show j.toNat<d.length by omega),sum_set g _ _ _ (by simp;omega),sum_set g _ _ _ (by omega),List.getElem_set]
  split
  · rename_i h;have:i=j:=by omega
    subst this;omega
  · omega
def Swp (d d':List Mono) (a b n:Int):Prop:=Sm d d'∧∀k,0≤k→((d').getD (k).toNat default)=if a≤k∧k<a+n then((d).getD (k+(b-a)).toNat default)else if b≤k∧k<b+n then((d).getD (k- (b-a)).toNat default)else((d).getD (k).toNat default)
theorem w_k77 (a b n:Int) (d:List Mono) (hl:d.length<1000000000) (h1:0≤a) (h2:0≤n) (h3:a+n≤b) (h4:b+n≤d.length):
    F_k77 (std 0) (a,b,n,d,()) (fun y=>Swp d y.1 a b n):=by
  dsimp only [F_k77]
  refine loop_intro (fun(y:Int×Int×Int×Int×List Mono×Unit)=>y.1=a∧y.2.1=b∧y.2.2.1=n∧0≤y.2.2.2.1∧y.2.2.2.1≤n∧Swp d y.2.2.2.2.1 a b y.2.2.2.1) (fun y=>(n-y.2.2.2.1).toNat)
    ⟨rfl,rfl,rfl,by simp,by simp;omega,Sm.refl d,fun k hk=>by dsimp only;rw [if_neg (by omega),if_neg (by omega)]⟩ ?_
  rintro⟨(a':Int),(b':Int),(n':Int),(i:Int),(e:List Mono),⟨⟩⟩ hI
  dsimp only at hI ⊢
  obtain⟨rfl,rfl,rfl,h5,h6,h7,h8⟩:=hI
  have hle:=h7.1
  simp (disch:=omega) only [RR,List.length_set]
  refine⟨fun h9=> ?_,fun h9=> ?_⟩
  · have e1:(e.set (a'+i).toNat ((e).getD (b'+i).toNat default)).set (b'+i).toNat ((e).getD (a'+i).toNat default)=swp e (a'+i) (b'+i):=rfl
    rw [e1]
    refine⟨by omega,by omega,by omega,by omega,by omega,by omega,by omega,by omega,by omega,by omega,by omega,by omega,by omega,by omega,by omega,by omega,⟨by omega,by omega,h7.trans (swp_sm (by omega) (by omega) (by omega) (by omega)),fun k hk=> ?_⟩,by omega⟩
    rw [at_swp (by omega) (by omega) (by omega) (by omega) hk]
    rw [h8 _ (by omega),h8 _ (by omega),h8 _ hk]
    repeat' split
    all_goals first | rfl | (exfalso;omega) | (congr 2;omega)
  · have:i=n':=by omega
    subst this;exact⟨h7,h8⟩
end Go.TX.F
namespace Go.TX.F
open Go Go.AE Go.TX
def Rot (d d':List Mono) (a m b:Int):Prop:=Sm d d'∧∀k,0≤k→((d').getD (k).toNat default)=if a≤k∧k<a+(b-m)then((d).getD (k+(m-a)).toNat default)else if a+(b-m)≤k∧k<b then((d).getD (k- (b-m)).toNat default)else((d).getD (k).toNat default)
theorem w_k75 {p:Int×Int×Int×List Mono×Unit→Bool} {f:Int×Int×Int×List Mono×Unit→List Mono×Unit}
    (hp:∀(a b n:Int) (d:List Mono),d.length<1000000000→0≤a→0≤n→a+n≤b→b+n≤d.length→p (a,b,n,d,())=true) (hf:∀(a b n:Int) (d:List Mono),d.length<1000000000→0≤a→0≤n→a+n≤b→b+n≤d.length→Swp d (f (a,b,n,d,())).1 a b n)
    (a m b:Int) (d:List Mono) (hl:d.length<1000000000) (h1:0≤a) (h2:a<m) (h3:m<b) (h4:b≤d.length):
    F_k75 (std 0) p f (a,m,b,d,()) (fun y=>Rot d y.1 a m b):=by
  dsimp only [F_k75]
  simp (disch:=omega) only [RR]
  refine loop_intro (fun(y:Int×Int×Int×List Mono×Unit)=>y.1=m∧0<y.2.1∧0<y.2.2.1∧a≤m-y.2.1∧m+y.2.2.1≤b∧Sm d y.2.2.2.1∧
      ∀k,0≤k→(if a≤k∧k<a+(b-m)then((d).getD (k+(m-a)).toNat default)else if a+(b-m)≤k∧k<b then((d).getD (k- (b-m)).toNat default)else((d).getD (k).toNat default))
        =(if m-y.2.1≤k∧k<m-y.2.1+y.2.2.1 then((y.2.2.2.1).getD (k+y.2.1).toNat default)else if m-y.2.1+y.2.2.1≤k∧k<m+y.2.2.1 then((y.2.2.2.1).getD (k-y.2.2.1).toNat default)else((y.2.2.2.1).getD (k).toNat default))) (fun y=>(y.2.1+y.2.2.1).toNat)
    ⟨rfl,by simp;omega,by simp;omega,by simp;omega,by simp;omega,Sm.refl d,fun k hk=>by
      dsimp only;rw [show m- (m-a)=a by omega,show m+(b-m)=b by omega]⟩ ?_
  rintro⟨(m':Int),(i:Int),(j:Int),(e:List Mono),⟨⟩⟩ hI
  dsimp only at hI ⊢
  obtain⟨rfl,h5,h6,h7,h8,h9,h10⟩:=hI
  have hle:=h9.1
  simp (disch:=omega) only [RR]
  refine⟨fun h11=>⟨fun h12=> ?_,fun h12=> ?_⟩,fun h11=> ?_⟩
  · obtain⟨s1,s2⟩:=hf (m'-i) m' j e (by omega) (by omega) (by omega) (by omega) (by omega)
    refine⟨hp _ _ _ _ (by omega) (by omega) (by omega) (by omega) (by omega),⟨by omega,by omega,by omega,by omega,h9.trans s1,fun k hk=> ?_⟩,by omega⟩
    rw [h10 k hk]
    generalize (f (m'-i,m',j,e,())).1=e' at s1 s2 ⊢
    by_cases c1:m'-i≤k∧k<m'-i+j
    · rw [if_pos c1,if_neg (by omega),if_neg (by omega),s2 k hk,if_pos c1];congr 2;omega
    · rw [if_neg c1]
      by_cases c2:m'-i+j≤k∧k<m'+j
      · rw [if_pos c2]
        by_cases c3:m'- (i-j)≤k∧k<m'- (i-j)+j
        · rw [if_pos c3,s2 _ (by omega),if_neg (by omega),if_pos (by omega)];congr 2;omega
        · rw [if_neg c3,if_pos (by omega),s2 _ (by omega),if_neg (by omega),if_neg (by omega)]
      · rw [if_neg c2,if_neg (by omega),if_neg (by omega),s2 _ hk,if_neg (by omega),if_neg (by omega)]
  · obtain⟨s1,s2⟩:=hf (m'-i) (m'+j-i) i e (by omega) (by omega) (by omega) (by omega) (by omega)
    refine⟨hp _ _ _ _ (by omega) (by omega) (by omega) (by omega) (by omega),⟨by omega,by omega,by omega,by omega,h9.trans s1,fun k hk=> ?_⟩,by omega⟩
    rw [h10 k hk]
    generalize (f (m'-i,m'+j-i,i,e,())).1=e' at s1 s2 ⊢
    by_cases c1:m'-i≤k∧k<m'-i+j
    · rw [if_pos c1]
      by_cases c3:k<m'-i+(j-i)
      · rw [if_pos (by omega),s2 _ (by omega)]
        by_cases c4:k<m'
        · by_cases c5:k+i<m'+j-i
          · rw [if_neg (by omega),if_neg (by omega)]
          · exfalso;omega
        · by_cases c5:k+i<m'+j-i
          · rw [if_neg (by omega),if_neg (by omega)]
          · exfalso;omega
      · by_cases c6:k<m'
        · rw [if_neg (by omega),if_pos (by omega),s2 _ (by omega),if_pos (by omega)];congr 2;omega
        · rw [if_neg (by omega),if_pos (by omega),s2 _ (by omega)]
          by_cases c7:k- (j-i)<m'
          · rw [if_pos (by omega)];congr 2;omega
          · exfalso;omega
    · rw [if_neg c1]
      by_cases c2:m'-i+j≤k∧k<m'+j
      · rw [if_pos c2,if_neg (by omega),if_neg (by omega),s2 _ hk,if_neg (by omega),if_pos (by omega)];congr 2;omega
      · rw [if_neg c2,if_neg (by omega),if_neg (by omega),s2 _ hk,if_neg (by omega),if_neg (by omega)]
  · have hij:i=j:=by omega
    subst hij
    obtain⟨s1,s2⟩:=hf (m'-i) m' i e (by omega) (by omega) (by omega) (by omega) (by omega)
    refine⟨hp _ _ _ _ (by omega) (by omega) (by omega) (by omega) (by omega),h9.trans s1,fun k hk=> ?_⟩
    rw [h10 k hk,s2 k hk]
    repeat' split
    all_goals first | rfl | (exfalso;omega) | (congr 2;omega)
def Std' (d:List Mono) (a b:Int):Prop:=∀p q,a≤p→p≤q→q<b→le ((d).getD (p).toNat default) ((d).getD (q).toNat default)
def Out (d d':List Mono) (a b:Int):Prop:=∀k,0≤k→(k<a∨b≤k)→((d').getD (k).toNat default)=((d).getD (k).toNat default)
theorem w_k68 {p:Mono×Mono×Unit→Bool} {f:Mono×Mono×Unit→Int×Unit} (hp:∀x y,x.atoms.length<1000000000→p (x,y,())=true) (hf:∀x y,x.atoms.length<1000000000→f (x,y,())=(aOrd x.atoms y.atoms,()))
    (a b:Int) (d:List Mono) (hd:Sh d) (h1:0≤a) (h2:a≤b) (h3:b≤d.length):
    F_k68 (std 0) p f (a,b,d,()) (fun y=>Sm d y.1∧Out d y.1 a b∧Std' y.1 a b):=by
  have hlen:=hd.1
  dsimp only [F_k68]
  simp (disch:=omega) only [RR]
  refine loop_intro (fun(y:Int×Int×Int×List Mono×Unit)=>y.1=a∧y.2.1=b∧a+1≤y.2.2.1∧(y.2.2.1≤b∨y.2.2.1=a+1)∧Sm d y.2.2.2.1∧Out d y.2.2.2.1 a b∧Std' y.2.2.2.1 a y.2.2.1) (fun y=>(b-y.2.2.1).toNat)
    ⟨rfl,rfl,by simp,Or.inr rfl,Sm.refl d,fun k _ _=>rfl,fun p q h1 h2 h3=>by dsimp only at h3;rw [show p=q by omega];exact le_refl _⟩ ?_
  rintro⟨(a':Int),(b':Int),(i:Int),(e:List Mono),⟨⟩⟩ hI
  dsimp only at hI ⊢
  obtain⟨rfl,rfl,h4,h5,h6,h7,h8⟩:=hI
  have hle:=h6.1
  simp (disch:=omega) only [RR]
  refine⟨fun h9=> ?_,fun h9=>⟨h6,h7,fun p q g1 g2 g3=>h8 p q g1 g2 (by omega)⟩⟩
  refine loop_intro (fun(y:Int×Int×Int×Int×List Mono×Unit)=>y.1=a'∧y.2.1=b'∧y.2.2.1=i∧a'≤y.2.2.2.1∧y.2.2.2.1≤i∧Sm d y.2.2.2.2.1∧Out d y.2.2.2.2.1 a' b'
      ∧(∀p q,a'≤p→p≤q→q≤i→p≠y.2.2.2.1→q≠y.2.2.2.1→le ((y.2.2.2.2.1).getD (p).toNat default) ((y.2.2.2.2.1).getD (q).toNat default))∧(∀q,y.2.2.2.1<q→q≤i→le ((y.2.2.2.2.1).getD (y.2.2.2.1).toNat default) ((y.2.2.2.2.1).getD (q).toNat default))) (fun y=>y.2.2.2.1.toNat)
    ⟨rfl,rfl,rfl,by simp;omega,by simp,h6,h7,fun p q g1 g2 g3 g4 g5=>h8 p q g1 g2 (by dsimp only at g3 g5;omega),fun q g1 g2=>by dsimp only at g1;omega⟩ ?_
  rintro⟨(a'':Int),(b'':Int),(i':Int),(j:Int),(e':List Mono),⟨⟩⟩ hI
  dsimp only at hI ⊢
  obtain⟨rfl,rfl,rfl,h10,h11,h12,h13,h14,h15⟩:=hI
  have hle':=h12.1
  have hs:=h12.sh hd
  simp (disch:=omega) only [RR,List.length_set,hp _ _ (hs.at _),hf _ _ (hs.at _)]
  have e1:(e'.set j.toNat ((e').getD (j-1).toNat default)).set (j-1).toNat ((e').getD (j).toNat default)=swp e' j (j-1):=rfl
  rw [e1]
  repeat' (refine And.intro ?_ ?_)
  all_goals try omega
  · intro ⟨g1,g2⟩
    repeat' (refine And.intro ?_ ?_)
    all_goals try omega
    · exact h12.trans (swp_sm (by omega) (by omega) (by omega) (by omega))
    · intro k hk hk2
      rw [at_swp (by omega) (by omega) (by omega) (by omega) hk,if_neg (by omega),if_neg (by omega)]
      exact h13 k hk hk2
    · intro p q k1 k2 k3 k4 k5
      rw [at_swp (by omega) (by omega) (by omega) (by omega) (by omega),if_neg k4,at_swp (by omega) (by omega) (by omega) (by omega) (by omega),if_neg k5]
      by_cases c1:p=j
      · rw [if_pos c1]
        by_cases c2:q=j
        · rw [if_pos c2];exact le_refl _
        · rw [if_neg c2];exact h14 _ _ (by omega) (by omega) (by omega) (by omega) (by omega)
      · rw [if_neg c1]
        by_cases c2:q=j
        · rw [if_pos c2];exact h14 _ _ (by omega) (by omega) (by omega) (by omega) (by omega)
        · rw [if_neg c2];exact h14 _ _ (by omega) (by omega) (by omega) (by omega) (by omega)
    · intro q k1 k2
      rw [at_swp (by omega) (by omega) (by omega) (by omega) (by omega),if_pos rfl,at_swp (by omega) (by omega) (by omega) (by omega) (by omega),if_neg (by omega)]
      by_cases c2:q=j
      · rw [if_pos c2];exact le_of_lt g2
      · rw [if_neg c2];exact h15 q (by omega) k2
  · intro g
    refine⟨⟨by omega,by omega,h12,h13,?_⟩,by omega⟩
    have hj:a''<j→le ((e').getD (j-1).toNat default) ((e').getD (j).toNat default):=fun c=>le_of_nlt (by
      simp only [decide_eq_true c,Bool.true_and,decide_eq_false_iff_not]at g;exact g)
    intro p q k1 k2 k3
    by_cases c1:p=j
    · subst c1
      by_cases c2:q=p
      · rw [c2];exact le_refl _
      · exact h15 q (by omega) (by omega)
    · by_cases c2:q=j
      · subst c2
        by_cases c3:p=q-1
        · rw [c3];exact hj (by omega)
        · exact(h14 p (q-1) k1 (by omega) (by omega) c1 (by omega)).trans (hj (by omega))
      · exact h14 p q k1 k2 (by omega) c1 c2
end Go.TX.F
namespace Go.TX.F
open Go Go.AE Go.TX
theorem half {x:Int} (h1:0≤x) (h2:x≤4000000000):IntKind.i64.wrap (arithZ .shr .u64 (IntKind.u64.wrap x) 1)=x/2:=by
  have e1:IntKind.u64.wrap x=x:=by simp [IntKind.wrap,IntKind.bits,IntKind.signed];omega
  have e2:arithZ .shr .u64 x 1=x/2:=by
    show x.fdiv (2^ (min (Int.toNat 1) IntKind.u64.bits))=x/2
    rw [show(2:Int)^ (min (Int.toNat 1) IntKind.u64.bits)=2 by decide,Int.fdiv_eq_ediv_of_nonneg _ (by omega)]
  rw [e1,e2,w64 (by omega) (by omega)]
structure Mrg (d d':List Mono) (a b:Int):Prop where
  sm:Sm d d'
  out:Out d d' a b
  ins:∀k,a≤k→k<b→∃j,a≤j∧j<b∧((d').getD (k).toNat default)=((d).getD (j).toNat default)
  srt:Std' d' a b
structure MPre (a m b:Int) (d:List Mono):Prop where
  sh:Sh d
  h1:0≤a
  h2:a<m
  h3:m<b
  h4:b≤d.length
  s1:Std' d a m
  s2:Std' d m b
theorem dec_and_f {P Q:Prop} [Decidable P] [Decidable Q]:((decide P&&decide Q)=false)↔¬(P∧Q):=by by_cases h1:P<;>by_cases h2:Q<;>simp [h1,h2]
theorem mrg_tail {p2:Int×Int×Int×List Mono×Unit→Bool} {f2:Int×Int×Int×List Mono×Unit→List Mono×Unit}
    (hp2:∀(a m b:Int) (d:List Mono),d.length<1000000000→0≤a→a<m→m<b→b≤d.length→p2 (a,m,b,d,())=true) (hf2:∀(a m b:Int) (d:List Mono),d.length<1000000000→0≤a→a<m→m<b→b≤d.length→Rot d (f2 (a,m,b,d,())).1 a m b)
    {p3:Int×Int×Int×List Mono×Unit→Bool} {f3:Int×Int×Int×List Mono×Unit→List Mono×Unit}
    (K:Int) (hp3:∀(a m b:Int) (d:List Mono),MPre a m b d→b-a<K→p3 (a,m,b,d,())=true) (hf3:∀(a m b:Int) (d:List Mono),MPre a m b d→b-a<K→Mrg d (f3 (a,m,b,d,())).1 a b)
    (a m b mid i E:Int) (d:List Mono) (hd:MPre a m b d) (hK:b-a≤K) (hmid:mid=(a+b)/2) (hE:E=mid+m-i)
    (b1:a≤i) (b2:i≤m) (b3:m≤E) (b4:E≤b) (b5:a<mid) (b6:mid<b)
    (fA:i=a∨E=b∨le ((d).getD (i-1).toNat default) ((d).getD (E).toNat default)) (fB:E=m∨i=m∨le ((d).getD (E-1).toNat default) ((d).getD (i).toNat default)):
      (i<m∧m<E→
          p2 (i,m,E,d,())=true∧
            (a<i∧i<mid→
                p3 (a,i,mid,(f2 (i,m,E,d,())).fst,())=true∧
                  (mid<E∧E<b→
                      p3 (mid,E,b,(f3 (a,i,mid,(f2 (i,m,E,d,())).fst,())).fst,())=true∧
                        Mrg d (f3 (mid,E,b,(f3 (a,i,mid,(f2 (i,m,E,d,())).fst,())).fst,())).fst
                          a b)∧
                    ((decide (mid<E)&&decide (E<b))=false→
                      Mrg d (f3 (a,i,mid,(f2 (i,m,E,d,())).fst,())).fst a b))∧
              ((decide (a<i)&&decide (i<mid))=false→
                (mid<E∧E<b→
                    p3 (mid,E,b,(f2 (i,m,E,d,())).fst,())=true∧
                      Mrg d (f3 (mid,E,b,(f2 (i,m,E,d,())).fst,())).fst a b)∧
                  ((decide (mid<E)&&decide (E<b))=false→
                    Mrg d (f2 (i,m,E,d,())).fst a b)))∧
        ((decide (i<m)&&decide (m<E))=false→
          (a<i∧i<mid→
              p3 (a,i,mid,d,())=true∧
                (mid<E∧E<b→
                    p3 (mid,E,b,(f3 (a,i,mid,d,())).fst,())=true∧
                      Mrg d (f3 (mid,E,b,(f3 (a,i,mid,d,())).fst,())).fst a b)∧
                  ((decide (mid<E)&&decide (E<b))=false→
                    Mrg d (f3 (a,i,mid,d,())).fst a b))∧
            ((decide (a<i)&&decide (i<mid))=false→
              (mid<E∧E<b→
                  p3 (mid,E,b,d,())=true∧Mrg d (f3 (mid,E,b,d,())).fst a b)∧
                ((decide (mid<E)&&decide (E<b))=false→Mrg d d a b))):=by
  obtain⟨hs,h1,h2,h3,h4,hA,hB⟩:=hd
  have hlen:=hs.1
  have cross:∀x y,((a≤x∧x<i)∨(m≤x∧x<E))→((i≤y∧y<m)∨(E≤y∧y<b))→le ((d).getD (x).toNat default) ((d).getD (y).toNat default):=by
    rintro x y (hx | hx) (hy | hy)
    · exact hA x y hx.1 (by omega) hy.2
    · rcases fA with fA | fA | fA
      · omega
      · omega
      · exact((hA x (i-1) hx.1 (by omega) (by omega)).trans fA).trans (hB E y b3 hy.1 hy.2)
    · rcases fB with fB | fB | fB
      · omega
      · omega
      · exact((hB x (E-1) hx.1 (by omega) (by omega)).trans fB).trans (hA i y b1 hy.1 hy.2)
    · exact hB x y hx.1 (by omega) hy.2
  have midd : ∀ e, Rot d e i m E → ∀ R : Prop, R = Mrg d e a b → (a < i ∧ i < mid →
              p3 (a,i,mid,e,())=true∧
                (mid<E∧E<b→
                    p3 (mid,E,b,(f3 (a,i,mid,e,())).fst,())=true∧
                      Mrg d (f3 (mid,E,b,(f3 (a,i,mid,e,())).fst,())).fst a b)∧
                  ((decide (mid<E)&&decide (E<b))=false→
                    Mrg d (f3 (a,i,mid,e,())).fst a b))∧
            ((decide (a<i)&&decide (i<mid))=false→
              (mid<E∧E<b→
                  p3 (mid,E,b,e,())=true∧Mrg d (f3 (mid,E,b,e,())).fst a b)∧
                ((decide (mid<E)&&decide (E<b))=false→R)):=by
    rintro e ⟨r1,r2⟩ R rfl
    have hle:=r1.1
    have hes:=r1.sh hs
    have lo:∀k,a≤k→k<mid→∃x,((a≤x∧x<i)∨(m≤x∧x<E))∧((e).getD (k).toNat default)=((d).getD (x).toNat default):=by
      intro k k1 k2
      rw [r2 k (by omega)]
      by_cases c1:i≤k∧k<i+(E-m)
      · rw [if_pos c1];exact⟨k+(m-i),by omega,rfl⟩
      · rw [if_neg c1,if_neg (by omega)];exact⟨k,by omega,rfl⟩
    have hi:∀k,mid≤k→k<b→∃x,((i≤x∧x<m)∨(E≤x∧x<b))∧((e).getD (k).toNat default)=((d).getD (x).toNat default):=by
      intro k k1 k2
      rw [r2 k (by omega),if_neg (by omega)]
      by_cases c1:i+(E-m)≤k∧k<E
      · rw [if_pos c1];exact⟨k- (E-m),by omega,rfl⟩
      · rw [if_neg c1];exact⟨k,by omega,rfl⟩
    have S1:Std' e a i:=by
      intro p q q1 q2 q3
      rw [r2 p (by omega),r2 q (by omega),if_neg (by omega),if_neg (by omega),if_neg (by omega),if_neg (by omega)]
      exact hA p q q1 q2 (by omega)
    have S2:Std' e i mid:=by
      intro p q q1 q2 q3
      rw [r2 p (by omega),r2 q (by omega),if_pos (by omega),if_pos (by omega)]
      exact hB _ _ (by omega) (by omega) (by omega)
    have S3:Std' e mid E:=by
      intro p q q1 q2 q3
      rw [r2 p (by omega),r2 q (by omega),if_neg (by omega),if_pos (by omega),if_neg (by omega),if_pos (by omega)]
      exact hA _ _ (by omega) (by omega) (by omega)
    have S4:Std' e E b:=by
      intro p q q1 q2 q3
      rw [r2 p (by omega),r2 q (by omega),if_neg (by omega),if_neg (by omega),if_neg (by omega),if_neg (by omega)]
      exact hB _ _ (by omega) (by omega) (by omega)
    have fin:∀e1 e2,Mrg e e1 a mid→Mrg e1 e2 mid b→Mrg d e2 a b:=by
      intro e1 e2 m1 m2
      refine⟨(r1.trans m1.sm).trans m2.sm,fun k k1 k2=> ?_,fun k k1 k2=> ?_,fun p q q1 q2 q3=> ?_⟩
      · rw [m2.out k k1 (by omega),m1.out k k1 (by omega),r2 k k1,if_neg (by omega),if_neg (by omega)]
      · by_cases c:k<mid
        · rw [m2.out k (by omega) (by omega)]
          obtain⟨j,j1,j2,j3⟩:=m1.ins k k1 c
          obtain⟨x,x1,x2⟩:=lo j j1 j2
          rw [j3,x2];exact⟨x,by omega,by omega,rfl⟩
        · obtain⟨j,j1,j2,j3⟩:=m2.ins k (by omega) k2
          rw [j3,m1.out j (by omega) (by omega)]
          obtain⟨x,x1,x2⟩:=hi j j1 j2
          rw [x2];exact⟨x,by omega,by omega,rfl⟩
      · by_cases c:q<mid
        · rw [m2.out p (by omega) (by omega),m2.out q (by omega) (by omega)];exact m1.srt p q q1 q2 c
        · by_cases c2:mid≤p
          · exact m2.srt p q c2 q2 q3
          · rw [m2.out p (by omega) (by omega)]
            obtain⟨j,j1,j2,j3⟩:=m1.ins p q1 (by omega)
            obtain⟨x,x1,x2⟩:=lo j j1 j2
            obtain⟨j',j1',j2',j3'⟩:=m2.ins q (by omega) q3
            obtain⟨x',x1',x2'⟩:=hi j' j1' j2'
            rw [j3,x2,j3',m1.out j' (by omega) (by omega),x2']
            exact cross x x' x1 x1'
    have triv:∀e' a' b',Std' e' a' b'→Mrg e' e' a' b':=fun e' a' b' h=>⟨Sm.refl _,fun _ _ _=>rfl,fun k k1 k2=>⟨k,k1,k2,rfl⟩,h⟩
    have last : ∀ e1, Mrg e e1 a mid → (mid < E ∧ E < b →
                    p3 (mid,E,b,e1,())=true∧
                      Mrg d (f3 (mid,E,b,e1,())).fst a b)∧
                  ((decide (mid<E)&&decide (E<b))=false→
                    Mrg d e1 a b):=by
      intro e1 m1
      have hle1:=m1.sm.1
      have O:∀a' b',mid≤a'→b'≤b→Std' e a' b'→Std' e1 a' b':=fun a' b' g1 g2 g p q q1 q2 q3=>by
        rw [m1.out p (by omega) (by omega),m1.out q (by omega) (by omega)];exact g p q q1 q2 q3
      refine⟨fun c=> ?_,fun c=> ?_⟩
      · have pre:MPre mid E b e1:=⟨m1.sm.sh hes,by omega,c.1,c.2,by omega,O _ _ (by omega) (by omega) S3,O _ _ (by omega) (by omega) S4⟩
        exact⟨hp3 _ _ _ _ pre (by omega),fin _ _ m1 (hf3 _ _ _ _ pre (by omega))⟩
      · rw [dec_and_f]at c
        refine fin _ _ m1 (triv _ _ _ ?_)
        by_cases c2:mid<E
        · have:E=b:=by omega
          subst this;exact O _ _ (by omega) (by omega) S3
        · have:E=mid:=by omega
          rw [this]at S4;exact O _ _ (by omega) (by omega) S4
    refine⟨fun c=> ?_,fun c=> ?_⟩
    · have pre:MPre a i mid e:=⟨hes,by omega,c.1,c.2,by omega,S1,S2⟩
      exact⟨hp3 _ _ _ _ pre (by omega),last _ (hf3 _ _ _ _ pre (by omega))⟩
    · rw [dec_and_f]at c
      refine last e (triv _ _ _ ?_)
      by_cases c2:a<i
      · have:i=mid:=by omega
        rw [←this];exact S1
      · have:i=a:=by omega
        rw [this]at S2;exact S2
  refine⟨fun c=>⟨hp2 _ _ _ _ hlen (by omega) c.1 c.2 (by omega),midd _ (hf2 _ _ _ _ hlen (by omega) c.1 c.2 (by omega)) _ rfl⟩,fun c=>midd d ?_ _ rfl⟩
  rw [dec_and_f]at c
  refine⟨Sm.refl _,fun k k1=> ?_⟩
  repeat' split
  all_goals first | rfl | (exfalso;omega) | (congr 2;omega)
theorem w_k78 {p:Mono×Mono×Unit→Bool} {f:Mono×Mono×Unit→Int×Unit} (hp:∀x y,x.atoms.length<1000000000→p (x,y,())=true) (hf:∀x y,x.atoms.length<1000000000→f (x,y,())=(aOrd x.atoms y.atoms,()))
    {p2:Int×Int×Int×List Mono×Unit→Bool} {f2:Int×Int×Int×List Mono×Unit→List Mono×Unit}
    (hp2:∀(a m b:Int) (d:List Mono),d.length<1000000000→0≤a→a<m→m<b→b≤d.length→p2 (a,m,b,d,())=true) (hf2:∀(a m b:Int) (d:List Mono),d.length<1000000000→0≤a→a<m→m<b→b≤d.length→Rot d (f2 (a,m,b,d,())).1 a m b)
    {p3:Int×Int×Int×List Mono×Unit→Bool} {f3:Int×Int×Int×List Mono×Unit→List Mono×Unit}
    (K:Int) (hp3:∀(a m b:Int) (d:List Mono),MPre a m b d→b-a<K→p3 (a,m,b,d,())=true) (hf3:∀(a m b:Int) (d:List Mono),MPre a m b d→b-a<K→Mrg d (f3 (a,m,b,d,())).1 a b)
    (a m b:Int) (d:List Mono) (hd:MPre a m b d) (hK:b-a≤K):
    F_k78 (std 0) p f p2 f2 p3 f3 (a,m,b,d,()) (fun y=>Mrg d y.1 a b):=by
  obtain⟨hs,h1,h2,h3,h4,hA,hB⟩:=hd
  have hlen:=hs.1
  dsimp only [F_k78]
  simp (disch:=omega) only [RR]
  refine⟨fun h5=> ?_,fun h5=>⟨fun h6=> ?_,fun h6=> ?_⟩⟩
  ·
    have hm:m=a+1:=by omega
    subst hm
    refine loop_intro (fun(y:Int×Int×Int×List Mono×Unit)=>y.1=a∧y.2.2.2.1=d∧a+1≤y.2.1∧y.2.1≤y.2.2.1∧y.2.2.1≤b∧(∀q,a+1≤q→q<y.2.1→aOrd ((d).getD (q).toNat default).atoms ((d).getD (a).toNat default).atoms<0)∧(∀q,y.2.2.1≤q→q<b→¬aOrd ((d).getD (q).toNat default).atoms ((d).getD (a).toNat default).atoms<0)) (fun y=>(y.2.2.1-y.2.1).toNat)
      ⟨rfl,rfl,by simp,by simp;omega,by simp,fun q g1 g2=>by dsimp only at g2;omega,fun q g1 g2=>by dsimp only at g1;omega⟩ ?_
    rintro⟨(a':Int),(i:Int),(j:Int),(d':List Mono),⟨⟩⟩ hI
    dsimp only at hI ⊢
    obtain⟨rfl,rfl,g1,g2,g3,g4,g5⟩:=hI
    simp (disch:=omega) only [RR,half,hp _ _ (hs.at _),hf _ _ (hs.at _)]
    refine⟨fun g6=>⟨by omega,by omega,by omega,by omega,by omega,by omega,by omega,by omega,by omega,fun g7=>⟨⟨by omega,by omega,by omega,fun q k1 k2=> ?_,g5⟩,by omega⟩,fun g7=>⟨⟨by omega,by omega,by omega,g4,fun q k1 k2=> ?_⟩,by omega⟩⟩,fun g6=> ?_⟩
    · exact lt_of_le_lt (hB q ((i+j)/2) k1 (by omega) (by omega)) g7
    · intro g8;exact g7 (lt_of_le_lt (hB ((i+j)/2) q (by omega) (by omega) k2) g8)
    have hij:i=j:=by omega
    subst hij
    refine loop_intro (fun(y:Int×Int×List Mono×Unit)=>y.1=i∧a'≤y.2.1∧y.2.1≤i-1∧Sm d' y.2.2.1∧(∀k,0≤k→((y.2.2.1).getD (k).toNat default)=if a'≤k∧k<y.2.1 then((d').getD (k+1).toNat default)else if k=y.2.1 then((d').getD (a').toNat default)else((d').getD (k).toNat default))) (fun y=>(i-y.2.1).toNat)
      ⟨rfl,by simp,by simp;omega,Sm.refl _,fun k hk=>by dsimp only;rw [if_neg (by omega)];split;(· congr 2);(· rfl)⟩ ?_
    rintro⟨(i':Int),(k:Int),(e:List Mono),⟨⟩⟩ hI
    dsimp only at hI ⊢
    obtain⟨rfl,k1,k2,k3,k4⟩:=hI
    have hle:=k3.1
    simp (disch:=omega) only [RR,List.length_set]
    have e1:(e.set k.toNat ((e).getD (k+1).toNat default)).set (k+1).toNat ((e).getD (k).toNat default)=swp e k (k+1):=rfl
    rw [e1]
    refine⟨fun g7=>⟨by omega,by omega,by omega,by omega,by omega,by omega,by omega,by omega,by omega,by omega,by omega,by omega,by omega,by omega,by omega,by omega,⟨by omega,by omega,k3.trans (swp_sm (by omega) (by omega) (by omega) (by omega)),fun q hq=> ?_⟩,by omega⟩,fun g7=> ?_⟩
    · rw [at_swp (by omega) (by omega) (by omega) (by omega) hq,k4 _ (by omega),k4 _ (by omega),k4 _ hq]
      repeat' split
      all_goals first | rfl | (exfalso;omega) | (congr 2;omega)
    · have hk:k=i'-1:=by omega
      subst hk
      refine⟨k3,fun q hq hq2=> ?_,fun q hq hq2=> ?_,fun q r q1 q2 q3=> ?_⟩
      · rw [k4 q hq,if_neg (by omega),if_neg (by omega)]
      · rw [k4 q (by omega)]
        repeat' split
        · exact⟨q+1,by omega,by omega,rfl⟩
        · exact⟨a',by omega,by omega,rfl⟩
        · exact⟨q,by omega,by omega,rfl⟩
      · rw [k4 q (by omega),k4 r (by omega)]
        by_cases c1:a'≤q∧q<i'-1
        · rw [if_pos c1]
          by_cases c2:a'≤r∧r<i'-1
          · rw [if_pos c2];exact hB _ _ (by omega) (by omega) (by omega)
          · rw [if_neg c2]
            by_cases c3:r=i'-1
            · rw [if_pos c3];exact le_of_lt (g4 _ (by omega) (by omega))
            · rw [if_neg c3];exact hB _ _ (by omega) (by omega) (by omega)
        · rw [if_neg c1,if_neg (by omega:¬(a'≤r∧r<i'-1))]
          by_cases c3:q=i'-1
          · rw [if_pos c3]
            by_cases c4:r=i'-1
            · rw [if_pos c4];exact le_refl _
            · rw [if_neg c4];exact le_of_nlt (g5 r (by omega) (by omega))
          · rw [if_neg c3,if_neg (by omega)];exact hB _ _ (by omega) (by omega) (by omega)
  ·
    have hm:b=m+1:=by omega
    subst hm
    refine loop_intro (fun(y:Int×Int×Int×List Mono×Unit)=>y.1=m∧y.2.2.2.1=d∧a≤y.2.1∧y.2.1≤y.2.2.1∧y.2.2.1≤m∧(∀q,a≤q→q<y.2.1→¬aOrd ((d).getD (m).toNat default).atoms ((d).getD (q).toNat default).atoms<0)∧(∀q,y.2.2.1≤q→q<m→aOrd ((d).getD (m).toNat default).atoms ((d).getD (q).toNat default).atoms<0)) (fun y=>(y.2.2.1-y.2.1).toNat)
      ⟨rfl,rfl,by simp,by simp;omega,by simp,fun q g1 g2=>by dsimp only at g2;omega,fun q g1 g2=>by dsimp only at g1;omega⟩ ?_
    rintro⟨(m':Int),(i:Int),(j:Int),(d':List Mono),⟨⟩⟩ hI
    dsimp only at hI ⊢
    obtain⟨rfl,rfl,g1,g2,g3,g4,g5⟩:=hI
    simp (disch:=omega) only [RR,half,hp _ _ (hs.at _),hf _ _ (hs.at _)]
    refine⟨fun g6=>⟨by omega,by omega,by omega,by omega,by omega,by omega,by omega,by omega,by omega,fun g7=>⟨⟨by omega,by omega,by omega,fun q k1 k2=> ?_,g5⟩,by omega⟩,fun g7=>⟨⟨by omega,by omega,by omega,g4,fun q k1 k2=> ?_⟩,by omega⟩⟩,fun g6=> ?_⟩
    · intro g8
      have:=hA q ((i+j)/2) k1 (by omega) (by omega)
      apply g7
      have h7:=lt_of_lt_le g8 this
      exact h7
    · exact lt_of_lt_le g7 (hA ((i+j)/2) q (by omega) (by omega) k2)
    have hij:i=j:=by omega
    subst hij
    refine loop_intro (fun(y:Int×Int×List Mono×Unit)=>y.1=i∧i≤y.2.1∧y.2.1≤m'∧Sm d' y.2.2.1∧(∀k,0≤k→((y.2.2.1).getD (k).toNat default)=if y.2.1<k∧k≤m' then((d').getD (k-1).toNat default)else if k=y.2.1 then((d').getD (m').toNat default)else((d').getD (k).toNat default))) (fun y=>(y.2.1-i).toNat)
      ⟨rfl,by simp;omega,by simp,Sm.refl _,fun k hk=>by dsimp only;rw [if_neg (by omega)];split;(· congr 2);(· rfl)⟩ ?_
    rintro⟨(i':Int),(k:Int),(e:List Mono),⟨⟩⟩ hI
    dsimp only at hI ⊢
    obtain⟨rfl,k1,k2,k3,k4⟩:=hI
    have hle:=k3.1
    simp (disch:=omega) only [RR,List.length_set]
    have e1:(e.set k.toNat ((e).getD (k-1).toNat default)).set (k-1).toNat ((e).getD (k).toNat default)=swp e k (k-1):=rfl
    rw [e1]
    refine⟨fun g7=>⟨by omega,by omega,by omega,by omega,by omega,by omega,by omega,by omega,by omega,by omega,by omega,by omega,by omega,by omega,by omega,by omega,⟨by omega,by omega,k3.trans (swp_sm (by omega) (by omega) (by omega) (by omega)),fun q hq=> ?_⟩,by omega⟩,fun g7=> ?_⟩
    · rw [at_swp (by omega) (by omega) (by omega) (by omega) hq,k4 _ (by omega),k4 _ (by omega),k4 _ hq]
      repeat' split
      all_goals first | rfl | (exfalso;omega) | (congr 2;omega)
    · have hk:k=i':=by omega
      subst hk
      refine⟨k3,fun q hq hq2=> ?_,fun q hq hq2=> ?_,fun q r q1 q2 q3=> ?_⟩
      · rw [k4 q hq,if_neg (by omega),if_neg (by omega)]
      · rw [k4 q (by omega)]
        repeat' split
        · exact⟨q-1,by omega,by omega,rfl⟩
        · exact⟨m',by omega,by omega,rfl⟩
        · exact⟨q,by omega,by omega,rfl⟩
      · rw [k4 q (by omega),k4 r (by omega)]
        by_cases c1:k<q∧q≤m'
        · rw [if_pos c1,if_pos (by omega)];exact hA _ _ (by omega) (by omega) (by omega)
        · rw [if_neg c1]
          by_cases c3:q=k
          · rw [if_pos c3]
            by_cases c2:k<r∧r≤m'
            · rw [if_pos c2];exact le_of_lt (g5 _ (by omega) (by omega))
            · rw [if_neg c2,if_pos (by omega)];exact le_refl _
          · rw [if_neg c3]
            by_cases c2:k<r∧r≤m'
            · rw [if_pos c2];exact hA _ _ (by omega) (by omega) (by omega)
            · rw [if_neg c2]
              by_cases c4:r=k
              · rw [if_pos c4];exact le_of_nlt (g4 _ (by omega) (by omega))
              · rw [if_neg c4];exact hA _ _ (by omega) (by omega) (by omega)
  ·
    simp (disch:=omega) only [RR,half]
    refine⟨by omega,fun h7=> ?_,fun h7=> ?_⟩
    · refine loop_intro (fun(y:Int×Int×Int×Int×Int×Int×Int×Int×List Mono×Unit)=>y.1=a∧y.2.1=m∧y.2.2.1=b∧y.2.2.2.1=(a+b)/2∧y.2.2.2.2.1=(a+b)/2+m∧y.2.2.2.2.2.2.2.1=(a+b)/2+m-1∧y.2.2.2.2.2.2.2.2.1=d∧(a+b)/2+m-b≤y.2.2.2.2.2.1∧y.2.2.2.2.2.1≤y.2.2.2.2.2.2.1∧y.2.2.2.2.2.2.1≤(a+b)/2
          ∧(∀q,(a+b)/2+m-b≤q→q<y.2.2.2.2.2.1→¬aOrd ((d).getD ((a+b)/2+m-1-q).toNat default).atoms ((d).getD (q).toNat default).atoms<0)∧(∀q,y.2.2.2.2.2.2.1≤q→q< (a+b)/2→aOrd ((d).getD ((a+b)/2+m-1-q).toNat default).atoms ((d).getD (q).toNat default).atoms<0)) (fun y=>(y.2.2.2.2.2.2.1-y.2.2.2.2.2.1).toNat)
        ⟨rfl,rfl,rfl,rfl,rfl,rfl,rfl,by simp,by simp;omega,by simp,fun q g1 g2=>by dsimp only at g2;omega,fun q g1 g2=>by dsimp only at g1;omega⟩ ?_
      rintro⟨(a':Int),(m':Int),(b':Int),(mid:Int),(n:Int),(i:Int),(j:Int),(r:Int),(d':List Mono),⟨⟩⟩ hI
      dsimp only at hI ⊢
      obtain⟨rfl,rfl,rfl,hmid,hn,hr,rfl,g1,g2,g3,g4,g5⟩:=hI
      rw [←hmid]at g1 g3 g4 g5 h7
      simp (disch:=omega) only [RR,half,hp _ _ (hs.at _),hf _ _ (hs.at _)]
      refine⟨fun g6=>⟨by omega,by omega,by omega,by omega,by omega,by omega,by omega,by omega,by omega,fun g7=>⟨⟨hmid,hn,hr,by omega,by omega,by omega,fun q k1 k2=> ?_,by rw [←hmid];exact g5⟩,by omega⟩,fun g7=>⟨⟨hmid,hn,hr,by omega,by omega,by omega,by rw [←hmid];exact g4,fun q k1 k2=> ?_⟩,by omega⟩⟩,fun g6=> ?_⟩
      · rw [←hmid]at k1 ⊢
        intro g8
        apply g7
        rw [hr,←hmid]
        exact lt_of_le_lt (hB _ _ (by omega) (by omega) (by omega)) (lt_of_lt_le g8 (hA _ _ (by omega) (by omega) (by omega)))
      · rw [←hmid]at k2 ⊢
        rw [hr,←hmid]at g7
        exact lt_of_le_lt (hB _ _ (by omega) (by omega) (by omega)) (lt_of_lt_le g7 (hA _ _ (by omega) (by omega) (by omega)))
      · have hij:i=j:=by omega
        subst hij
        refine mrg_tail hp2 hf2 K hp3 hf3 a' m' b' mid i (n-i) d' ⟨hs,h1,h2,h3,h4,hA,hB⟩ hK hmid (by omega) (by omega) (by omega) (by omega) (by omega) (by omega) (by omega) ?_ ?_
        · by_cases c:i=mid+m'-b'
          · first | exact Or.inl (by omega) | exact Or.inr (Or.inl (by omega))
          · refine Or.inr (Or.inr ?_)
            have:=g4 (i-1) (by omega) (by omega)
            rw [show mid+m'-1- (i-1)=n-i by omega]at this
            exact le_of_nlt this
        · by_cases c:i=mid
          · first | exact Or.inl (by omega) | exact Or.inr (Or.inl (by omega))
          · refine Or.inr (Or.inr ?_)
            have:=g5 i (by omega) (by omega)
            rw [show mid+m'-1-i=n-i-1 by omega]at this
            exact le_of_lt this
    · refine loop_intro (fun(y:Int×Int×Int×Int×Int×Int×Int×Int×List Mono×Unit)=>y.1=a∧y.2.1=m∧y.2.2.1=b∧y.2.2.2.1=(a+b)/2∧y.2.2.2.2.1=(a+b)/2+m∧y.2.2.2.2.2.2.2.1=(a+b)/2+m-1∧y.2.2.2.2.2.2.2.2.1=d∧a≤y.2.2.2.2.2.1∧y.2.2.2.2.2.1≤y.2.2.2.2.2.2.1∧y.2.2.2.2.2.2.1≤m
          ∧(∀q,a≤q→q<y.2.2.2.2.2.1→¬aOrd ((d).getD ((a+b)/2+m-1-q).toNat default).atoms ((d).getD (q).toNat default).atoms<0)∧(∀q,y.2.2.2.2.2.2.1≤q→q<m→aOrd ((d).getD ((a+b)/2+m-1-q).toNat default).atoms ((d).getD (q).toNat default).atoms<0)) (fun y=>(y.2.2.2.2.2.2.1-y.2.2.2.2.2.1).toNat)
        ⟨rfl,rfl,rfl,rfl,rfl,rfl,rfl,by simp,by simp;omega,by simp,fun q g1 g2=>by dsimp only at g2;omega,fun q g1 g2=>by dsimp only at g1;omega⟩ ?_
      rintro⟨(a':Int),(m':Int),(b':Int),(mid:Int),(n:Int),(i:Int),(j:Int),(r:Int),(d':List Mono),⟨⟩⟩ hI
      dsimp only at hI ⊢
      obtain⟨rfl,rfl,rfl,hmid,hn,hr,rfl,g1,g2,g3,g4,g5⟩:=hI
      rw [←hmid]at g4 g5 h7
      simp (disch:=omega) only [RR,half,hp _ _ (hs.at _),hf _ _ (hs.at _)]
      refine⟨fun g6=>⟨by omega,by omega,by omega,by omega,by omega,by omega,by omega,by omega,by omega,fun g7=>⟨⟨hmid,hn,hr,by omega,by omega,by omega,fun q k1 k2=> ?_,by rw [←hmid];exact g5⟩,by omega⟩,fun g7=>⟨⟨hmid,hn,hr,by omega,by omega,by omega,by rw [←hmid];exact g4,fun q k1 k2=> ?_⟩,by omega⟩⟩,fun g6=> ?_⟩
      · rw [←hmid]
        intro g8
        apply g7
        rw [hr,←hmid]
        exact lt_of_le_lt (hB _ _ (by omega) (by omega) (by omega)) (lt_of_lt_le g8 (hA _ _ (by omega) (by omega) (by omega)))
      · rw [←hmid]
        rw [hr,←hmid]at g7
        exact lt_of_le_lt (hB _ _ (by omega) (by omega) (by omega)) (lt_of_lt_le g7 (hA _ _ (by omega) (by omega) (by omega)))
      · have hij:i=j:=by omega
        subst hij
        refine mrg_tail hp2 hf2 K hp3 hf3 a' m' b' mid i (n-i) d' ⟨hs,h1,h2,h3,h4,hA,hB⟩ hK hmid (by omega) (by omega) (by omega) (by omega) (by omega) (by omega) (by omega) ?_ ?_
        · by_cases c:i=a'
          · first | exact Or.inl (by omega) | exact Or.inr (Or.inl (by omega))
          · refine Or.inr (Or.inr ?_)
            have:=g4 (i-1) (by omega) (by omega)
            rw [show mid+m'-1- (i-1)=n-i by omega]at this
            exact le_of_nlt this
        · by_cases c:i=m'
          · first | exact Or.inl (by omega) | exact Or.inr (Or.inl (by omega))
          · refine Or.inr (Or.inr ?_)
            have:=g5 i (by omega) (by omega)
            rw [show mid+m'-1-i=n-i-1 by omega]at this
            exact le_of_lt this
end Go.TX.F
namespace Go.TX.F
open Go Go.AE Go.TX
theorem dvd_gap {s a x:Int} (h:s ∣ a) (h1:a<x) (h2:x<a+s):¬s ∣ x:=fun h3=>by
  have:=Int.le_of_dvd (by omega) (Int.dvd_sub h3 h);omega
theorem Std'.adj {d:List Mono} {a b:Int} (h:∀p,a≤p→p+1<b→le ((d).getD (p).toNat default) ((d).getD (p+1).toNat default)):Std' d a b:=by
  intro p q h1 h2 h3
  obtain⟨n,hn⟩:∃n:Nat,q=p+n:=⟨(q-p).toNat,by omega⟩
  subst hn
  clear h2
  induction n with
  | zero=>rw [show p+((0:Nat):Int)=p by omega];exact le_refl _
  | succ n ih=>
    have:=h (p+n) (by omega) (by omega)
    rw [show p+((n+1:Nat):Int)=p+n+1 by omega]
    exact(ih (by omega)).trans this
theorem Std'.at1 {d:List Mono} {a b p:Int} (h:Std' d a b) (h1:a≤p) (h2:p+1<b):le ((d).getD (p).toNat default) ((d).getD (p+1).toNat default):=h p (p+1) h1 (by omega) h2
def Bl (d:List Mono) (s n:Int):Prop:=∀p,0≤p→p+1<n→¬s ∣ p+1→le ((d).getD (p).toNat default) ((d).getD (p+1).toNat default)
theorem w_k76 {p:Int×Int×List Mono×Unit→Bool} {f:Int×Int×List Mono×Unit→List Mono×Unit}
    (hp:∀(a b:Int) (d:List Mono),Sh d→0≤a→a≤b→b≤d.length→p (a,b,d,())=true) (hf:∀(a b:Int) (d:List Mono),Sh d→0≤a→a≤b→b≤d.length→Sm d (f (a,b,d,())).1∧Out d (f (a,b,d,())).1 a b∧Std' (f (a,b,d,())).1 a b)
    {p3:Int×Int×Int×List Mono×Unit→Bool} {f3:Int×Int×Int×List Mono×Unit→List Mono×Unit}
    (hp3:∀(a m b:Int) (d:List Mono),MPre a m b d→p3 (a,m,b,d,())=true) (hf3:∀(a m b:Int) (d:List Mono),MPre a m b d→Mrg d (f3 (a,m,b,d,())).1 a b)
    (n:Int) (d:List Mono) (hd:Sh d) (hn:n=d.length):
    F_k76 (std 0) p f p3 f3 (n,d,()) (fun y=>Sm d y.1∧Std' y.1 0 n):=by
  have hlen:=hd.1
  dsimp only [F_k76]
  simp (disch:=omega) only [RR]
  refine loop_intro (fun(y:Int×Int×Int×Int×List Mono×Unit)=>y.1=n∧y.2.1=20∧0≤y.2.2.1∧y.2.2.1≤n∧(20:Int) ∣ y.2.2.1∧y.2.2.2.1=y.2.2.1+20∧Sm d y.2.2.2.2.1∧Bl y.2.2.2.2.1 20 y.2.2.1) (fun y=>(n+20-y.2.2.2.1).toNat)
    ⟨rfl,rfl,by simp,by simp;omega,⟨0,by simp⟩,rfl,Sm.refl _,fun p h1 h2=>by dsimp only at h2;omega⟩ ?_
  rintro⟨(n':Int),(s:Int),(a:Int),(b:Int),(e:List Mono),⟨⟩⟩ hI
  dsimp only at hI ⊢
  obtain⟨rfl,rfl,h1,h2,h3,rfl,h5,h6⟩:=hI
  have hle:=h5.1
  have hs:=h5.sh hd
  simp (disch:=omega) only [RR]
  have bl:∀a c (e e':List Mono),0≤a→(20:Int) ∣ a→c≤a+20→Bl e 20 a→Out e e' a c→Std' e' a c→Bl e' 20 c:=by
    intro a c e e' c0 c1 c2 c3 c4 c5 q q1 q2 q3
    by_cases k1:q+1<a
    · rw [c4 q q1 (by omega),c4 (q+1) (by omega) (by omega)];exact c3 q q1 k1 q3
    · exact c5.at1 (by omega) q2
  refine⟨fun h7=> ?_,fun h7=> ?_⟩
  · obtain⟨t1,t2,t3⟩:=hf a (a+20) e hs h1 (by omega) (by omega)
    exact⟨hp a (a+20) e hs h1 (by omega) (by omega),⟨by omega,by omega,by omega,h5.trans t1,bl a (a+20) _ _ h1 h3 (by omega) h6 t2 t3⟩,by omega⟩
  obtain⟨t1,t2,t3⟩:=hf a n' e hs h1 (by omega) (by omega)
  refine⟨hp a n' e hs h1 (by omega) (by omega),?_⟩
  have t4:=bl a n' _ _ h1 h3 (by omega) h6 t2 t3
  generalize (f (a,n',e,())).1=e2 at t1 t2 t3 t4 ⊢
  have u1:=h5.trans t1
  clear t1 t2 t3 h5 h6
  refine loop_intro (fun(y:Int×Int×List Mono×Unit)=>y.1=n'∧0<y.2.1∧(y.2.1≤20∨y.2.1≤2*n')∧Sm d y.2.2.1∧Bl y.2.2.1 y.2.1 n') (fun y=>(n'-y.2.1).toNat)
    ⟨rfl,by simp,Or.inl (by simp),u1,t4⟩ ?_
  rintro⟨(n:Int),(s:Int),(e3:List Mono),⟨⟩⟩ hI
  dsimp only at hI ⊢
  obtain⟨rfl,g1,g2,g3,g4⟩:=hI
  simp (disch:=omega) only [RR]
  refine⟨fun g5=> ?_,fun g5=>⟨g3,Std'.adj fun q q1 q2=>g4 q q1 q2 (dvd_gap (a:=0) ⟨0,by simp⟩ (by omega) (by omega))⟩⟩
  refine loop_intro (fun(y:Int×Int×Int×Int×List Mono×Unit)=>y.1=n∧y.2.1=s∧0≤y.2.2.1∧y.2.2.1≤n∧(2*s) ∣ y.2.2.1∧y.2.2.2.1=y.2.2.1+2*s∧Sm d y.2.2.2.2.1
      ∧∀p,0≤p→p+1<n→¬(2*s) ∣ p+1→(p+1<y.2.2.1∨¬s ∣ p+1)→le ((y.2.2.2.2.1).getD (p).toNat default) ((y.2.2.2.2.1).getD (p+1).toNat default)) (fun y=>(n+2*s-y.2.2.2.1).toNat)
    ⟨rfl,rfl,by simp,by simp;omega,⟨0,by simp⟩,by simp,g3,fun q q1 q2 q3 q4=>g4 q q1 q2 (by dsimp only at q4;rcases q4 with q4 | q4;(· omega);(· exact q4))⟩ ?_
  rintro⟨(n':Int),(s':Int),(a:Int),(b:Int),(e4:List Mono),⟨⟩⟩ hI
  dsimp only at hI ⊢
  obtain⟨rfl,rfl,k1,k2,k3,rfl,k5,k6⟩:=hI
  have hle:=k5.1
  have hs:=k5.sh hd
  have ks:s' ∣ a:=Int.dvd_trans ⟨2,by omega⟩ k3
  simp (disch:=omega) only [RR]
  have blk:∀x,x≤n'→a+s'<x→x≤a+2*s'→MPre a (a+s') x e4:=fun x x1 x2 x3=>
    ⟨hs,k1,by omega,x2,by omega,Std'.adj fun q q1 q2=>by
      refine k6 q (by omega) (by omega) (dvd_gap k3 (by omega) (by omega)) (Or.inr (dvd_gap ks (by omega) (by omega))),
      Std'.adj fun q q1 q2=>by
      refine k6 q (by omega) (by omega) (dvd_gap k3 (by omega) (by omega)) (Or.inr (dvd_gap (Int.dvd_add ks (Int.dvd_refl s')) (by omega) (by omega)))⟩
  have stp:∀x e5,x≤n'→(x=a+2*s'∨x=n')→x≤a+2*s'→Mrg e4 e5 a x→∀p,0≤p→p+1<n'→¬(2*s') ∣ p+1→(p+1<x∨¬s' ∣ p+1)→le ((e5).getD (p).toNat default) ((e5).getD (p+1).toNat default):=by
    intro x e5 x1 x2 x3 m1 q q1 q2 q3 q4
    by_cases c1:q+1<a
    · rw [m1.out q q1 (by omega),m1.out (q+1) (by omega) (by omega)];exact k6 q q1 q2 q3 (Or.inl c1)
    · by_cases c2:q+1=a
      · rw [c2]at q3;exact absurd k3 q3
      · by_cases c3:q+1<x
        · exact m1.srt.at1 (by omega) c3
        · by_cases c4:q+1=x
          · exfalso
            rcases x2 with x2 | x2
            · rw [c4,x2]at q3;exact q3 (Int.dvd_add k3 (Int.dvd_refl _))
            · omega
          · rw [m1.out q q1 (by omega),m1.out (q+1) (by omega) (by omega)]
            refine k6 q q1 q2 q3 (Or.inr ?_)
            rcases q4 with q4 | q4
            · omega
            · exact q4
  refine⟨fun k7=> ?_,fun k7=>⟨fun k8=> ?_,fun k8=> ?_⟩⟩
  · have pre:=blk (a+2*s') k7 (by omega) (by omega)
    have m1:=hf3 _ _ _ _ pre
    exact⟨hp3 _ _ _ _ pre,⟨by omega,by omega,Int.dvd_add k3 (Int.dvd_refl _),k5.trans m1.sm,stp _ _ k7 (Or.inl rfl) (by omega) m1⟩,by omega⟩
  · have pre:=blk n' (by omega) k8 (by omega)
    have m1:=hf3 _ _ _ _ pre
    refine⟨hp3 _ _ _ _ pre,⟨by omega,Or.inr (by omega),k5.trans m1.sm,fun q q1 q2 q3=> ?_⟩,by omega⟩
    exact stp _ _ (by omega) (Or.inr rfl) (by omega) m1 q q1 q2 (by rw [Int.mul_comm];exact q3) (Or.inl q2)
  · refine⟨⟨by omega,Or.inr (by omega),k5,fun q q1 q2 q3=> ?_⟩,by omega⟩
    rw [Int.mul_comm]at q3
    by_cases c1:q+1<a
    · exact k6 q q1 q2 q3 (Or.inl c1)
    · by_cases c2:q+1=a
      · rw [c2]at q3;exact absurd k3 q3
      · exact k6 q q1 q2 q3 (Or.inr (dvd_gap ks (by omega) (by omega)))
theorem w_k63 {p:Int×List Mono×Unit→Bool} {f:Int×List Mono×Unit→List Mono×Unit} (hp:∀(n:Int) (d:List Mono),Sh d→n=d.length→p (n,d,())=true)
    (hf:∀(n:Int) (d:List Mono),Sh d→n=d.length→Sm d (f (n,d,())).1∧Std' (f (n,d,())).1 0 n) (d:List Mono) (hd:Sh d):
    F_k63 (std 0) p f (d,()) (fun y=>Sm d y.1∧Std' y.1 0 d.length):=by
  have:=hf _ d hd rfl
  dsimp only [F_k63]
  exact⟨hp _ d hd rfl,this⟩
end Go.TX.F
namespace Go.TX.F
open Go Go.AE Go.TX
def cf (l:List Mono) (k:List Int):Int:=(l.map fun m=>if m.atoms=k then m.coef else 0).sum
theorem cf_nil (k:List Int):cf [] k=0:=rfl
theorem cf_cons (m:Mono) (l:List Mono) (k:List Int):cf (m::l) k=(if m.atoms=k then m.coef else 0)+cf l k:=by simp [cf]
theorem cf_append (a b:List Mono) (k:List Int):cf (a++b) k=cf a k+cf b k:=by simp [cf]
theorem cf_zero {k:List Int}:∀ {l:List Mono},(∀m∈l,m.atoms≠k)→cf l k=0
  | [],_=>rfl
  | m::l,h=>by rw [cf_cons,if_neg (h m (by simp)),cf_zero (fun m hm=>h m (by simp [hm]))];rfl
theorem Sm.cf {a b:List Mono} (h:Sm a b) (k:List Int):cf b k=cf a k:=h.sum _
def lt (a b:Mono):Prop:=aOrd a.atoms b.atoms<0
theorem lt.ne {a b:Mono} (h:lt a b):a.atoms≠b.atoms:=fun e=>by unfold lt at h;rw [e,aOrd_zero.2 rfl]at h;omega
structure Nf (o:List Mono):Prop where
  ss:o.Pairwise lt
  co:∀m∈o,1≤m.coef∧m.coef≤65535
theorem nf_uniq:∀ {o1 o2:List Mono},Nf o1→Nf o2→(∀k,cf o1 k=cf o2 k)→o1=o2
  | [],[],_,_,_=>rfl
  | [],m::o,_,h2,h=>by
    have:=h m.atoms
    rw [cf_cons,if_pos rfl,cf_zero (fun m' hm'=>((List.rel_of_pairwise_cons h2.ss hm').ne).symm),cf_nil]at this
    have:=(h2.co m (by simp));omega
  | m::o,[],h1,_,h=>by
    have:=h m.atoms
    rw [cf_cons,if_pos rfl,cf_zero (fun m' hm'=>((List.rel_of_pairwise_cons h1.ss hm').ne).symm),cf_nil]at this
    have:=(h1.co m (by simp));omega
  | m1::o1,m2::o2,h1,h2,h=>by
    have c1:=h1.co m1 (by simp)
    have c2:=h2.co m2 (by simp)
    have z1:cf o1 m1.atoms=0:=cf_zero fun m' hm'=>((List.rel_of_pairwise_cons h1.ss hm').ne).symm
    have z2:cf o2 m2.atoms=0:=cf_zero fun m' hm'=>((List.rel_of_pairwise_cons h2.ss hm').ne).symm
    have tr:∀ {a b c:Mono},lt a b→lt b c→lt a c:=fun g1 g2=>lt_of_le_lt (le_of_lt g1) g2
    have e:m1.atoms=m2.atoms:=by
      by_cases g1:lt m1 m2
      · have:=h m1.atoms
        rw [cf_cons,if_pos rfl,z1,cf_cons,if_neg (fun e=>g1.ne e.symm),cf_zero (fun m' hm'=>((tr g1 (List.rel_of_pairwise_cons h2.ss hm')).ne).symm)]at this
        omega
      · by_cases g2:lt m2 m1
        · have:=h m2.atoms
          rw [cf_cons,if_neg (fun e=>g2.ne e.symm),cf_zero (fun m' hm'=>((tr g2 (List.rel_of_pairwise_cons h1.ss hm')).ne).symm),cf_cons,if_pos rfl,z2]at this
          omega
        · unfold lt at g1 g2
          rw [aOrd_flip]at g2
          exact aOrd_zero.1 (by omega)
    have ec:m1.coef=m2.coef:=by
      have:=h m1.atoms
      rw [cf_cons,if_pos rfl,z1,cf_cons,if_pos e.symm,e,z2]at this;omega
    have em:m1=m2:=by cases m1;cases m2;simp_all
    subst em
    refine congrArg _ (nf_uniq ⟨h1.ss.tail,fun m hm=>h1.co m (by simp [hm])⟩ ⟨h2.ss.tail,fun m hm=>h2.co m (by simp [hm])⟩ (fun k=>by
      have:=h k;rw [cf_cons,cf_cons]at this;omega))
noncomputable def nf (l:List Mono):List Mono:= @dite _ (∃o,Nf o∧∀k,cf o k=cf l k%65536) (Classical.propDecidable _) (fun h=>Classical.choose h) (fun _=> [])
theorem nf_eq {l o:List Mono} (h:Nf o) (h2:∀k,cf o k=cf l k%65536):nf l=o:=by
  have he:∃o,Nf o∧∀k,cf o k=cf l k%65536:=⟨o,h,h2⟩
  unfold nf;rw [dif_pos he]
  have:=Classical.choose_spec he
  exact nf_uniq this.1 h (fun k=>(this.2 k).trans (h2 k).symm)
noncomputable def sumF (l:List Mono):Bool×List Mono:=(bp (PolOK (nf l)),if bp (PolOK (nf l))then nf l else [])
def Cb (l:List Mono):Prop:=∀m∈l,0≤m.coef∧m.coef≤65535
theorem w_k38 {p1:List Int×List Int×Unit→Bool} {f1:List Int×List Int×Unit→Int×Unit} (hp1:∀a b,a.length<1000000000→p1 (a,b,())=true) (hf1:∀a b,a.length<1000000000→f1 (a,b,())=(aOrd a b,()))
    {p2:List Mono×Unit→Bool} {f2:List Mono×Unit→Bool×Unit} (hp2:∀a,Sh a→p2 (a,())=true) (hf2:∀a,Sh a→f2 (a,())=(bp (PolOK a),()))
    {p3:Int×Unit→Bool} {f3:Int×Unit→Int×Unit} (hp3:∀a,p3 (a,())=true) (hf3:∀a,f3 (a,())=(a%65536,()))
    {p4:List Int×Unit→Bool} {f4:List Int×Unit→List Int×Unit} (hp4:∀a,a.length≤1073741824→p4 (a,())=true) (hf4:∀a,a.length≤1073741824→f4 (a,())=(a,()))
    {p5:List Mono×Unit→Bool} {f5:List Mono×Unit→List Mono×Unit} (hp5:∀d,Sh d→p5 (d,())=true) (hf5:∀d,Sh d→Sm d (f5 (d,())).1∧Std' (f5 (d,())).1 0 d.length)
    (l:List Mono) (hl:Sh l) (hc:Cb l):F_k38 (std 0) p1 f1 p2 f2 p3 f3 p4 f4 p5 f5 (l,()) (fun y=>y.1=(sumF l).1∧y.2.2.1=(sumF l).2):=by
  obtain⟨s1,s2⟩:=hf5 l hl
  dsimp only [F_k38]
  simp (disch:=omega) only [RR,hp5 l hl]
  generalize (f5 (l,())).1=d at s1 s2 ⊢
  have hle:=s1.1
  have hs:=s1.sh hl
  have hlen:=hs.1
  have hcd:Cb d:=fun m hm=>hc m (s1.mem hm)
  refine loop_intro (fun(y:Int×List Mono×List Mono×Unit)=>0≤y.1∧y.1≤d.length∧y.2.1=d∧Nf y.2.2.1∧y.2.2.1.length≤y.1∧(∀k,cf y.2.2.1 k=cf (d.take y.1.toNat) k%65536)∧(∀m∈y.2.2.1,m∈y.2.2.1→m.atoms.length<1000000000)
      ∧(y.1<d.length→(∀m∈y.2.2.1,lt m ((d).getD (y.1).toNat default))∧(∀m∈d.take y.1.toNat,lt m ((d).getD (y.1).toNat default)))) (fun y=>(d.length-y.1).toNat)
    ⟨by simp,by simp,rfl,⟨List.Pairwise.nil,fun m hm=>absurd hm (by simp)⟩,by simp,fun k=>by simp [cf],fun m hm=>absurd hm (by simp),fun _=>⟨fun m hm=>absurd hm (by simp),fun m hm=>absurd hm (by simp)⟩⟩ ?_
  rintro⟨(i:Int),(d':List Mono),(o:List Mono),⟨⟩⟩ hI
  dsimp only at hI ⊢
  obtain⟨h1,h2,rfl,h4,h5,h6,h7,h8⟩:=hI
  have ho:Sh o:=⟨by omega,fun m hm=>h7 m hm hm⟩
  simp (disch:=omega) only [RR,hp2 o ho,hf2 o ho]
  refine⟨fun h9=>⟨by omega,by omega,by omega,by omega,?_⟩,fun h9=> ?_⟩
  · obtain⟨g1,g2⟩:=h8 h9
    have z:cf (d'.take i.toNat) ((d').getD (i).toNat default).atoms=0:=cf_zero fun m hm=>(g2 m hm).ne
    refine loop_intro (fun(y:Int×Int×List Mono×Mono×List Mono×Unit)=>i≤y.1∧y.1≤d'.length∧y.2.2.1=d'∧y.2.2.2.1=((d').getD (i).toNat default)∧y.2.2.2.2.1=o∧y.2.1=cf (d'.take y.1.toNat) ((d').getD (i).toNat default).atoms%65536
        ∧(∀k,k≠((d').getD (i).toNat default).atoms→cf (d'.take y.1.toNat) k=cf (d'.take i.toNat) k)∧(∀m∈d'.take y.1.toNat,lt m ((d').getD (i).toNat default)∨m.atoms=((d').getD (i).toNat default).atoms)) (fun y=>(d'.length-y.1).toNat)
      ⟨by simp,by simp;omega,rfl,rfl,rfl,by rw [z];rfl,fun k _=>rfl,fun m hm=>Or.inl (g2 m hm)⟩ ?_
    rintro⟨(j:Int),(c:Int),(d'':List Mono),(fi:Mono),(o':List Mono),⟨⟩⟩ hI
    dsimp only at hI ⊢
    obtain⟨k1,k2,rfl,rfl,rfl,k6,k7,k8⟩:=hI
    have hc0:0≤c∧c<65536:=by omega
    have hcj:j<d''.length→0≤((d'').getD (j).toNat default).coef∧((d'').getD (j).toNat default).coef≤65535:=fun h=>hcd _ (getD_mem (by omega) h)
    simp (disch:=omega) only [RR,hp1 _ _ (hs.at _),hf1 _ _ (hs.at _),hp3,hf3,hp4 _ (Nat.le_trans (Nat.le_of_lt (hs.at _)) (by omega)),hf4 _ (Nat.le_trans (Nat.le_of_lt (hs.at _)) (by omega))]
    refine⟨by omega,by omega,by omega,by omega,fun⟨m1,m2⟩=> ?_,fun m1=>⟨fun m2=>⟨?_,?_,?_⟩,fun m2=>⟨?_,?_⟩⟩⟩
    · have e:=aOrd_zero.1 m2
      have:=hcj m1
      rw [w64 (by omega) (by omega)]
      have ts:d''.take (j+1).toNat=d''.take j.toNat++ [((d'').getD (j).toNat default)]:=(take_snoc (by omega) m1 rfl).symm
      refine⟨by omega,by omega,by omega,by omega,⟨by omega,by omega,?_,fun k hk=> ?_,fun m hm=> ?_⟩,by omega⟩
      · rw [ts,cf_append,cf_cons,if_pos e.symm,cf_nil,k6];omega
      · rw [ts,cf_append,cf_cons,if_neg (fun h=>hk (by rw [e,h])),cf_nil,k7 k hk];omega
      · rw [ts,List.mem_append,List.mem_singleton]at hm
        rcases hm with hm | hm
        · exact k8 m hm
        · right;rw [hm,e]
    all_goals
      have hb:j<d''.length→lt ((d'').getD (i).toNat default) ((d'').getD (j).toNat default):=fun hj=>by
        rw [decide_eq_true hj,Bool.true_and,decide_eq_false_iff_not]at m1
        have:=s2 i j h1 k1 (by omega)
        unfold le at this;unfold lt;omega
      have hij:i<j:=by
        by_cases hj:j<d''.length
        · by_cases e:i=j
          · have:=(hb hj).ne;rw [e]at this;exact absurd rfl this
          · omega
        · omega
    · simp only [List.length_append,List.length_cons,List.length_nil];omega
    · have co:∀k,cf (o'++ [⟨c,((d'').getD (i).toNat default).atoms⟩]) k=cf (d''.take j.toNat) k%65536:=fun k=>by
        rw [cf_append,cf_cons,cf_nil]
        dsimp only
        by_cases hk:((d'').getD (i).toNat default).atoms=k
        · subst hk
          rw [if_pos rfl,cf_zero (fun m hm=>(g1 m hm).ne),k6];omega
        · rw [if_neg hk,k7 k (fun e=>hk e.symm),h6 k];omega
      refine⟨by omega,by omega,⟨?_,?_⟩,?_,co,?_,fun hj=>⟨?_,?_⟩⟩
      · rw [List.pairwise_append]
        exact⟨h4.ss,List.pairwise_singleton _ _,fun a ha b hb=>by rw [List.mem_singleton]at hb;subst hb;exact g1 a ha⟩
      · intro m hm
        rw [List.mem_append,List.mem_singleton]at hm
        rcases hm with hm | rfl
        · exact h4.co m hm
        · dsimp only;omega
      · simp only [List.length_append,List.length_cons,List.length_nil];omega
      · intro m hm _
        rw [List.mem_append,List.mem_singleton]at hm
        rcases hm with hm | rfl
        · exact h7 m hm hm
        · exact hs.at _
      · intro m hm
        rw [List.mem_append,List.mem_singleton]at hm
        rcases hm with hm | rfl
        · exact lt_of_le_lt (le_of_lt (g1 m hm)) (hb hj)
        · exact hb hj
      · intro m hm
        rcases k8 m hm with k | k
        · exact lt_of_le_lt (le_of_lt k) (hb hj)
        · have:=hb hj;unfold lt at this ⊢;rw [k];exact this
    · omega
    · refine⟨by omega,by omega,h4,by omega,fun k=> ?_,h7,fun hj=>⟨?_,?_⟩⟩
      · by_cases hk:((d'').getD (i).toNat default).atoms=k
        · subst hk
          rw [cf_zero (fun m hm=>(g1 m hm).ne)];omega
        · rw [k7 k (fun e=>hk e.symm),h6 k]
      · intro m hm
        exact lt_of_le_lt (le_of_lt (g1 m hm)) (hb hj)
      · intro m hm
        rcases k8 m hm with k | k
        · exact lt_of_le_lt (le_of_lt k) (hb hj)
        · have:=hb hj;unfold lt at this ⊢;rw [k];exact this
    · omega
  · have e:nf l=o:=nf_eq h4 (fun k=>by rw [h6 k,List.take_of_length_le (by omega),s1.cf k])
    unfold sumF
    rw [e]
    refine⟨fun h=> ?_,fun h=> ?_⟩
    · rw [h];exact⟨rfl,by simp⟩
    · rw [h];exact⟨rfl,by simp⟩
end Go.TX.F
namespace Go.TX.F
open Go Go.AE Go.TX
theorem w_k57 (n:Int) (h1:0≤n) (h2:n≤1073741824):F_k57 (std 0) (n,()) (fun y=>y=([],())):=by
  dsimp only [F_k57]
  simp (disch:=omega) only [RR]
  refine⟨fun h=>by omega,fun _ h=>⟨by omega,by omega,by rw [List.length_replicate];omega,by omega,by omega,by omega,by omega,by omega,?_⟩⟩
  rfl
theorem w_k53 {p:Int×Unit→Bool} {f:Int×Unit→List Mono×Unit} (hp:∀n:Int,0≤n→n≤1073741824→p (n,())=true) (hf:∀n:Int,0≤n→n≤1073741824→f (n,())=([],()))
    (a b:List Mono) (ha:a.length≤100000000) (hb:b.length≤100000000):F_k53 (std 0) p f ([a,b],()) (fun y=>y=(a++b,())):=by
  dsimp only [F_k53]
  refine loop_intro (fun(y:List (List Mono)×Int×List (List Mono)×Int×Int×Unit)=>y.1=[a,b]∧y.2.2.1=[a,b]∧y.2.2.2.1=2∧((y.2.2.2.2.1=0∧y.2.1=0)∨(y.2.2.2.2.1=1∧y.2.1=a.length)∨(y.2.2.2.2.1=2∧y.2.1=a.length+b.length))) (fun y=>(2-y.2.2.2.2.1).toNat)
    ⟨rfl,rfl,rfl,Or.inl ⟨rfl,rfl⟩⟩ ?_
  rintro⟨(l:List (List Mono)),(s:Int),(l2:List (List Mono)),(n:Int),(i:Int),⟨⟩⟩ hI
  dsimp only at hI ⊢
  obtain⟨rfl,rfl,rfl,h⟩:=hI
  simp (disch:=omega) only [RR]
  have g0: [a,b].getD (Int.toNat 0) default=a:=rfl
  have g1: [a,b].getD (Int.toNat 1) default=b:=rfl
  have gl:([a,b].length:Int)=2:=rfl
  refine⟨fun hi=> ?_,fun hi=> ?_⟩
  · rcases h with⟨rfl,rfl⟩ | ⟨rfl,rfl⟩ | ⟨rfl,rfl⟩
    · rw [g0,w64 (by omega) (by omega)]
      exact⟨by omega,by omega,fun h=>by omega,fun h=>⟨Or.inr (Or.inl ⟨by omega,by omega⟩),by omega⟩⟩
    · rw [g1,w64 (by omega) (by omega)]
      exact⟨by omega,by omega,fun h=>by omega,fun h=>⟨Or.inr (Or.inr ⟨by omega,by omega⟩),by omega⟩⟩
    · omega
  · have hs:0≤s∧s≤200000000:=by omega
    refine⟨hp s (by omega) (by omega),?_⟩
    rw [hf s (by omega) (by omega)]
    refine loop_intro (fun(y:List (List Mono)×Int×Int×List Mono×Unit)=>y.1=[a,b]∧y.2.1=2∧((y.2.2.1=0∧y.2.2.2.1=[])∨(y.2.2.1=1∧y.2.2.2.1=a)∨(y.2.2.1=2∧y.2.2.2.1=a++b))) (fun y=>(2-y.2.2.1).toNat)
      ⟨rfl,rfl,Or.inl ⟨rfl,rfl⟩⟩ ?_
    rintro⟨(l:List (List Mono)),(n:Int),(j:Int),(o:List Mono),⟨⟩⟩ hI
    dsimp only at hI ⊢
    obtain⟨rfl,rfl,h3⟩:=hI
    simp (disch:=omega) only [RR]
    refine⟨fun hj=> ?_,fun hj=> ?_⟩
    · rcases h3 with⟨rfl,rfl⟩ | ⟨rfl,rfl⟩ | ⟨rfl,rfl⟩
      · rw [g0]
        exact⟨by omega,by omega,by simp only [List.length_nil];omega,Or.inr (Or.inl ⟨by omega,rfl⟩),by omega⟩
      · rw [g1]
        exact⟨by omega,by omega,by omega,Or.inr (Or.inr ⟨by omega,rfl⟩),by omega⟩
      · omega
    · rcases h3 with⟨rfl,rfl⟩ | ⟨rfl,rfl⟩ | ⟨rfl,rfl⟩
      · omega
      · omega
      · rfl
theorem w_k58 (n:Int) (h1:0≤n) (h2:n≤1073741824):F_k58 (std 0) (n,()) (fun y=>y=([],())):=by
  dsimp only [F_k58]
  simp (disch:=omega) only [RR]
  refine⟨fun h=>by omega,fun _ h=>⟨by omega,by omega,by rw [List.length_replicate];omega,by omega,by omega,by omega,by omega,by omega,?_⟩⟩
  rfl
theorem w_k54 {p:Int×Unit→Bool} {f:Int×Unit→List Int×Unit} (hp:∀n:Int,0≤n→n≤1073741824→p (n,())=true) (hf:∀n:Int,0≤n→n≤1073741824→f (n,())=([],()))
    (a b:List Int) (ha:a.length≤100000000) (hb:b.length≤100000000):F_k54 (std 0) p f ([a,b],()) (fun y=>y=(a++b,())):=by
  dsimp only [F_k54]
  refine loop_intro (fun(y:List (List Int)×Int×List (List Int)×Int×Int×Unit)=>y.1=[a,b]∧y.2.2.1=[a,b]∧y.2.2.2.1=2∧((y.2.2.2.2.1=0∧y.2.1=0)∨(y.2.2.2.2.1=1∧y.2.1=a.length)∨(y.2.2.2.2.1=2∧y.2.1=a.length+b.length))) (fun y=>(2-y.2.2.2.2.1).toNat)
    ⟨rfl,rfl,rfl,Or.inl ⟨rfl,rfl⟩⟩ ?_
  rintro⟨(l:List (List Int)),(s:Int),(l2:List (List Int)),(n:Int),(i:Int),⟨⟩⟩ hI
  dsimp only at hI ⊢
  obtain⟨rfl,rfl,rfl,h⟩:=hI
  simp (disch:=omega) only [RR]
  have g0: [a,b].getD (Int.toNat 0) default=a:=rfl
  have g1: [a,b].getD (Int.toNat 1) default=b:=rfl
  have gl:([a,b].length:Int)=2:=rfl
  refine⟨fun hi=> ?_,fun hi=> ?_⟩
  · rcases h with⟨rfl,rfl⟩ | ⟨rfl,rfl⟩ | ⟨rfl,rfl⟩
    · rw [g0,w64 (by omega) (by omega)]
      exact⟨by omega,by omega,fun h=>by omega,fun h=>⟨Or.inr (Or.inl ⟨by omega,by omega⟩),by omega⟩⟩
    · rw [g1,w64 (by omega) (by omega)]
      exact⟨by omega,by omega,fun h=>by omega,fun h=>⟨Or.inr (Or.inr ⟨by omega,by omega⟩),by omega⟩⟩
    · omega
  · have hs:0≤s∧s≤200000000:=by omega
    refine⟨hp s (by omega) (by omega),?_⟩
    rw [hf s (by omega) (by omega)]
    refine loop_intro (fun(y:List (List Int)×Int×Int×List Int×Unit)=>y.1=[a,b]∧y.2.1=2∧((y.2.2.1=0∧y.2.2.2.1=[])∨(y.2.2.1=1∧y.2.2.2.1=a)∨(y.2.2.1=2∧y.2.2.2.1=a++b))) (fun y=>(2-y.2.2.1).toNat)
      ⟨rfl,rfl,Or.inl ⟨rfl,rfl⟩⟩ ?_
    rintro⟨(l:List (List Int)),(n:Int),(j:Int),(o:List Int),⟨⟩⟩ hI
    dsimp only at hI ⊢
    obtain⟨rfl,rfl,h3⟩:=hI
    simp (disch:=omega) only [RR]
    refine⟨fun hj=> ?_,fun hj=> ?_⟩
    · rcases h3 with⟨rfl,rfl⟩ | ⟨rfl,rfl⟩ | ⟨rfl,rfl⟩
      · rw [g0]
        exact⟨by omega,by omega,by simp only [List.length_nil];omega,Or.inr (Or.inl ⟨by omega,rfl⟩),by omega⟩
      · rw [g1]
        exact⟨by omega,by omega,by omega,Or.inr (Or.inr ⟨by omega,rfl⟩),by omega⟩
      · omega
    · rcases h3 with⟨rfl,rfl⟩ | ⟨rfl,rfl⟩ | ⟨rfl,rfl⟩
      · omega
      · omega
      · rfl
theorem mOk.le {m:Mono} (h:mOk m):m.atoms.length≤4:=h.2.1
theorem PolOK.at {p:List Mono} (h:PolOK p) {m:Mono} (hm:m∈p):mOk m:=by
  obtain⟨i,hi,rfl⟩:=List.getElem_of_mem hm
  have:=(h.1 i (by omega) (by omega)).1
  rw [show(i:Int).toNat=i from rfl,getD_lt hi]at this;exact this
theorem PolOK.len {p:List Mono} (h:PolOK p):p.length≤12:=h.2.1
noncomputable def addF (a b:List Mono):Bool×List Mono:=if bp (PolOK a)&&bp (PolOK b)then sumF (a++b)else(false,[])
theorem w_k4 {p1:List Mono×Unit→Bool} {f1:List Mono×Unit→Bool×Unit} (hp1:∀a,Sh a→p1 (a,())=true) (hf1:∀a,Sh a→f1 (a,())=(bp (PolOK a),()))
    {p2:List Mono×Unit→Bool} {f2:List Mono×Unit→Bool×List Mono×List Mono×Unit} (hp2:∀a,Sh a→Cb a→p2 (a,())=true) (hf2:∀a,Sh a→Cb a→(f2 (a,())).1=(sumF a).1∧(f2 (a,())).2.2.1=(sumF a).2)
    {p3:List (List Mono)×Unit→Bool} {f3:List (List Mono)×Unit→List Mono×Unit} (hp3:∀a b:List Mono,a.length≤100000000→b.length≤100000000→p3 ([a,b],())=true) (hf3:∀a b:List Mono,a.length≤100000000→b.length≤100000000→f3 ([a,b],())=(a++b,()))
    (a b:List Mono) (ha:Sh a) (hb:Sh b):F_k4 (std 0) p1 f1 p2 f2 p3 f3 (a,b,()) (fun y=>y=((addF a b).1,(addF a b).2,())):=by
  dsimp only [F_k4]
  simp (disch:=omega) only [RR,hp1 a ha,hf1 a ha,hp1 b hb,hf1 b hb,bp_eq,bp_ne]
  unfold addF
  refine⟨fun h=> ?_,fun⟨h1,h2⟩=> ?_⟩
  · rw [if_neg]
    rw [Bool.and_eq_true,bp_eq,bp_eq];rintro⟨g1,g2⟩
    rcases h with h | h
    · exact h g1
    · exact h g2
  · have l1:=h1.len
    have l2:=h2.len
    rw [hp3 a b (by omega) (by omega),hf3 a b (by omega) (by omega)]
    have hs:Sh (a++b):=⟨by rw [List.length_append];omega,fun m hm=>by
      rw [List.mem_append]at hm
      rcases hm with hm | hm
      · exact ha.2 m hm
      · exact hb.2 m hm⟩
    have hc:Cb (a++b):=fun m hm=>by
      rw [List.mem_append]at hm
      rcases hm with hm | hm
      · have:=(h1.at hm).1;omega
      · have:=(h2.at hm).1;omega
    obtain⟨g1,g2⟩:=hf2 _ hs hc
    refine⟨rfl,hp2 _ hs hc,?_⟩
    rw [if_pos (by rw [bp_t h1,bp_t h2];rfl),g1,g2]
def sortI (l:List Int):List Int:=l.mergeSort fun x y=>decide (x≤y)
theorem sortI_len (l:List Int):(sortI l).length=l.length:=List.length_mergeSort l
def mulM (m n:Mono):Mono:=⟨m.coef*n.coef%65536,sortI (m.atoms++n.atoms)⟩
def prods (a b:List Mono):List Mono:=a.flatMap fun m=>b.map (mulM m)
theorem prods_snoc (a b:List Mono) (m:Mono):prods (a++ [m]) b=prods a b++b.map (mulM m):=by simp [prods]
noncomputable def mulF (a b:List Mono):Bool×List Mono:=if bp (PolOK a)&&bp (PolOK b)then sumF (prods a b)else(false,[])
theorem mul_rng {a b:Int} (h1:0≤a) (h2:a≤65535) (h3:0≤b) (h4:b≤65535):0≤a*b∧a*b≤65535*65535:=⟨Int.mul_nonneg h1 h3,Int.mul_le_mul h2 h4 h3 (by omega)⟩
theorem w_k8 {p1:List Mono×Unit→Bool} {f1:List Mono×Unit→Bool×Unit} (hp1:∀a,Sh a→p1 (a,())=true) (hf1:∀a,Sh a→f1 (a,())=(bp (PolOK a),()))
    {p0:Int×Unit→Bool} {f0:Int×Unit→Int×Unit} (hp0:∀a,p0 (a,())=true) (hf0:∀a,f0 (a,())=(a%65536,()))
    {p2:List Mono×Unit→Bool} {f2:List Mono×Unit→Bool×List Mono×List Mono×Unit} (hp2:∀a,Sh a→Cb a→p2 (a,())=true) (hf2:∀a,Sh a→Cb a→(f2 (a,())).1=(sumF a).1∧(f2 (a,())).2.2.1=(sumF a).2)
    {p3:List (List Int)×Unit→Bool} {f3:List (List Int)×Unit→List Int×Unit} (hp3:∀a b:List Int,a.length≤100000000→b.length≤100000000→p3 ([a,b],())=true) (hf3:∀a b:List Int,a.length≤100000000→b.length≤100000000→f3 ([a,b],())=(a++b,()))
    {p4:List Int×Unit→Bool} {f4:List Int×Unit→List Int×Unit} (hp4:∀a:List Int,a.length≤8→p4 (a,())=true) (hf4:∀a:List Int,a.length≤8→f4 (a,())=(sortI a,()))
    (a b:List Mono) (ha:Sh a) (hb:Sh b):F_k8 (std 0) p1 f1 p0 f0 p2 f2 p3 f3 p4 f4 (a,b,()) (fun y=>y=((mulF a b).1,(mulF a b).2,())):=by
  dsimp only [F_k8]
  simp (disch:=omega) only [RR,hp1 a ha,hf1 a ha,hp1 b hb,hf1 b hb,bp_eq,bp_ne]
  unfold mulF
  refine⟨fun h=> ?_,fun⟨h1,h2⟩=> ?_⟩
  · rw [if_neg]
    rw [Bool.and_eq_true,bp_eq,bp_eq];rintro⟨g1,g2⟩
    rcases h with h | h
    · exact h g1
    · exact h g2
  have l1:=h1.len
  have l2:=h2.len
  rw [if_pos (by rw [bp_t h1,bp_t h2];rfl)]
  have mm:∀i j:Int,0≤i→i<a.length→0≤j→j<b.length→mOk ((a).getD (i).toNat default)∧mOk ((b).getD (j).toNat default):=fun i j i1 i2 j1 j2=>⟨h1.at (getD_mem i1 i2),h2.at (getD_mem j1 j2)⟩
  refine loop_intro (fun(y:List Mono×Int×Int×List Mono×List Mono×Unit)=>y.1=a∧y.2.1=a.length∧0≤y.2.2.1∧y.2.2.1≤a.length∧y.2.2.2.1=b∧y.2.2.2.2.1=prods (a.take y.2.2.1.toNat) b∧y.2.2.2.2.1.length≤12*y.2.2.1∧Sh y.2.2.2.2.1∧Cb y.2.2.2.2.1) (fun y=>(a.length-y.2.2.1).toNat)
    ⟨rfl,rfl,by simp,by simp,rfl,rfl,by simp,⟨by simp,fun m hm=>absurd hm (by simp)⟩,fun m hm=>absurd hm (by simp)⟩ ?_
  rintro⟨(a':List Mono),(n:Int),(i:Int),(b':List Mono),(o:List Mono),⟨⟩⟩ hI
  dsimp only at hI ⊢
  obtain⟨rfl,rfl,h3,h4,rfl,h5,h6,h7,h8⟩:=hI
  simp (disch:=omega) only [RR]
  refine⟨fun h9=>⟨by omega,by omega,?_⟩,fun h9=> ?_⟩
  · refine loop_intro (fun(y:List Mono×Int×Int×List Mono×Int×Int×List Mono×List Mono×Mono×Unit)=>y.1=a'∧y.2.1=a'.length∧y.2.2.1=i∧y.2.2.2.1=b'∧y.2.2.2.2.1=b'.length∧0≤y.2.2.2.2.2.1∧y.2.2.2.2.2.1≤b'.length∧y.2.2.2.2.2.2.1=b'∧y.2.2.2.2.2.2.2.2.1=((a').getD (i).toNat default)
        ∧y.2.2.2.2.2.2.2.1=o++(b'.take y.2.2.2.2.2.1.toNat).map (mulM ((a').getD (i).toNat default))∧Sh y.2.2.2.2.2.2.2.1∧Cb y.2.2.2.2.2.2.2.1) (fun y=>(b'.length-y.2.2.2.2.2.1).toNat)
      ⟨rfl,rfl,rfl,rfl,rfl,by simp,by simp,rfl,rfl,by simp,h7,h8⟩ ?_
    rintro⟨(a'':List Mono),(n:Int),(i':Int),(b'':List Mono),(nb:Int),(j:Int),(b3:List Mono),(o':List Mono),(m:Mono),⟨⟩⟩ hI
    dsimp only at hI ⊢
    obtain⟨rfl,rfl,rfl,rfl,rfl,k1,k2,rfl,rfl,k3,k4,k5⟩:=hI
    have lo:(o'.length:Int)≤12*i'+j:=by
      rw [k3,List.length_append,List.length_map];have:=List.length_take_le j.toNat b3;omega
    by_cases hj:j<b3.length
    · obtain⟨m1,m2⟩:=mm i' j h3 h9 k1 hj
      have e1:=m1.le
      have e2:=m2.le
      have la:(((a'').getD (i').toNat default).atoms++((b3).getD (j).toNat default).atoms).length≤8:=by rw [List.length_append];omega
      have hm:=mul_rng (show 0≤((a'').getD (i').toNat default).coef by have:=m1.1;omega) (by have:=m1.1;omega) (show 0≤((b3).getD (j).toNat default).coef by have:=m2.1;omega) (by have:=m2.1;omega)
      simp (disch:=omega) only [RR,hp3 ((a'').getD (i').toNat default).atoms ((b3).getD (j).toNat default).atoms (by omega) (by omega),hf3 ((a'').getD (i').toNat default).atoms ((b3).getD (j).toNat default).atoms (by omega) (by omega),hp4 _ la,hf4 _ la,hp0,hf0]
      refine⟨fun _=>⟨by omega,by omega,by simp only [List.length_cons,List.length_nil];omega,⟨by omega,by omega,?_,⟨?_,?_⟩,?_⟩,by omega⟩,fun h=>by omega⟩
      · rw [←take_snoc (d:=default) k1 hj rfl,List.map_append,k3,List.append_assoc];rfl
      · rw [List.length_append];simp only [List.length_cons,List.length_nil];omega
      · intro m hm
        rw [List.mem_append,List.mem_singleton]at hm
        rcases hm with hm | rfl
        · exact k4.2 m hm
        · dsimp only;rw [sortI_len];omega
      · intro m hm
        rw [List.mem_append,List.mem_singleton]at hm
        rcases hm with hm | rfl
        · exact k5 m hm
        · dsimp only;omega
    · simp (disch:=omega) only [RR]
      refine⟨fun h=>absurd h hj,fun _=>⟨⟨by omega,by omega,?_,by omega,k4,k5⟩,by omega⟩⟩
      rw [←take_snoc (d:=default) h3 h9 rfl,prods_snoc,←h5,k3,List.take_of_length_le (by omega)]
  · obtain⟨g1,g2⟩:=hf2 _ h7 h8
    refine⟨hp2 _ h7 h8,?_⟩
    rw [g1,g2,h5,List.take_of_length_le (by omega)]
noncomputable def scaleF (a:List Mono) (n:Int):List Mono:=if bp (PolOK a)&&inB n 0 65535 then(mulF a (pConst n)).2 else []
theorem pConst_sh (n:Int):Sh (pConst n):=by
  unfold pConst;split
  · exact⟨by simp,fun m hm=>by rw [List.mem_singleton]at hm;subst hm;simp⟩
  · exact⟨by simp,fun m hm=>absurd hm (by simp)⟩
theorem w_k13 {p1:List Mono×Unit→Bool} {f1:List Mono×Unit→Bool×Unit} (hp1:∀a,Sh a→p1 (a,())=true) (hf1:∀a,Sh a→f1 (a,())=(bp (PolOK a),()))
    {p2:Int×Unit→Bool} {f2:Int×Unit→List Mono×Unit} (hp2:∀n,p2 (n,())=true) (hf2:∀n,f2 (n,())=(pConst n,()))
    {p3:Int×Unit→Bool} {f3:Int×Unit→Bool×Unit} (hp3:∀a,p3 (a,())=true) (hf3:∀a,f3 (a,())=(inB a 0 65535,()))
    {p4:List Mono×List Mono×Unit→Bool} {f4:List Mono×List Mono×Unit→Bool×List Mono×Unit} (hp4:∀a b,Sh a→Sh b→p4 (a,b,())=true) (hf4:∀a b,Sh a→Sh b→f4 (a,b,())=((mulF a b).1,(mulF a b).2,()))
    (a:List Mono) (n:Int) (ha:Sh a):F_k13 (std 0) p1 f1 p2 f2 p3 f3 p4 f4 (a,n,()) (fun y=>y=(scaleF a n,())):=by
  dsimp only [F_k13]
  simp (disch:=omega) only [RR,hp1 a ha,hf1 a ha,hp2,hf2,hp3,hf3,hp4 a _ ha (pConst_sh n),hf4 a _ ha (pConst_sh n)]
  unfold scaleF
  refine⟨fun h=> ?_,fun⟨h1,h2⟩=> ?_⟩
  · rw [if_neg];rw [Bool.and_eq_true];rintro⟨g1,g2⟩
    rcases h with h | h
    · rw [g1]at h;cases h
    · rw [g2]at h;cases h
  · rw [h1,h2];rfl
end Go.TX.F
namespace Go.TX.F
open Go Go.AE Go.TX
noncomputable def bitF (op:Int) (x y:List Mono):List Mono×Bool:=
  if(pNum x).2&& (pNum y).2 then(pConst (wdo op (pNum x).1 (pNum y).1),true)
  else if pOrd x y=0∧op=4 then(x,true)
  else if pOrd x y=0 then([],true)
  else if(pNum x).2 then
    (if op=4∧(pNum x).1=0 then([],true)else if(op=4∧(pNum x).1=65535)∨(op=5∧(pNum x).1=0)then(y,true)else([],false))
  else if(pNum y).2 then
    (if op=4∧(pNum y).1=0 then([],true)else if(op=4∧(pNum y).1=65535)∨(op=5∧(pNum y).1=0)then(x,true)else([],false))
  else([],false)
noncomputable def simpF (op:Int) (x y:List Mono):List Mono×Bool:=
  if op=1 then((addF x y).2,(addF x y).1)else if op=2 then((addF x (scaleF y 65535)).2,(addF x (scaleF y 65535)).1)else if op=3 then((mulF x y).2,(mulF x y).1)else bitF op x y
theorem PolOK.sh {l:List Mono}:PolOK l→Sh l:=fun h=>⟨by have:=h.len;omega,fun m hm=>by have:=(h.at hm).le;omega⟩
theorem sumF_sh (l:List Mono):Sh (sumF l).2:=by
  unfold sumF
  by_cases h:PolOK (nf l)
  · rw [bp_t h];exact h.sh
  · rw [bp_f h];exact⟨by simp,fun m hm=>absurd hm (by simp)⟩
theorem nil_sh:Sh []:=⟨by simp,fun m hm=>absurd hm (by simp)⟩
theorem mulF_sh (a b:List Mono):Sh (mulF a b).2:=by unfold mulF;split;exact sumF_sh _;exact nil_sh
theorem addF_sh (a b:List Mono):Sh (addF a b).2:=by unfold addF;split;exact sumF_sh _;exact nil_sh
theorem scaleF_sh (a:List Mono) (n:Int):Sh (scaleF a n):=by unfold scaleF;split;exact mulF_sh _ _;exact nil_sh
theorem w_k37 {p1:List Mono×List Mono×Unit→Bool} {f1:List Mono×List Mono×Unit→Bool×Unit} (hp1:∀a b,Sh a→p1 (a,b,())=true) (hf1:∀a b,Sh a→f1 (a,b,())=(decide (pOrd a b=0),()))
    {p2:Int×Unit→Bool} {f2:Int×Unit→List Mono×Unit} (hp2:∀n,p2 (n,())=true) (hf2:∀n,f2 (n,())=(pConst n,()))
    {p3:Int×Int×Int×Unit→Bool} {f3:Int×Int×Int×Unit→Int×Unit} (hp3:∀op a b,p3 (op,a,b,())=true) (hf3:∀op a b,f3 (op,a,b,())=(wdo op a b,()))
    {p4:List Mono×List Mono×Unit→Bool} {f4:List Mono×List Mono×Unit→Bool×List Mono×Unit} (hp4:∀a b,Sh a→Sh b→p4 (a,b,())=true) (hf4:∀a b,Sh a→Sh b→f4 (a,b,())=((addF a b).1,(addF a b).2,()))
    {p5:List Mono×List Mono×Unit→Bool} {f5:List Mono×List Mono×Unit→Bool×List Mono×Unit} (hp5:∀a b,Sh a→Sh b→p5 (a,b,())=true) (hf5:∀a b,Sh a→Sh b→f5 (a,b,())=((mulF a b).1,(mulF a b).2,()))
    {p6:List Mono×Int×Unit→Bool} {f6:List Mono×Int×Unit→List Mono×Unit} (hp6:∀a n,Sh a→p6 (a,n,())=true) (hf6:∀a n,Sh a→f6 (a,n,())=(scaleF a n,()))
    {p7:List Mono×Unit→Bool} {f7:List Mono×Unit→Int×Bool×Unit} (hp7:∀a,Sh a→p7 (a,())=true) (hf7:∀a,Sh a→f7 (a,())=((pNum a).1,(pNum a).2,()))
    (op:Int) (x y:List Mono) (hx:Sh x) (hy:Sh y):F_k37 (std 0) p1 f1 p2 f2 p3 f3 p4 f4 p5 f5 p6 f6 p7 f7 (op,x,y,()) (fun z=>z=((simpF op x y).1,(simpF op x y).2,())):=by
  dsimp only [F_k37]
  simp (disch:=omega) only [RR,hp1 x y hx,hf1 x y hx,hp2,hf2,hp3,hf3,hp4 x y hx hy,hf4 x y hx hy,hp4 x _ hx (scaleF_sh y 65535),hf4 x _ hx (scaleF_sh y 65535),hp5 x y hx hy,hf5 x y hx hy,hp6 y _ hy,hf6 y _ hy,hp7 x hx,hf7 x hx,hp7 y hy,hf7 y hy]
  unfold simpF
  refine⟨fun h=>by rw [if_pos h],fun h=>⟨fun h1=>by rw [if_neg h,if_pos h1],fun h1=>⟨fun h2=>by rw [if_neg h,if_neg h1,if_pos h2],fun h2=> ?_⟩⟩⟩
  rw [if_neg h,if_neg h1,if_neg h2]
  unfold bitF
  generalize pNum x=nx
  generalize pNum y=ny
  obtain⟨n,bn⟩:=nx
  obtain⟨m,bm⟩:=ny
  dsimp only
  by_cases e:pOrd x y=0<;>by_cases o4:op=4<;>cases bn<;>cases bm<;>simp [e,o4]
  · by_cases c:m=0<;>by_cases c2:m=65535<;>simp [c,c2]
  · by_cases c:n=0<;>by_cases c2:n=65535<;>simp [c,c2]
  · by_cases c:op=5<;>by_cases c2:m=0<;>simp [c,c2]
  · by_cases c:op=5<;>by_cases c2:n=0<;>simp [c,c2]
noncomputable def tDo (t:List Atom) (op:Int) (x y:List Mono):List Atom×List Mono:=
  if(simpF op x y).2 then(t,(simpF op x y).1)else
  if op≠2∧0<pOrd x y then(if(tPut t ⟨4,op,y,x⟩).2<0 then([],[])else((tPut t ⟨4,op,y,x⟩).1,pAtom (tPut t ⟨4,op,y,x⟩).2))
  else(if(tPut t ⟨4,op,x,y⟩).2<0 then([],[])else((tPut t ⟨4,op,x,y⟩).1,pAtom (tPut t ⟨4,op,x,y⟩).2))
theorem w_k21 {p1:List Mono×List Mono×Unit→Bool} {f1:List Mono×List Mono×Unit→Int×Unit} (hp1:∀a b,Sh a→p1 (a,b,())=true) (hf1:∀a b,Sh a→f1 (a,b,())=(pOrd a b,()))
    {p2:Int×List Mono×List Mono×Unit→Bool} {f2:Int×List Mono×List Mono×Unit→List Mono×Bool×Unit} (hp2:∀op x y,Sh x→Sh y→p2 (op,x,y,())=true) (hf2:∀op x y,Sh x→Sh y→f2 (op,x,y,())=((simpF op x y).1,(simpF op x y).2,()))
    {p3:List Atom×Atom×Unit→Bool} {f3:List Atom×Atom×Unit→List Atom×Int×Unit} (hp3:∀t a,t.length<1000000000→ShA a→p3 (t,a,())=true) (hf3:∀t a,t.length<1000000000→ShA a→f3 (t,a,())=((tPut t a).1,(tPut t a).2,()))
    {p4:Int×Unit→Bool} {f4:Int×Unit→List Mono×Unit} (hp4:∀n,p4 (n,())=true) (hf4:∀n,f4 (n,())=(pAtom n,()))
    (t:List Atom) (op:Int) (x y:List Mono) (ht:t.length<1000000000) (hx:Sh x) (hy:Sh y):F_k21 (std 0) p1 f1 p2 f2 p3 f3 p4 f4 (t,op,x,y,()) (fun z=>z.1=(tDo t op x y).1∧z.2.1=(tDo t op x y).2):=by
  have s1:ShA ⟨4,op,x,y⟩:=⟨hx,hy⟩
  have s2:ShA ⟨4,op,y,x⟩:=⟨hy,hx⟩
  dsimp only [F_k21]
  simp (disch:=omega) only [RR,hp1 x y hx,hf1 x y hx,hp2 op x y hx hy,hf2 op x y hx hy,hp3 t _ ht s1,hf3 t _ ht s1,hp3 t _ ht s2,hf3 t _ ht s2,hp4,hf4]
  unfold tDo
  refine⟨fun h=>by rw [if_pos h];exact⟨rfl,rfl⟩,fun h=> ?_⟩
  rw [if_neg (by rw [h];simp)]
  generalize tPut t ⟨4,op,y,x⟩=r1
  generalize tPut t ⟨4,op,x,y⟩=r2
  generalize pOrd x y=o
  by_cases c1:op=2<;>by_cases c2:0<o<;>by_cases c3:r1.2<0<;>by_cases c4:r2.2<0<;>simp [c1,c2,c3,c4]
noncomputable def tabDo (t:List Atom) (op:Int) (x y:List Mono):List Atom×List Mono:=
  @ite _ (TabOK t∧(1≤op∧op≤5)∧PolOK x∧PolOK y∧pUnder x t.length∧pUnder y t.length) (Classical.propDecidable _) (tDo t op x y) ([],[])
theorem pAtom_sh (n:Int):Sh (pAtom n):=by
  unfold pAtom;split
  · exact⟨by simp,fun m hm=>by rw [List.mem_singleton]at hm;subst hm;simp⟩
  · exact nil_sh
theorem simpF_sh (op:Int) (x y:List Mono) (hx:Sh x) (hy:Sh y):Sh (simpF op x y).1:=by
  unfold simpF
  split; · exact addF_sh _ _
  split; · exact addF_sh _ _
  split; · exact mulF_sh _ _
  unfold bitF
  repeat' split
  all_goals first | exact hx | exact hy | exact nil_sh | exact pConst_sh _
theorem tPut_sh {t:List Atom} {a:Atom} (ht:ShT t) (h:t.length≤200) (ha:ShA a):ShT (tPut t a).1:=by
  unfold tPut
  split; · exact ht
  split; · exact ht
  refine⟨by simp;omega,fun m hm=> ?_⟩
  rw [List.mem_append,List.mem_singleton]at hm
  rcases hm with hm | rfl
  · exact ht.2 m hm
  · exact ha
theorem nil_shT:ShT []:=⟨by simp,fun m hm=>absurd hm (by simp)⟩
theorem tDo_sh {t:List Atom} {op:Int} {x y:List Mono} (ht:ShT t) (h:t.length≤200) (hx:Sh x) (hy:Sh y):ShT (tDo t op x y).1∧Sh (tDo t op x y).2:=by
  unfold tDo
  split; · exact⟨ht,simpF_sh _ _ _ hx hy⟩
  repeat' split
  all_goals first | exact⟨nil_shT,nil_sh⟩ | exact⟨tPut_sh ht h ⟨hx,hy⟩,pAtom_sh _⟩ | exact⟨tPut_sh ht h ⟨hy,hx⟩,pAtom_sh _⟩
theorem tabDo_sh {t:List Atom} {op:Int} {x y:List Mono} (ht:ShT t) (hx:Sh x) (hy:Sh y):ShT (tabDo t op x y).1∧Sh (tabDo t op x y).2:=by
  unfold tabDo
  split
  · rename_i h;exact tDo_sh ht h.1.2 hx hy
  · exact⟨nil_shT,nil_sh⟩
theorem w_k18 {p1:Int×Unit→Bool} {f1:Int×Unit→Bool×Unit} (hp1:∀a,p1 (a,())=true) (hf1:∀a,f1 (a,())=(inB a 1 5,()))
    {p2:List Mono×Int×Unit→Bool} {f2:List Mono×Int×Unit→Bool×Unit} (hp2:∀a n,Sh a→p2 (a,n,())=true) (hf2:∀a n,Sh a→f2 (a,n,())=(bp (pUnder a n),()))
    {p3:List Mono×Unit→Bool} {f3:List Mono×Unit→Bool×Unit} (hp3:∀a,Sh a→p3 (a,())=true) (hf3:∀a,Sh a→f3 (a,())=(bp (PolOK a),()))
    {p4:List Atom×Unit→Bool} {f4:List Atom×Unit→Bool×Unit} (hp4:∀a,ShT a→p4 (a,())=true) (hf4:∀a,ShT a→f4 (a,())=(bp (TabOK a),()))
    {p5:List Atom×Int×List Mono×List Mono×Unit→Bool} {f5:List Atom×Int×List Mono×List Mono×Unit→List Atom×List Mono×Bool×Unit} (hp5:∀(t:List Atom) op x y,t.length<1000000000→Sh x→Sh y→p5 (t,op,x,y,())=true) (hf5:∀(t:List Atom) op x y,t.length<1000000000→Sh x→Sh y→(f5 (t,op,x,y,())).1=(tDo t op x y).1∧(f5 (t,op,x,y,())).2.1=(tDo t op x y).2)
    {p6:List Mono×Unit→Bool} {f6:List Mono×Unit→List Mono×Unit} (hp6:∀a,Sh a→p6 (a,())=true) (hf6:∀a,Sh a→f6 (a,())=(a,()))
    {p7:List Atom×Unit→Bool} {f7:List Atom×Unit→List Atom×Unit} (hp7:∀a,ShT a→p7 (a,())=true) (hf7:∀a,ShT a→f7 (a,())=(a,()))
    (t:List Atom) (op:Int) (x y:List Mono) (ht:ShT t) (hx:Sh x) (hy:Sh y):F_k18 (std 0) p1 f1 p2 f2 p3 f3 p4 f4 p5 f5 p6 f6 p7 f7 (t,op,x,y,()) (fun z=>z=((tabDo t op x y).1,(tabDo t op x y).2,())):=by
  obtain⟨g1,g2⟩:=hf5 t op x y ht.1 hx hy
  dsimp only [F_k18]
  simp (disch:=omega) only [RR,hp1,hf1,hp2 x _ hx,hf2 x _ hx,hp2 y _ hy,hf2 y _ hy,hp3 x hx,hf3 x hx,hp3 y hy,hf3 y hy,hp4 t ht,hf4 t ht,hp5 t op x y ht.1 hx hy,g1,g2,bp_eq,bp_ne,inB_t,inB_f]
  unfold tabDo
  refine⟨fun h=> ?_,fun h=> ?_⟩
  · rw [if_neg]
    rintro⟨a1,a2,a3,a4,a5,a6⟩
    rcases h with((((h | h) | h) | h) | h) | h
    · exact h a1
    · exact h a2
    · exact h a3
    · exact h a4
    · exact h a5
    · exact h a6
  · obtain⟨⟨⟨⟨⟨a1,a2⟩,a3⟩,a4⟩,a5⟩,a6⟩:=h
    rw [if_pos ⟨a1,a2,a3,a4,a5,a6⟩]
    obtain⟨s1,s2⟩:=tDo_sh (op:=op) ht a1.2 hx hy
    exact⟨hp7 _ s1,hp6 _ s2,by rw [hf7 _ s1,hf6 _ s2]⟩
theorem w_k46 {p1:Int×Unit→Bool} {f1:Int×Unit→Bool×Unit} (hp1:∀a,p1 (a,())=true) (hf1:∀a,f1 (a,())=(inB a 0 65535,())):F_k46 (std 0) p1 f1 () (fun z=>z=(true,())):=by
  dsimp only [F_k46]
  simp (disch:=omega) only [RR,hp1,hf1]
  rfl
theorem ext_all {α:Type} {d:α} {a b:List α} (h:a.length=b.length) (h2:All a.length (fun i=>a.getD i.toNat d=b.getD i.toNat d)):a=b:=by
  refine List.ext_getElem h fun i h3 h4=> ?_
  have:=h2 i (by omega) (by omega)
  dsimp only at this
  rw [show(i:Int).toNat=i from rfl,getD_lt h3,getD_lt h4]at this;exact this
theorem w_k45 (a b:List Int) (ha:a.length<1000000000):F_k45 (std 0) (a,b,()) (fun z=>z=(bp (a=b),())):=by
  dsimp only [F_k45]
  simp (disch:=omega) only [RR]
  refine⟨fun h=> ?_,fun h=> ?_⟩
  · rw [bp_f (fun e=>h (by rw [e]))]
  have hl:a.length=b.length:=by omega
  refine loop_intro (fun(y:List Int×List Int×Int×Unit)=>y.1=a∧y.2.1=b∧0≤y.2.2.1∧y.2.2.1≤a.length∧All y.2.2.1 (fun i=>a.getD i.toNat default=b.getD i.toNat default)) (fun y=>(a.length-y.2.2.1).toNat) ⟨rfl,rfl,by simp,by simp,All.zero⟩ ?_
  rintro⟨(l1:List Int),(l2:List Int),(i:Int),⟨⟩⟩ hI
  dsimp only at hI ⊢
  obtain⟨rfl,rfl,h1,h2,h3⟩:=hI
  simp (disch:=omega) only [RR]
  refine⟨fun h4=>⟨by omega,by omega,by omega,by omega,fun h5=> ?_,fun h5=>⟨⟨by omega,by omega,h3.snoc h5⟩,by omega⟩⟩,fun h4=> ?_⟩
  · rw [bp_f (fun e=>h5 (by rw [e]))]
  · rw [bp_t (ext_all hl (h3.le (by omega)))]
theorem w_k47 {p:List Int×List Int×Unit→Bool} {f:List Int×List Int×Unit→Bool×Unit} (hp:∀a b,a.length<1000000000→p (a,b,())=true) (hf:∀a b,a.length<1000000000→f (a,b,())=(bp (a=b),()))
    (a b:List Mono) (ha:Sh a):F_k47 (std 0) p f (a,b,()) (fun z=>z=(bp (a=b),())):=by
  have hlen:=ha.1
  dsimp only [F_k47]
  simp (disch:=omega) only [RR]
  refine⟨fun h=> ?_,fun h=> ?_⟩
  · rw [bp_f (fun e=>h (by rw [e]))]
  have hl:a.length=b.length:=by omega
  refine loop_intro (fun(y:Int×List Mono×List Mono×Unit)=>y.2.1=a∧y.2.2.1=b∧0≤y.1∧y.1≤a.length∧All y.1 (fun i=>a.getD i.toNat default=b.getD i.toNat default)) (fun y=>(a.length-y.1).toNat) ⟨rfl,rfl,by simp,by simp,All.zero⟩ ?_
  rintro⟨(i:Int),(l1:List Mono),(l2:List Mono),⟨⟩⟩ hI
  dsimp only at hI ⊢
  obtain⟨rfl,rfl,h1,h2,h3⟩:=hI
  simp (disch:=omega) only [RR,hp _ _ (ha.at _),hf _ _ (ha.at _),bp_eq,bp_ne]
  refine⟨fun h4=>⟨by omega,by omega,by omega,by omega,by omega,by omega,by omega,by omega,fun h5=> ?_,fun h5=>⟨⟨by omega,by omega,h3.snoc ?_⟩,by omega⟩⟩,fun h4=> ?_⟩
  · rw [bp_f]
    intro e;rw [e]at h5
    rcases h5 with h5 | h5<;>exact h5 rfl
  · obtain⟨e1,e2⟩:=h5
    generalize ((l1).getD (i).toNat default)=u at e1 e2 ⊢
    generalize ((l2).getD (i).toNat default)=v at e1 e2 ⊢
    cases u;cases v;simp_all
  · rw [bp_t (ext_all hl (h3.le (by omega)))]
theorem w_k48 {p:List Mono×List Mono×Unit→Bool} {f:List Mono×List Mono×Unit→Bool×Unit} (hp:∀a b,Sh a→p (a,b,())=true) (hf:∀a b,Sh a→f (a,b,())=(bp (a=b),()))
    (a b:List Atom) (ha:ShT a):F_k48 (std 0) p f (a,b,()) (fun z=>z=(bp (a=b),())):=by
  have hlen:=ha.1
  dsimp only [F_k48]
  simp (disch:=omega) only [RR]
  refine⟨fun h=> ?_,fun h=> ?_⟩
  · rw [bp_f (fun e=>h (by rw [e]))]
  have hl:a.length=b.length:=by omega
  refine loop_intro (fun(y:Int×List Atom×List Atom×Unit)=>y.2.1=a∧y.2.2.1=b∧0≤y.1∧y.1≤a.length∧All y.1 (fun i=>a.getD i.toNat default=b.getD i.toNat default)) (fun y=>(a.length-y.1).toNat) ⟨rfl,rfl,by simp,by simp,All.zero⟩ ?_
  rintro⟨(i:Int),(l1:List Atom),(l2:List Atom),⟨⟩⟩ hI
  dsimp only at hI ⊢
  obtain⟨rfl,rfl,h1,h2,h3⟩:=hI
  simp (disch:=omega) only [RR,hp _ _ (ha.at _).1,hf _ _ (ha.at _).1,hp _ _ (ha.at _).2,hf _ _ (ha.at _).2,bp_eq,bp_ne]
  refine⟨fun h4=>⟨by omega,by omega,by omega,by omega,fun h5=> ?_,fun h5=>⟨⟨by omega,by omega,h3.snoc ?_⟩,by omega⟩⟩,fun h4=> ?_⟩
  · rw [bp_f]
    intro e;rw [e]at h5
    rcases h5 with((h5 | h5) | h5) | h5<;>exact h5 rfl
  · obtain⟨⟨⟨e1,e2⟩,e3⟩,e4⟩:=h5
    generalize ((l1).getD (i).toNat default)=u at e1 e2 e3 e4 ⊢
    generalize ((l2).getD (i).toNat default)=v at e1 e2 e3 e4 ⊢
    cases u;cases v;simp_all
  · rw [bp_t (ext_all hl (h3.le (by omega)))]
end Go.TX.F
namespace Go.TX.F
open Go Go.AE Go.TX
theorem or2_zero {a b:Int}:or2 a b=0↔a=0∧b=0:=by unfold or2;split<;>omega
theorem mOrd_zero {a b:Mono}:mOrd a b=0↔a=b:=by
  unfold mOrd;rw [or2_zero,aOrd_zero,cmpI_zero]
  constructor
  · rintro⟨h1,h2⟩;cases a;cases b;simp_all
  · rintro rfl;exact⟨rfl,rfl⟩
theorem lexM_zero:∀ {a b:List Mono},a.length=b.length→lexM a b=0→a=b
  | [],[],_,_=>rfl | [],_::_,h,_=>by simp at h
  | _::_,[],h,_=>by simp at h
  | a::az,b::bs,hl,h=>by
    simp only [lexM]at h
    split at h
    · exact absurd h (by assumption)
    · rename_i h1
      rw [mOrd_zero.1 (Classical.not_not.1 h1),lexM_zero (by simpa using hl) h]
theorem lexM_self:∀a:List Mono,lexM a a=0
  | []=>rfl
  | a::az=>by simp only [lexM,mOrd_zero.2 rfl];simp [lexM_self az]
theorem pOrd_zero {a b:List Mono}:pOrd a b=0↔a=b:=by
  unfold pOrd
  constructor
  · intro h
    split at h
    · exact absurd h (by assumption)
    · rename_i h1
      have:=cmpI_zero.1 (Classical.not_not.1 h1)
      exact lexM_zero (by omega) h
  · rintro rfl;rw [if_neg (by rw [cmpI_zero.2 rfl];simp),lexM_self]
theorem aSame_iff {a b:Atom}:aSame a b=true↔a=b:=by
  unfold aSame
  rw [Bool.and_eq_true,Bool.and_eq_true,Bool.and_eq_true,decide_eq_true_eq,decide_eq_true_eq,decide_eq_true_eq,decide_eq_true_eq,pOrd_zero,pOrd_zero]
  constructor
  · rintro⟨⟨⟨h1,h2⟩,h3⟩,h4⟩;cases a;cases b;simp_all
  · rintro rfl;exact⟨⟨⟨rfl,rfl⟩,rfl⟩,rfl⟩
theorem all_mem {α:Type} {d:α} {l:List α} {G:α→Prop}:All l.length (fun i=>G (l.getD i.toNat d))↔∀m∈l,G m:=by
  constructor
  · intro h m hm
    obtain⟨i,hi,rfl⟩:=List.getElem_of_mem hm
    have:=h i (by omega) (by omega)
    dsimp only at this
    rw [show(i:Int).toNat=i from rfl,getD_lt hi]at this;exact this
  · intro h i h1 h2
    exact h _ (getD_mem h1 h2)
theorem pUnder_iff {p:List Mono} {n:Int}:pUnder p n↔∀m∈p,∀k∈m.atoms,k<n:=by
  unfold pUnder mUnder
  rw [all_mem (d:=default) (G:=fun m:Mono=>All m.atoms.length (fun i=>¬n≤m.atoms.getD i.toNat default))]
  refine forall_congr' fun m=>forall_congr' fun _=> ?_
  rw [all_mem (d:=default) (G:=fun k:Int=>¬n≤k)]
  exact forall_congr' fun k=>forall_congr' fun _=>by omega
theorem pairwise_adj {α:Type} {d:α} {R:α→α→Prop} (tr:∀ {a b c},R a b→R b c→R a c) {l:List α}:l.Pairwise R↔∀i:Int,0<i→i<l.length→R (l.getD (i-1).toNat d) (l.getD i.toNat d):=by
  rw [List.pairwise_iff_getElem]
  constructor
  · intro h i h1 h2
    rw [getD_lt (by omega),getD_lt (by omega)]
    exact h _ _ (by omega) (by omega) (by omega)
  · intro h i j hi hj hij
    obtain⟨n,rfl⟩:∃n,j=i+1+n:=⟨j-i-1,by omega⟩
    clear hij
    induction n with
    | zero=>
      have:=h (i+1:Nat) (by omega) (by omega)
      rw [show(((i+1:Nat):Int)-1).toNat=i by omega,show(((i+1:Nat):Int)).toNat=i+1 by omega,getD_lt hi,getD_lt (by omega)]at this
      exact this
    | succ n ih=>
      have h1:=ih (by omega)
      have:=h (i+1+n+1:Nat) (by omega) (by omega)
      rw [show(((i+1+n+1:Nat):Int)-1).toNat=i+1+n by omega,show(((i+1+n+1:Nat):Int)).toNat=i+1+n+1 by omega,getD_lt (by omega),getD_lt (by omega)]at this
      exact tr h1 this
theorem srt_iff {l:List Int}:Srt l↔l.Pairwise (· ≤ ·):=by
  rw [pairwise_adj (d:=default) (R:=fun a b:Int=>a≤b) (fun h1 h2=>Int.le_trans h1 h2)]
  unfold Srt
  constructor
  · intro h i h1 h2
    have:=h (i-1) (by omega) (by omega)
    dsimp only at this
    rw [show i-1+1=i by omega]at this;exact this
  · intro h i h1 h2
    have:=h (i+1) (by omega) (by omega)
    rw [show i+1-1=i by omega]at this;exact this
theorem lt_trans' {a b c:Mono} (h1:lt a b) (h2:lt b c):lt a c:=lt_of_le_lt (le_of_lt h1) h2
def aok (l:List Int):Prop:=l.Pairwise (· ≤ ·)∧∀k∈l,0≤k∧k≤199
theorem polOK_iff {p:List Mono}:PolOK p↔Nf p∧p.length≤12∧∀m∈p,m.atoms.length≤4∧aok m.atoms:=by
  constructor
  · rintro⟨h1,h2,h3,h4⟩
    have h1':∀m∈p,mOk m:=all_mem (d:=default) (G:=mOk).1 (fun i g1 g2=>(h1 i g1 g2).1)
    have h4':∀m∈p,¬(0<m.atoms.length∧m.atoms.getD 0 default<0):=all_mem (d:=default) (G:=fun m:Mono=>¬(0<m.atoms.length∧m.atoms.getD 0 default<0)).1 h4
    refine⟨⟨(pairwise_adj (d:=default) (R:=lt) lt_trans').2 fun i g1 g2=>(h1 i (by omega) g2).2 g1,fun m hm=>(h1' m hm).1⟩,h2,fun m hm=>⟨(h1' m hm).2.1,srt_iff.1 (h1' m hm).2.2,fun k hk=>⟨?_,by have:=pUnder_iff.1 h3 m hm k hk;omega⟩⟩⟩
    have hs:=srt_iff.1 (h1' m hm).2.2
    have hn:=h4' m hm
    cases ha:m.atoms with
    | nil=>rw [ha]at hk;exact absurd hk (by simp)
    | cons b l=>
      rw [ha]at hk hs hn
      simp at hn
      rcases List.mem_cons.1 hk with rfl | hk
      · exact hn
      · have:=List.rel_of_pairwise_cons hs hk;omega
  · rintro⟨h1,h2,h3⟩
    refine⟨fun i g1 g2=>⟨⟨h1.co _ (getD_mem g1 g2),(h3 _ (getD_mem g1 g2)).1,srt_iff.2 (h3 _ (getD_mem g1 g2)).2.1⟩,fun g3=>(pairwise_adj (d:=default) (R:=lt) lt_trans').1 h1.ss i g3 g2⟩,h2,pUnder_iff.2 fun m hm k hk=>by have:=((h3 m hm).2.2 k hk);omega,?_⟩
    refine all_mem (d:=default) (G:=fun m:Mono=>¬(0<m.atoms.length∧m.atoms.getD 0 default<0)).2 fun m hm=> ?_
    rintro⟨g1,g2⟩
    have:=(h3 m hm).2.2 _ (getD_mem (i:=0) (d:=default) (xs:=m.atoms) (by omega) (by omega))
    rw [show Int.toNat 0=0 from rfl]at this;omega
theorem cf_mem {l:List Mono} {k:List Int} (h:cf l k≠0):∃m∈l,m.atoms=k:=Classical.byContradiction fun h2=>h (cf_zero fun m hm e=>h2 ⟨m,hm,e⟩)
theorem Nf.cf {o:List Mono} (h:Nf o) {m:Mono} (hm:m∈o):cf o m.atoms=m.coef:=by
  induction o with
  | nil=>exact absurd hm (by simp)
  | cons a o ih=>
    rw [cf_cons]
    rcases List.mem_cons.1 hm with rfl | hm
    · rw [if_pos rfl,cf_zero (fun m' hm'=>((List.rel_of_pairwise_cons h.ss hm').ne).symm)];omega
    · rw [if_neg (List.rel_of_pairwise_cons h.ss hm).ne,ih ⟨h.ss.tail,fun m hm=>h.co m (by simp [hm])⟩ hm];omega
theorem Nf.from {o l:List Mono} (h:Nf o) (h2:∀k,F.cf o k=F.cf l k%65536) {m:Mono} (hm:m∈o):∃m'∈l,m'.atoms=m.atoms:=by
  refine cf_mem fun e=> ?_
  have:=h2 m.atoms
  rw [h.cf hm,e]at this
  have:=h.co m hm;omega
theorem Nf.bnd {o:List Mono} (h:Nf o) (k:List Int):0≤F.cf o k∧F.cf o k≤65535:=by
  by_cases e:F.cf o k=0
  · omega
  · obtain⟨m,hm,rfl⟩:=cf_mem e
    rw [h.cf hm];have:=h.co m hm;omega
theorem sumF_of {l o:List Mono} (h:Nf o) (h2:∀k,F.cf o k=F.cf l k%65536) (h3:∀m∈l,aok m.atoms):
    sumF l=(decide (o.length≤12∧∀m∈o,m.atoms.length≤4),if o.length≤12∧∀m∈o,m.atoms.length≤4 then o else []):=by
  unfold sumF
  rw [nf_eq h h2]
  by_cases c:o.length≤12∧∀m∈o,m.atoms.length≤4
  · have:PolOK o:=polOK_iff.2 ⟨h,c.1,fun m hm=>⟨c.2 m hm,by obtain⟨m',g1,g2⟩:=h.from h2 hm;rw [←g2];exact h3 m' g1⟩⟩
    rw [bp_t this,decide_eq_true c,if_pos rfl,if_pos c]
  · have:¬PolOK o:=fun g=>c ⟨(polOK_iff.1 g).2.1,fun m hm=>((polOK_iff.1 g).2.2 m hm).1⟩
    rw [bp_f this,decide_eq_false c,if_neg (by simp),if_neg c]
end Go.TX.F
namespace Go.TX.F
open Go Go.AE Go.TX
theorem w_k98 (a b c:Int):F_k98 (std 0) (a,b,c,()) (fun y=>y=(inB a b c,())):=by
  dsimp only [F_k98]
  simp (disch:=omega) only [RR]
  rfl
theorem w_k96 (a:Int):F_k96 (std 0) (a,()) (fun y=>y=(inB a 0 65535,())):=by
  dsimp only [F_k96]
  simp (disch:=omega) only [RR]
  refine congrArg (fun b=>(b,())) ?_
  rw [Bool.eq_iff_iff,inB_t,Bool.and_eq_true,decide_eq_true_eq,decide_eq_true_eq];omega
theorem w_k84 {p1:Int×Int×Int×Unit→Bool} {f1:Int×Int×Int×Unit→Bool×Unit} (hp1:∀a b c,p1 (a,b,c,())=true) (hf1:∀a b c,f1 (a,b,c,())=(inB a b c,())) (a:Int):
    F_k84 (std 0) p1 f1 (a,()) (fun y=>y=(pConst a,())):=by
  dsimp only [F_k84]
  simp (disch:=omega) only [RR,hp1,hf1,inB_t,inB_f]
  unfold pConst
  exact⟨fun h=>by rw [if_neg (by omega)],fun h=>by rw [if_pos (by omega)]⟩
theorem w_k83 {p1:Int×Int×Int×Unit→Bool} {f1:Int×Int×Int×Unit→Bool×Unit} (hp1:∀a b c,p1 (a,b,c,())=true) (hf1:∀a b c,f1 (a,b,c,())=(inB a b c,())) (a:Int):
    F_k83 (std 0) p1 f1 (a,()) (fun y=>y=(pAtom a,())):=by
  dsimp only [F_k83]
  simp (disch:=omega) only [RR,hp1,hf1,inB_t,inB_f]
  unfold pAtom
  exact⟨fun h=>by rw [if_neg (by omega)],fun h=>by rw [if_pos (by omega)]⟩
theorem tmod_w (a:Int):a.tmod 65536=if 0≤a then a%65536 else- (-a%65536):=by
  split
  · rw [Int.tmod_eq_emod_of_nonneg (by omega)]
  · have:=Int.neg_tmod (-a) 65536
    rw [Int.neg_neg]at this;rw [this,Int.tmod_eq_emod_of_nonneg (by omega)]
theorem w_k97 (a:Int):F_k97 (std 0) (a,()) (fun y=>y=(a%65536,())):=by
  dsimp only [F_k97]
  simp only [az_rem]
  by_cases h:0≤a
  · rw [show a.tmod 65536=a%65536 by rw [tmod_w,if_pos h]]
    simp (disch:=omega) only [RR]
    refine⟨by omega,fun h2=> ?_⟩
    exfalso;omega
  · rw [show a.tmod 65536= - (-a%65536) by rw [tmod_w,if_neg h]]
    simp (disch:=omega) only [RR]
    refine⟨by omega,fun h2=> ?_,fun h2=> ?_⟩
    · rw [show-(-a%65536)+65536=a%65536 by omega]
    · rw [show-(-a%65536)=a%65536 by omega]
theorem w_k112 (a b:List Int) (ha:a.length<1000000000):F_k112 (std 0) (a,b,()) (fun y=>y=(aOrd a b,())):=by
  dsimp only [F_k112]
  simp (disch:=omega) only [RR]
  refine⟨fun h=>⟨fun h1=> ?_,fun h1=> ?_⟩,fun h=> ?_⟩
  · rw [show aOrd a b= -1 by(have e:cmpI a.length b.length= -1:=by unfold cmpI;rw [if_pos h1]);unfold aOrd or2;rw [e];rfl]
  · rw [show aOrd a b=1 by(have e:cmpI a.length b.length=1:=by unfold cmpI;rw [if_neg h1,if_pos (by omega)]);unfold aOrd or2;rw [e];rfl]
  have hl:a.length=b.length:=by omega
  have e0:aOrd a b=lexI a b:=by unfold aOrd or2;rw [cmpI_zero.2 (by omega),if_neg (by simp)]
  refine loop_intro (fun(y:List Int×List Int×Int×Unit)=>y.1=a∧y.2.1=b∧0≤y.2.2.1∧y.2.2.1≤a.length∧aOrd a b=lexI (a.drop y.2.2.1.toNat) (b.drop y.2.2.1.toNat)) (fun y=>(a.length-y.2.2.1).toNat) ⟨rfl,rfl,by simp,by simp,by simpa using e0⟩ ?_
  rintro⟨(l1:List Int),(l2:List Int),(i:Int),⟨⟩⟩ hI
  dsimp only at hI ⊢
  obtain⟨rfl,rfl,h1,h2,h3⟩:=hI
  simp (disch:=omega) only [RR]
  refine⟨fun h4=> ?_,fun h4=> ?_⟩
  · have e:=lexI_drop l1 l2 i.toNat (by omega) (by omega)
    rw [getD_lt (by omega),getD_lt (by omega)]
    refine⟨by omega,by omega,by omega,by omega,fun h5=> ?_,fun h5=>⟨by omega,by omega,by omega,by omega,fun h6=> ?_,fun h6=>⟨⟨by omega,by omega,?_⟩,by omega⟩⟩⟩
    · rw [h3,e,show cmpI l1[i.toNat] l2[i.toNat]= -1 by unfold cmpI;rw [if_pos h5]];rfl
    · rw [h3,e,show cmpI l1[i.toNat] l2[i.toNat]=1 by unfold cmpI;rw [if_neg h5,if_pos h6]];rfl
    · rw [h3,e,show cmpI l1[i.toNat] l2[i.toNat]=0 by unfold cmpI;rw [if_neg h5,if_neg h6],show(i+1).toNat=i.toNat+1 by omega];rfl
  · rw [h3,List.drop_eq_nil_of_le (by omega),List.drop_eq_nil_of_le (by omega)];rfl
theorem w_k111 {p1:Int×Int×Int×Unit→Bool} {f1:Int×Int×Int×Unit→Bool×Unit} (hp1:∀a b c,p1 (a,b,c,())=true) (hf1:∀a b c,f1 (a,b,c,())=(inB a b c,())) (m:Mono) (hm:m.atoms.length<1000000000):
    F_k111 (std 0) p1 f1 (m,()) (fun y=>y=(bp ((1≤m.coef∧m.coef≤65535)∧m.atoms.length≤4∧aok m.atoms),())):=by
  dsimp only [F_k111]
  simp (disch:=omega) only [RR,hp1,hf1,inB_t,inB_f]
  refine⟨fun h=> ?_,fun⟨h1,h2⟩=> ?_⟩
  · rw [bp_f];rintro⟨g1,g2,g3⟩;omega
  refine loop_intro (fun(y:Int×Mono×Unit)=>y.2.1=m∧0≤y.1∧y.1≤m.atoms.length∧All y.1 (fun i=>(0≤m.atoms.getD i.toNat default∧m.atoms.getD i.toNat default≤199)∧(0<i→m.atoms.getD (i-1).toNat default≤m.atoms.getD i.toNat default))) (fun y=>(m.atoms.length-y.1).toNat) ⟨rfl,by simp,by simp,All.zero⟩ ?_
  rintro⟨(i:Int),(m':Mono),⟨⟩⟩ hI
  dsimp only at hI ⊢
  obtain⟨rfl,h3,h4,h5⟩:=hI
  simp (disch:=omega) only [RR,hp1,hf1,inB_t,inB_f]
  refine⟨fun h6=>⟨by omega,by omega,by by_cases c:0<i;(· right;omega);(· left;simp [c]),by by_cases c:0<i;(· right;omega);(· left;simp [c]),by omega,by omega,fun h7=> ?_,fun h7=>⟨⟨by omega,by omega,h5.snoc ⟨h7.1,fun c=> ?_⟩⟩,by omega⟩⟩,fun h6=> ?_⟩
  · rw [bp_f];rintro⟨g1,g2,g3,g4⟩
    rcases h7 with h7 | ⟨h7,h8⟩
    · exact h7 (g4 _ (getD_mem h3 h6))
    · have:=(pairwise_adj (d:=default) (R:=fun a b:Int=>a≤b) (fun h1 h2=>Int.le_trans h1 h2)).1 g3 i h7 h6;omega
  · have:=h7.2;rw [decide_eq_true c,Bool.true_and,decide_eq_false_iff_not]at this;omega
  · have h8:=h5.le (by omega:(m'.atoms.length:Int)≤i)
    rw [bp_t]
    refine⟨by omega,by omega,(pairwise_adj (d:=default) (R:=fun a b:Int=>a≤b) (fun h1 h2=>Int.le_trans h1 h2)).2 fun j j1 j2=>(h8 j (by omega) j2).2 j1,all_mem (d:=default) (G:=fun k:Int=>0≤k∧k≤199).1 fun j j1 j2=>(h8 j j1 j2).1⟩
theorem w_k87 {p1:Mono×Unit→Bool} {f1:Mono×Unit→Bool×Unit} (hp1:∀m:Mono,m.atoms.length<1000000000→p1 (m,())=true) (hf1:∀m:Mono,m.atoms.length<1000000000→f1 (m,())=(bp ((1≤m.coef∧m.coef≤65535)∧m.atoms.length≤4∧aok m.atoms),()))
    {p4:List Int×List Int×Unit→Bool} {f4:List Int×List Int×Unit→Int×Unit} (hp4:∀a b,a.length<1000000000→p4 (a,b,())=true) (hf4:∀a b,a.length<1000000000→f4 (a,b,())=(aOrd a b,()))
    (a:List Mono) (ha:Sh a):F_k87 (std 0) p1 f1 p4 f4 (a,()) (fun y=>y=(bp (PolOK a),())):=by
  have hlen:=ha.1
  dsimp only [F_k87]
  simp (disch:=omega) only [RR]
  refine⟨fun h=> ?_,fun h=> ?_⟩
  · rw [bp_f (fun h2=>by have:=h2.len;omega)]
  refine loop_intro (fun(y:Int×List Mono×Unit)=>y.2.1=a∧0≤y.1∧y.1≤a.length∧All y.1 (fun i=>((1≤((a).getD (i).toNat default).coef∧((a).getD (i).toNat default).coef≤65535)∧((a).getD (i).toNat default).atoms.length≤4∧aok ((a).getD (i).toNat default).atoms)∧(0<i→lt ((a).getD (i-1).toNat default) ((a).getD (i).toNat default)))) (fun y=>(a.length-y.1).toNat) ⟨rfl,by simp,by simp,All.zero⟩ ?_
  rintro⟨(i:Int),(l':List Mono),⟨⟩⟩ hI
  dsimp only at hI ⊢
  obtain⟨rfl,h1,h2,h3⟩:=hI
  simp (disch:=omega) only [RR,hp1 _ (ha.at _),hf1 _ (ha.at _),hp4 _ _ (ha.at _),hf4 _ _ (ha.at _),bp_eq,bp_ne]
  refine⟨fun h4=>⟨by omega,by omega,by by_cases c:0<i;(· right;omega);(· left;simp [c]),by by_cases c:0<i;(· right;omega);(· left;simp [c]),by omega,by omega,fun h5=> ?_,fun h5=>⟨⟨by omega,by omega,h3.snoc ⟨h5.1,fun c=> ?_⟩⟩,by omega⟩⟩,fun h4=> ?_⟩
  · rw [bp_f (fun h=> ?_)]
    obtain⟨g1,g2,g3⟩:=polOK_iff.1 h
    rcases h5 with h5 | ⟨h5,h6⟩
    · exact h5 ⟨g1.co _ (getD_mem h1 h4),g3 _ (getD_mem h1 h4)⟩
    · have:=(pairwise_adj (d:=default) (R:=lt) lt_trans').1 g1.ss i h5 h4
      unfold lt at this;omega
  · have:=h5.2;rw [decide_eq_true c,Bool.true_and,decide_eq_false_iff_not]at this;unfold lt;omega
  · have h8:=h3.le (by omega:(l'.length:Int)≤i)
    rw [bp_t]
    have h9:=all_mem (d:=default) (G:=fun m:Mono=>(1≤m.coef∧m.coef≤65535)∧m.atoms.length≤4∧aok m.atoms).1 fun j j1 j2=>(h8 j j1 j2).1
    exact polOK_iff.2 ⟨⟨(pairwise_adj (d:=default) (R:=lt) lt_trans').2 fun j j1 j2=>(h8 j (by omega) j2).2 j1,fun m hm=>(h9 m hm).1⟩,by omega,fun m hm=>(h9 m hm).2⟩
end Go.TX.F
namespace Go.TX.F
open Go Go.AE Go.TX
theorem w_k90 (a:List Mono) (n:Int) (ha:Sh a):F_k90 (std 0) (a,n,()) (fun y=>y=(bp (pUnder a n),())):=by
  have hlen:=ha.1
  dsimp only [F_k90]
  simp (disch:=omega) only [RR]
  refine loop_intro (fun(y:Int×Int×List Mono×Unit)=>y.1=n∧y.2.2.1=a∧0≤y.2.1∧y.2.1≤a.length∧All y.2.1 (fun i=>mUnder n ((a).getD (i).toNat default))) (fun y=>(a.length-y.2.1).toNat) ⟨rfl,rfl,by simp,by simp,All.zero⟩ ?_
  rintro⟨(n':Int),(i:Int),(l:List Mono),⟨⟩⟩ hI
  dsimp only at hI ⊢
  obtain⟨rfl,rfl,h1,h2,h3⟩:=hI
  simp (disch:=omega) only [RR]
  refine⟨fun h4=> ?_,fun h4=> ?_⟩
  · have h5:=ha.at i.toNat
    refine loop_intro (fun(y:Int×Int×Int×List Mono×Unit)=>y.1=n'∧y.2.1=i∧y.2.2.2.1=l∧0≤y.2.2.1∧y.2.2.1≤((l).getD (i).toNat default).atoms.length∧All y.2.2.1 (fun j=>¬n'≤((l).getD (i).toNat default).atoms.getD j.toNat default)) (fun y=>(((l).getD (i).toNat default).atoms.length-y.2.2.1).toNat) ⟨rfl,rfl,rfl,by simp,by simp,All.zero⟩ ?_
    rintro⟨(n'':Int),(i':Int),(j:Int),(l':List Mono),⟨⟩⟩ hI
    dsimp only at hI ⊢
    obtain⟨rfl,rfl,rfl,g1,g2,g3⟩:=hI
    simp (disch:=omega) only [RR]
    refine⟨by omega,by omega,fun g4=>⟨by omega,by omega,by omega,by omega,fun g5=> ?_,fun g5=>⟨⟨by omega,by omega,g3.snoc g5⟩,by omega⟩⟩,fun g4=>⟨⟨by omega,by omega,h3.snoc (g3.le (by omega))⟩,by omega⟩⟩
    rw [bp_f (fun h=>h i' h1 h4 j g1 g4 g5)]
  · rw [bp_t (show pUnder l n' from h3.le (by omega))]
theorem w_k88 {p4:List Int×List Int×Unit→Bool} {f4:List Int×List Int×Unit→Int×Unit} (hp4:∀a b,a.length<1000000000→p4 (a,b,())=true) (hf4:∀a b,a.length<1000000000→f4 (a,b,())=(aOrd a b,()))
    (a b:List Mono) (ha:Sh a):F_k88 (std 0) p4 f4 (a,b,()) (fun y=>y=(pOrd a b,())):=by
  have hlen:=ha.1
  dsimp only [F_k88]
  simp (disch:=omega) only [RR]
  refine⟨fun h=>⟨fun h1=> ?_,fun h1=> ?_⟩,fun h=> ?_⟩
  · rw [show pOrd a b= -1 by(have e:cmpI a.length b.length= -1:=by unfold cmpI;rw [if_pos h1]);unfold pOrd;rw [e];rfl]
  · rw [show pOrd a b=1 by(have e:cmpI a.length b.length=1:=by unfold cmpI;rw [if_neg h1,if_pos (by omega)]);unfold pOrd;rw [e];rfl]
  have hl:a.length=b.length:=by omega
  have e0:pOrd a b=lexM a b:=by unfold pOrd;rw [cmpI_zero.2 (by omega),if_neg (by simp)]
  refine loop_intro (fun(y:Int×List Mono×List Mono×Unit)=>y.2.1=a∧y.2.2.1=b∧0≤y.1∧y.1≤a.length∧pOrd a b=lexM (a.drop y.1.toNat) (b.drop y.1.toNat)) (fun y=>(a.length-y.1).toNat) ⟨rfl,rfl,by simp,by simp,by simpa using e0⟩ ?_
  rintro⟨(i:Int),(l:List Mono),(l':List Mono),⟨⟩⟩ hI
  dsimp only at hI ⊢
  obtain⟨rfl,rfl,h1,h2,h3⟩:=hI
  simp (disch:=omega) only [RR,hp4 _ _ (ha.at _),hf4 _ _ (ha.at _)]
  refine⟨fun h4=> ?_,fun h4=> ?_⟩
  · have e:=lexM_drop l l' i.toNat (by omega) (by omega)
    rw [getD_lt (by omega),getD_lt (by omega)]
    generalize hu:l[i.toNat]=u at e ⊢
    generalize hv:l'[i.toNat]=v at e ⊢
    have em:mOrd u v=if aOrd u.atoms v.atoms≠0 then aOrd u.atoms v.atoms else cmpI u.coef v.coef:=rfl
    refine⟨by omega,by omega,by omega,by omega,fun h5=> ?_,fun h5=>⟨by omega,by omega,by omega,by omega,fun h6=>⟨by omega,by omega,by omega,by omega,fun h7=> ?_,fun h7=> ?_⟩,fun h6=>⟨⟨by omega,by omega,?_⟩,by omega⟩⟩⟩
    · rw [if_pos h5]at em
      rw [h3,e,em,if_pos h5]
    · rw [if_neg (by simpa using h5),show cmpI u.coef v.coef= -1 by unfold cmpI;rw [if_pos h7]]at em
      rw [h3,e,em];rfl
    · rw [if_neg (by simpa using h5),show cmpI u.coef v.coef=1 by unfold cmpI;rw [if_neg h7,if_pos (by omega)]]at em
      rw [h3,e,em];rfl
    · rw [if_neg (by simpa using h5),cmpI_zero.2 h6]at em
      rw [h3,e,em,show(i+1).toNat=i.toNat+1 by omega];rfl
  · rw [h3,List.drop_eq_nil_of_le (by omega)];rfl
theorem w_k115 (a:Atom):F_k115 (std 0) (a,()) (fun y=>y=(bp (a.x=[]∧a.y=[]),())):=by
  dsimp only [F_k115]
  simp (disch:=omega) only [RR]
  refine congrArg (fun b=>(b,())) ?_
  rw [Bool.eq_iff_iff,bp_eq,Bool.and_eq_true,decide_eq_true_eq,decide_eq_true_eq]
  constructor
  · rintro⟨h1,h2⟩;exact⟨List.eq_nil_of_length_eq_zero (by omega),List.eq_nil_of_length_eq_zero (by omega)⟩
  · rintro⟨h1,h2⟩;rw [h1,h2];exact⟨rfl,rfl⟩
theorem w_k114 {p1:Int×Int×Int×Unit→Bool} {f1:Int×Int×Int×Unit→Bool×Unit} (hp1:∀a b c,p1 (a,b,c,())=true) (hf1:∀a b c,f1 (a,b,c,())=(inB a b c,()))
    {p4:List Mono×Unit→Bool} {f4:List Mono×Unit→Bool×Unit} (hp4:∀a,Sh a→p4 (a,())=true) (hf4:∀a,Sh a→f4 (a,())=(bp (PolOK a),()))
    {p3:List Mono×Int×Unit→Bool} {f3:List Mono×Int×Unit→Bool×Unit} (hp3:∀a n,Sh a→p3 (a,n,())=true) (hf3:∀a n,Sh a→f3 (a,n,())=(bp (pUnder a n),()))
    {p5:Atom×Unit→Bool} {f5:Atom×Unit→Bool×Unit} (hp5:∀a,p5 (a,())=true) (hf5:∀a,f5 (a,())=(bp (a.x=[]∧a.y=[]),())) (a:Atom) (n:Int) (ha:ShA a):
    F_k114 (std 0) p1 f1 p4 f4 p3 f3 p5 f5 (a,n,()) (fun y=>y=(bp (aDefd a n),())):=by
  obtain⟨hx,hy⟩:=ha
  dsimp only [F_k114]
  simp (disch:=omega) only [RR,hp1,hf1,hp5,hf5,hp3 a.x n hx,hf3 a.x n hx,hp3 a.y n hy,hf3 a.y n hy,hp4 a.x hx,hf4 a.x hx,hp4 a.y hy,hf4 a.y hy]
  unfold aDefd
  have E:∀(b:Bool) (P:Prop),(b=true↔P)→(b,())=(bp P,()):=fun b P h=>by
    rw [show b=bp P from Bool.eq_iff_iff.2 (h.trans bp_eq.symm)]
  have T:∀ {P:Prop},¬P→(false,())=(bp P,()):=fun h=>by rw [bp_f h]
  refine⟨fun h=>E _ _ ?_,fun h=>⟨fun h1=>⟨fun _=>E _ _ ?_,fun h'=>absurd h1 h'⟩,fun h1=>⟨fun h2=>E _ _ ?_,fun h2=>⟨fun h3=>E _ _ ?_,fun h3=>T ?_⟩⟩⟩⟩
  · rw [if_neg (by omega),Bool.and_eq_true,inB_t,bp_eq]
    constructor
    · rintro⟨g1,g2⟩;exact⟨g2,Or.inl ⟨h,g1⟩⟩
    · rintro⟨g2,⟨_,g1⟩ | ⟨g3,g1⟩⟩
      · exact⟨g1,g2⟩
      · omega
  · rw [if_neg (by omega),Bool.and_eq_true,inB_t,bp_eq]
    constructor
    · rintro⟨g1,g2⟩;exact⟨g2,Or.inr ⟨Or.inl h1,g1⟩⟩
    · rintro⟨g2,⟨_,g1⟩ | ⟨g3,g1⟩⟩
      · omega
      · exact⟨g1,g2⟩
  · rw [if_neg (by omega),Bool.and_eq_true,inB_t,bp_eq]
    constructor
    · rintro⟨g1,g2⟩;exact⟨g2,Or.inr ⟨Or.inr h2,g1⟩⟩
    · rintro⟨g2,⟨_,g1⟩ | ⟨g3,g1⟩⟩
      · omega
      · exact⟨g1,g2⟩
  · rw [if_pos h3]
    simp only [Bool.and_eq_true,inB_t,bp_eq,and_assoc]
  · rw [if_neg h3]
    rintro⟨_,⟨g,_⟩ | ⟨g,_⟩⟩<;>omega
theorem w_k122 {p1:List Mono×List Mono×Unit→Bool} {f1:List Mono×List Mono×Unit→Int×Unit} (hp1:∀a b,Sh a→p1 (a,b,())=true) (hf1:∀a b,Sh a→f1 (a,b,())=(pOrd a b,())) (a b:Atom) (ha:ShA a):
    F_k122 (std 0) p1 f1 (a,b,()) (fun y=>y=(aSame a b,())):=by
  dsimp only [F_k122]
  simp (disch:=omega) only [RR,hp1 a.x b.x ha.1,hf1 a.x b.x ha.1,hp1 a.y b.y ha.2,hf1 a.y b.y ha.2]
  rfl
theorem idx_ex (G:Int→Prop):∀n:Nat,∃r,Idx n G r
  | 0=>⟨-1,Or.inl ⟨rfl,All.zero⟩⟩
  | n+1=>by
    obtain⟨r,h⟩:=idx_ex G n
    rcases h with⟨h1,h2⟩ | ⟨h1,h2,h3,h4⟩
    · by_cases g:G n
      · exact⟨n,Or.inr ⟨by omega,by omega,g,h2⟩⟩
      · exact⟨-1,Or.inl ⟨rfl,by have:=h2.snoc g;exact this.le (by omega)⟩⟩
    · exact⟨r,Or.inr ⟨h1,by omega,h3,h4⟩⟩
theorem idxOf_spec (G:Int→Prop) (n:Nat):Idx n G (idxOf n G):=by
  obtain⟨r,h⟩:=idx_ex G n
  rw [←h.eq];exact h
theorem tFind_spec (t:List Atom) (a:Atom):Idx t.length (fun i=>a=t.getD i.toNat default) (tFind t a):=by
  have:=idxOf_spec (fun i=>aSame a (t.getD i.toNat default)=true) t.length
  simp only [aSame_iff]at this
  unfold tFind;simp only [aSame_iff];exact this
theorem tabOK_iff {t:List Atom}:TabOK t↔All t.length (fun i=>aDefd (t.getD i.toNat default) i∧All i (fun j=>¬t.getD i.toNat default=t.getD j.toNat default))∧t.length≤200:=by
  unfold TabOK
  refine and_congr ⟨fun h i h1 h2=>⟨(h i h1 h2).1,?_⟩,fun h i h1 h2=>⟨(h i h1 h2).1,?_⟩⟩ Iff.rfl
  · have:=tFind_spec t (t.getD i.toNat default)
    rw [(h i h1 h2).2]at this
    rcases this with⟨g1,_⟩ | ⟨_,_,_,g⟩
    · omega
    · exact g
  · exact((tFind_spec t (t.getD i.toNat default)).uniq (Or.inr ⟨h1,h2,rfl,(h i h1 h2).2⟩))
theorem w_k93 {p1:Atom×Int×Unit→Bool} {f1:Atom×Int×Unit→Bool×Unit} (hp1:∀a n,ShA a→p1 (a,n,())=true) (hf1:∀a n,ShA a→f1 (a,n,())=(bp (aDefd a n),()))
    {p2:Atom×Atom×Unit→Bool} {f2:Atom×Atom×Unit→Bool×Unit} (hp2:∀a b,ShA a→p2 (a,b,())=true) (hf2:∀a b,ShA a→f2 (a,b,())=(aSame a b,())) (a:List Atom) (ha:ShT a):
    F_k93 (std 0) p1 f1 p2 f2 (a,()) (fun y=>y=(bp (TabOK a),())):=by
  have hlen:=ha.1
  dsimp only [F_k93]
  simp (disch:=omega) only [RR]
  refine⟨fun h=> ?_,fun h=> ?_⟩
  · rw [bp_f (fun h2=>by have:=h2.2;omega)]
  refine loop_intro (fun(y:Int×List Atom×Unit)=>y.2.1=a∧0≤y.1∧y.1≤a.length∧All y.1 (fun i=>aDefd ((a).getD (i).toNat default) i∧All i (fun j=>¬((a).getD (i).toNat default)=((a).getD (j).toNat default)))) (fun y=>(a.length-y.1).toNat) ⟨rfl,by simp,by simp,All.zero⟩ ?_
  rintro⟨(i:Int),(l:List Atom),⟨⟩⟩ hI
  dsimp only at hI ⊢
  obtain⟨rfl,h1,h2,h3⟩:=hI
  simp (disch:=omega) only [RR,hp1 _ _ (ha.at _),hf1 _ _ (ha.at _),bp_eq,bp_ne]
  refine⟨fun h4=>⟨by omega,by omega,fun h5=> ?_,fun h5=> ?_⟩,fun h4=> ?_⟩
  · rw [bp_f (fun h=>h5 (h.1 i h1 h4).1)]
  · refine loop_intro (fun(y:Int×Int×List Atom×Unit)=>y.1=i∧y.2.2.1=l∧0≤y.2.1∧y.2.1≤i∧All y.2.1 (fun j=>¬((l).getD (i).toNat default)=((l).getD (j).toNat default))) (fun y=>(i-y.2.1).toNat) ⟨rfl,rfl,by simp,by simp;omega,All.zero⟩ ?_
    rintro⟨(i':Int),(j:Int),(l':List Atom),⟨⟩⟩ hI
    dsimp only at hI ⊢
    obtain⟨rfl,rfl,g1,g2,g3⟩:=hI
    simp (disch:=omega) only [RR,hp2 _ _ (ha.at _),hf2 _ _ (ha.at _)]
    refine⟨fun g4=>⟨by omega,by omega,by omega,by omega,fun g5=> ?_,fun g5=>⟨⟨by omega,by omega,g3.snoc ?_⟩,by omega⟩⟩,fun g4=>⟨⟨by omega,by omega,h3.snoc ⟨h5,g3.le (by omega)⟩⟩,by omega⟩⟩
    · rw [bp_f (fun h=>((tabOK_iff.1 h).1 i' h1 h4).2 j g1 g4 (aSame_iff.1 g5).symm)]
    · intro e;rw [aSame_iff.2 e.symm]at g5;cases g5
  · rw [bp_t (tabOK_iff.2 ⟨h3.le (by omega),by omega⟩)]
theorem w_k123 {p4:List Mono×Unit→Bool} {f4:List Mono×Unit→Bool×Unit} (hp4:∀a,Sh a→p4 (a,())=true) (hf4:∀a,Sh a→f4 (a,())=(bp (PolOK a),()))
    {p3:List Mono×Int×Unit→Bool} {f3:List Mono×Int×Unit→Bool×Unit} (hp3:∀a n,Sh a→p3 (a,n,())=true) (hf3:∀a n,Sh a→f3 (a,n,())=(bp (pUnder a n),()))
    (x y:List Mono) (n:Int) (hx:Sh x) (hy:Sh y):F_k123 (std 0) p4 f4 p3 f3 (x,y,n,()) (fun z=>z=(bp (PolOK x∧PolOK y∧pUnder x n∧pUnder y n),())):=by
  dsimp only [F_k123]
  simp (disch:=omega) only [RR,hp3 x n hx,hf3 x n hx,hp3 y n hy,hf3 y n hy,hp4 x hx,hf4 x hx,hp4 y hy,hf4 y hy]
  refine congrArg (fun b=>(b,())) ?_
  rw [Bool.eq_iff_iff,bp_eq]
  simp only [Bool.and_eq_true,bp_eq,and_assoc]
theorem w_k95 {p1:Int×Unit→Bool} {f1:Int×Unit→Bool×Unit} (hp1:∀a,p1 (a,())=true) (hf1:∀a,f1 (a,())=(inB a 0 65535,()))
    {p2:Int×Unit→Bool} {f2:Int×Unit→Int×Unit} (hp2:∀a,p2 (a,())=true) (hf2:∀a,f2 (a,())=(a%65536,())) (op a b:Int):
    F_k95 (std 0) p2 f2 p1 f1 (op,a,b,()) (fun y=>y=(wdo op a b,())):=by
  dsimp only [F_k95]
  simp (disch:=omega) only [RR,hp1,hf1,hp2,hf2,az_and,az_xor,inB_t,inB_f]
  by_cases ha:(0≤a∧a≤65535)∧(0≤b∧b≤65535)
  · have hm:0≤a*b∧a*b≤65535*65535:=⟨Int.mul_nonneg ha.1.1 ha.2.1,Int.mul_le_mul ha.1.2 ha.2.2 ha.2.1 (by omega)⟩
    rw [w64 (x:=a+b) (by omega) (by omega),w64 (x:=a-b) (by omega) (by omega),w64 (x:=a*b) (by omega) (by omega)]
    unfold wdo
    rw [if_pos ha]
    refine⟨fun h=>absurd h (by omega),fun _=>⟨fun h=> ?_,fun h=>⟨fun h1=> ?_,fun h1=>⟨fun h2=> ?_,fun h2=>⟨fun h3=> ?_,fun h3=>⟨fun h4=> ?_,fun h4=> ?_⟩⟩⟩⟩⟩⟩<;>(subst_vars;first | rfl | simp only [if_true,if_false, *])
  · refine⟨fun h=> ?_,fun h=>absurd h ?_⟩
    · unfold wdo;rw [if_neg ha]
    · exact ha
theorem w_k86 {p1:List Mono×Unit→Bool} {f1:List Mono×Unit→Bool×Unit} (hp1:∀a,Sh a→p1 (a,())=true) (hf1:∀a,Sh a→f1 (a,())=(bp (PolOK a),())) (a:List Mono) (ha:Sh a):
    F_k86 (std 0) p1 f1 (a,()) (fun y=>y=((pNum a).1,(pNum a).2,())):=by
  dsimp only [F_k86]
  simp (disch:=omega) only [RR,hp1 a ha,hf1 a ha]
  unfold pNum
  have z:Int.toNat 0=0:=rfl
  rw [z]
  refine⟨fun h=> ?_,fun h=>⟨fun h1=> ?_,fun h1=>⟨by omega,by omega,fun h2=> ?_,fun h2=>⟨by omega,by omega,?_⟩⟩⟩⟩
  · rw [if_neg (by simpa using h)]
  · rw [if_pos h,if_pos (by omega)]
  · rw [if_pos h,if_neg (by omega),if_neg (by omega)]
  · rw [if_pos h,if_neg (by omega),if_pos (by omega)]
theorem w_k108 (a:List Mono) (ha:Sh a):F_k108 (std 0) (a,()) (fun y=>y=(a,())):=by
  have hlen:=ha.1
  dsimp only [F_k108]
  simp (disch:=omega) only [RR]
  refine loop_intro (fun(y:List Mono×Int×List Mono×Unit)=>y.1=a∧y.2.2.1=a.take y.2.1.toNat∧0≤y.2.1∧y.2.1≤a.length) (fun y=>(a.length-y.2.1).toNat) ⟨rfl,by simp,by simp,by simp⟩ ?_
  rintro⟨(l:List Mono),(i:Int),(o:List Mono),⟨⟩⟩ hI
  dsimp only at hI ⊢
  obtain⟨rfl,rfl,h1,h2⟩:=hI
  have h3:=ha.at i.toNat
  have h4:=List.length_take_le' i.toNat l
  simp (disch:=omega) only [RR]
  simp only [List.length_nil,List.nil_append,List.length_cons]
  refine⟨fun h4=>⟨by omega,by omega,by omega,by omega,Or.inr (by omega),by omega,by omega,⟨take_snoc h1 h4 rfl,by omega,by omega⟩,by omega⟩,fun h4=>by rw [List.take_of_length_le (by omega)]⟩
end Go.TX.F
namespace Go.TX.F
open Go Go.AE Go.TX
def fitB (l:List Mono):Prop:=l.length≤12∧∀m∈l,m.atoms.length≤4
theorem w_k109 {p1:List Mono×Unit→Bool} {f1:List Mono×Unit→List Mono×Unit} (hp1:∀a,Sh a→p1 (a,())=true) (hf1:∀a,Sh a→f1 (a,())=(a,())) (a:List Mono) (ha:Sh a):
    F_k109 (std 0) p1 f1 (a,()) (fun y=>y=(bp (fitB a),if bp (fitB a)then a else [],())):=by
  have hlen:=ha.1
  dsimp only [F_k109]
  simp (disch:=omega) only [RR]
  refine⟨fun h=> ?_,fun h=> ?_⟩
  · rw [bp_f (fun h2=>by have:=h2.1;omega)];rfl
  refine loop_intro (fun(y:List Mono×Int×Unit)=>y.1=a∧0≤y.2.1∧y.2.1≤a.length∧All y.2.1 (fun i=>((a).getD (i).toNat default).atoms.length≤4)) (fun y=>(a.length-y.2.1).toNat) ⟨rfl,by simp,by simp,All.zero⟩ ?_
  rintro⟨(l:List Mono),(i:Int),⟨⟩⟩ hI
  dsimp only at hI ⊢
  obtain⟨rfl,h1,h2,h3⟩:=hI
  simp (disch:=omega) only [RR,hp1 l ha,hf1 l ha]
  refine⟨fun h4=>⟨by omega,by omega,fun h5=> ?_,fun h5=>⟨⟨by omega,by omega,h3.snoc (by omega)⟩,by omega⟩⟩,fun h4=> ?_⟩
  · rw [bp_f (fun h=>by have:=h.2 _ (getD_mem (d:=default) h1 h4);omega)];rfl
  · rw [bp_t (show fitB l from⟨by omega,all_mem (d:=default) (G:=fun m:Mono=>m.atoms.length≤4).1 (h3.le (by omega))⟩)];rfl
theorem w_k124 {p1:List Mono×Unit→Bool} {f1:List Mono×Unit→List Mono×Unit} (hp1:∀a,Sh a→p1 (a,())=true) (hf1:∀a,Sh a→f1 (a,())=(a,())) (a:Atom) (ha:ShA a):
    F_k124 (std 0) p1 f1 (a,()) (fun y=>y=(a.kind,a.k,a.x,a.y,())):=by
  dsimp only [F_k124]
  simp (disch:=omega) only [RR,hp1 a.x ha.1,hf1 a.x ha.1,hp1 a.y ha.2,hf1 a.y ha.2]
theorem w_k117 {p1:Atom×Unit→Bool} {f1:Atom×Unit→Int×Int×List Mono×List Mono×Unit} (hp1:∀a,ShA a→p1 (a,())=true) (hf1:∀a,ShA a→f1 (a,())=(a.kind,a.k,a.x,a.y,())) (a:List Atom) (ha:ShT a):
    F_k117 (std 0) p1 f1 (a,()) (fun y=>y=(a,())):=by
  have hlen:=ha.1
  dsimp only [F_k117]
  simp (disch:=omega) only [RR]
  refine loop_intro (fun(y:Int×List Atom×List Atom×Unit)=>y.2.1=a∧y.2.2.1=a.take y.1.toNat∧0≤y.1∧y.1≤a.length) (fun y=>(a.length-y.1).toNat) ⟨rfl,by simp,by simp,by simp⟩ ?_
  rintro⟨(i:Int),(l:List Atom),(o:List Atom),⟨⟩⟩ hI
  dsimp only at hI ⊢
  obtain⟨rfl,rfl,h1,h2⟩:=hI
  simp (disch:=omega) only [RR,hp1 _ (ha.at _),hf1 _ (ha.at _)]
  have h5:=List.length_take_le' i.toNat l
  refine⟨fun h4=>⟨by omega,by omega,?_,⟨take_snoc h1 h4 rfl,by omega,by omega⟩,by omega⟩,fun h4=>by rw [List.take_of_length_le (by omega)]⟩
  simp only [List.length_cons,List.length_nil];omega
theorem pUnder_le {p:List Mono} {n m:Int} (h:pUnder p n) (h2:n≤m):pUnder p m:=pUnder_iff.2 fun a ha k hk=>by have:=pUnder_iff.1 h a ha k hk;omega
theorem aDefd_le {a:Atom} {n m:Int} (h:aDefd a n) (h2:n≤m):aDefd a m:=by
  unfold aDefd at h ⊢
  split
  · rename_i h3;rw [if_pos h3]at h;exact⟨h.1,h.2.1,h.2.2.1,pUnder_le h.2.2.2.1 h2,pUnder_le h.2.2.2.2 h2⟩
  · rename_i h3;rw [if_neg h3]at h;exact h
theorem w_k120 {p1:Atom×Int×Unit→Bool} {f1:Atom×Int×Unit→Bool×Unit} (hp1:∀a n,ShA a→p1 (a,n,())=true) (hf1:∀a n,ShA a→f1 (a,n,())=(bp (aDefd a n),()))
    {p2:Atom×Atom×Unit→Bool} {f2:Atom×Atom×Unit→Bool×Unit} (hp2:∀a b,ShA a→p2 (a,b,())=true) (hf2:∀a b,ShA a→f2 (a,b,())=(aSame a b,()))
    {p3:Atom×Unit→Bool} {f3:Atom×Unit→Int×Int×List Mono×List Mono×Unit} (hp3:∀a,ShA a→p3 (a,())=true) (hf3:∀a,ShA a→f3 (a,())=(a.kind,a.k,a.x,a.y,()))
    (a:Atom) (t:List Atom) (ha:ShA a) (ht:ShT t) (hok:TabOK t):F_k120 (std 0) p1 f1 p2 f2 p3 f3 (a,t,()) (fun y=>y=((tPut t a).2,(tPut t a).1,())):=by
  have hlen:=ht.1
  dsimp only [F_k120]
  simp (disch:=omega) only [RR,hp1 _ _ ha,hf1 _ _ ha,bp_eq,bp_ne]
  have hsp:=tFind_spec t a
  refine⟨fun h=> ?_,fun h=> ?_⟩
  · have:tFind t a= -1:=by
      rcases hsp with⟨g,_⟩ | ⟨g1,g2,g3,_⟩
      · exact g
      · exfalso;apply h
        have:=(hok.1 _ g1 g2).1
        rw [←g3]at this;exact aDefd_le this (by omega)
    unfold tPut
    rw [this,if_neg (by omega),if_pos (Or.inl h)]
  refine loop_intro (fun(y:Int×List Atom×Atom×Unit)=>y.2.1=t∧y.2.2.1=a∧0≤y.1∧y.1≤t.length∧All y.1 (fun i=>¬a=t.getD i.toNat default)) (fun y=>(t.length-y.1).toNat) ⟨rfl,rfl,by simp,by simp,All.zero⟩ ?_
  rintro⟨(i:Int),(l:List Atom),(a':Atom),⟨⟩⟩ hI
  dsimp only at hI ⊢
  obtain⟨rfl,rfl,h1,h2,h3⟩:=hI
  simp (disch:=omega) only [RR,hp2 _ _ (ht.at _),hf2 _ _ (ht.at _),hp3 _ ha,hf3 _ ha]
  refine⟨fun h4=>⟨by omega,by omega,by omega,by omega,fun h5=> ?_,fun h5=>⟨⟨by omega,by omega,h3.snoc ?_⟩,by omega⟩⟩,fun h4=> ?_⟩
  · have e:=(aSame_iff.1 h5).symm
    have:tFind l a'=i:=hsp.uniq (Or.inr ⟨h1,h4,e,h3⟩)
    unfold tPut;rw [this,if_pos h1]
  · intro e;rw [aSame_iff.2 e.symm]at h5;cases h5
  · have:tFind l a'= -1:=hsp.uniq (Or.inl ⟨rfl,h3.le (by omega)⟩)
    unfold tPut;rw [this,if_neg (by omega)]
    refine⟨fun h5=> ?_,fun h5=>⟨?_,?_⟩⟩
    · rw [if_pos (Or.inr (by omega))]
    · simp only [List.length_cons,List.length_nil];omega
    · rw [if_neg (by rintro(g | g);exact g h;omega),List.length_append]
      rw [w64 (by simp only [List.length_cons,List.length_nil];omega) (by simp only [List.length_cons,List.length_nil];omega)]
      simp only [List.length_cons,List.length_nil]
      rw [show(((l.length+(0+1):Nat):Int)-1)=l.length by omega]
def halfF (op n:Int) (y:List Mono):List Mono×Bool:=if op=4∧n=0 then([],true)else if(op=4∧n=65535)∨(op=5∧n=0)then(y,true)else([],false)
theorem w_k119 {p1:List Mono×Unit→Bool} {f1:List Mono×Unit→List Mono×Unit} (hp1:∀a,Sh a→p1 (a,())=true) (hf1:∀a,Sh a→f1 (a,())=(a,())) (op n:Int) (y:List Mono) (hy:Sh y):
    F_k119 (std 0) p1 f1 (op,n,y,()) (fun z=>z=((halfF op n y).2,(halfF op n y).1,())):=by
  dsimp only [F_k119]
  simp (disch:=omega) only [RR,hp1 y hy,hf1 y hy]
  unfold halfF
  by_cases c1:op=4<;>by_cases c2:n=0<;>by_cases c3:n=65535<;>by_cases c4:op=5<;>simp [c1,c2,c3,c4]<;>omega
theorem bitF_eq (op:Int) (x y:List Mono):bitF op x y=if(pNum x).2&& (pNum y).2 then(pConst (wdo op (pNum x).1 (pNum y).1),true)
    else if pOrd x y=0 then(if op=4 then(x,true)else([],true))else if(pNum x).2 then halfF op (pNum x).1 y else if(pNum y).2 then halfF op (pNum y).1 x else([],false):=by
  unfold bitF halfF
  by_cases c1:pOrd x y=0<;>by_cases c2:op=4<;>simp [c1,c2]
theorem w_k116 {p1:List Mono×List Mono×Unit→Bool} {f1:List Mono×List Mono×Unit→Int×Unit} (hp1:∀a b,Sh a→p1 (a,b,())=true) (hf1:∀a b,Sh a→f1 (a,b,())=(pOrd a b,()))
    {p2:List Mono×Unit→Bool} {f2:List Mono×Unit→List Mono×Unit} (hp2:∀a,Sh a→p2 (a,())=true) (hf2:∀a,Sh a→f2 (a,())=(a,()))
    {p3:Int×Int×Int×Unit→Bool} {f3:Int×Int×Int×Unit→Int×Unit} (hp3:∀op a b,p3 (op,a,b,())=true) (hf3:∀op a b,f3 (op,a,b,())=(wdo op a b,()))
    {p4:Int×Unit→Bool} {f4:Int×Unit→List Mono×Unit} (hp4:∀n,p4 (n,())=true) (hf4:∀n,f4 (n,())=(pConst n,()))
    {p7:List Mono×Unit→Bool} {f7:List Mono×Unit→Int×Bool×Unit} (hp7:∀a,Sh a→p7 (a,())=true) (hf7:∀a,Sh a→f7 (a,())=((pNum a).1,(pNum a).2,()))
    {p8:Int×Int×List Mono×Unit→Bool} {f8:Int×Int×List Mono×Unit→Bool×List Mono×Unit} (hp8:∀op n y,Sh y→p8 (op,n,y,())=true) (hf8:∀op n y,Sh y→f8 (op,n,y,())=((halfF op n y).2,(halfF op n y).1,()))
    (op:Int) (x y:List Mono) (hx:Sh x) (hy:Sh y):F_k116 (std 0) p1 f1 p2 f2 p3 f3 p4 f4 p7 f7 p8 f8 (op,x,y,()) (fun z=>z=((bitF op x y).2,(bitF op x y).1,())):=by
  dsimp only [F_k116]
  simp (disch:=omega) only [RR,hp1 x y hx,hf1 x y hx,hp2 x hx,hf2 x hx,hp3,hf3,hp4,hf4,hp7 x hx,hf7 x hx,hp7 y hy,hf7 y hy,hp8 op _ y hy,hf8 op _ y hy,hp8 op _ x hx,hf8 op _ x hx]
  rw [bitF_eq]
  generalize pNum x=nx
  generalize pNum y=ny
  obtain⟨n,bn⟩:=nx
  obtain⟨m,bm⟩:=ny
  dsimp only
  by_cases e:pOrd x y=0<;>by_cases o4:op=4<;>cases bn<;>cases bm<;>simp [e,o4]
noncomputable def ringF (op:Int) (x y:List Mono):List Mono×Bool:=
  if op=1 then((addF x y).2,(addF x y).1)else if op=2 then((addF x (scaleF y 65535)).2,(addF x (scaleF y 65535)).1)else if op=3 then((mulF x y).2,(mulF x y).1)else([],false)
theorem w_k121
    {p5:List Mono×List Mono×Unit→Bool} {f5:List Mono×List Mono×Unit→Bool×List Mono×Unit} (hp5:∀a b,Sh a→Sh b→p5 (a,b,())=true) (hf5:∀a b,Sh a→Sh b→f5 (a,b,())=((mulF a b).1,(mulF a b).2,()))
    {p4:List Mono×List Mono×Unit→Bool} {f4:List Mono×List Mono×Unit→Bool×List Mono×Unit} (hp4:∀a b,Sh a→Sh b→p4 (a,b,())=true) (hf4:∀a b,Sh a→Sh b→f4 (a,b,())=((addF a b).1,(addF a b).2,()))
    {p6:List Mono×Int×Unit→Bool} {f6:List Mono×Int×Unit→List Mono×Unit} (hp6:∀a n,Sh a→p6 (a,n,())=true) (hf6:∀a n,Sh a→f6 (a,n,())=(scaleF a n,()))
    (op:Int) (x y:List Mono) (hx:Sh x) (hy:Sh y):F_k121 (std 0) p5 f5 p4 f4 p6 f6 (op,x,y,()) (fun z=>z=((ringF op x y).2,(ringF op x y).1,())):=by
  dsimp only [F_k121]
  simp (disch:=omega) only [RR,hp4 x y hx hy,hf4 x y hx hy,hp4 x _ hx (scaleF_sh y 65535),hf4 x _ hx (scaleF_sh y 65535),hp5 x y hx hy,hf5 x y hx hy,hp6 y _ hy,hf6 y _ hy]
  unfold ringF
  refine⟨fun h=>by rw [if_pos h],fun h=>⟨fun h1=>by rw [if_neg h,if_pos h1],fun h1=>⟨fun h2=>by rw [if_neg h,if_neg h1,if_pos h2],fun h2=>by rw [if_neg h,if_neg h1,if_neg h2]⟩⟩⟩
theorem w_k118 {p1:Int×Unit→Bool} {f1:Int×Unit→List Mono×Unit} (hp1:∀n,p1 (n,())=true) (hf1:∀n,f1 (n,())=(pAtom n,()))
    {p2:List Mono×List Mono×Unit→Bool} {f2:List Mono×List Mono×Unit→Int×Unit} (hp2:∀a b,Sh a→p2 (a,b,())=true) (hf2:∀a b,Sh a→f2 (a,b,())=(pOrd a b,()))
    {p3:Int×List Mono×List Mono×Unit→Bool} {f3:Int×List Mono×List Mono×Unit→Bool×List Mono×Unit} (hp3:∀op x y,Sh x→Sh y→p3 (op,x,y,())=true) (hf3:∀op x y,Sh x→Sh y→f3 (op,x,y,())=((ringF op x y).2,(ringF op x y).1,()))
    {p4:Int×List Mono×List Mono×Unit→Bool} {f4:Int×List Mono×List Mono×Unit→Bool×List Mono×Unit} (hp4:∀op x y,Sh x→Sh y→p4 (op,x,y,())=true) (hf4:∀op x y,Sh x→Sh y→f4 (op,x,y,())=((bitF op x y).2,(bitF op x y).1,()))
    {p5:Atom×List Atom×Unit→Bool} {f5:Atom×List Atom×Unit→Int×List Atom×Unit} (hp5:∀a t,ShA a→ShT t→TabOK t→p5 (a,t,())=true) (hf5:∀a t,ShA a→ShT t→TabOK t→f5 (a,t,())=((tPut t a).2,(tPut t a).1,()))
    (op:Int) (x y:List Mono) (t:List Atom) (hop:1≤op∧op≤5) (hx:Sh x) (hy:Sh y) (ht:ShT t) (hok:TabOK t):F_k118 (std 0) p1 f1 p2 f2 p3 f3 p4 f4 p5 f5 (op,x,y,t,()) (fun z=>z=((tDo t op x y).1,(tDo t op x y).2,())):=by
  have s1:ShA ⟨4,op,x,y⟩:=⟨hx,hy⟩
  have s2:ShA ⟨4,op,y,x⟩:=⟨hy,hx⟩
  dsimp only [F_k118]
  simp (disch:=omega) only [RR,hp1,hf1,hp2 x y hx,hf2 x y hx,hp3 op x y hx hy,hf3 op x y hx hy,hp4 op x y hx hy,hf4 op x y hx hy,hp5 _ _ s1 ht hok,hf5 _ _ s1 ht hok,hp5 _ _ s2 ht hok,hf5 _ _ s2 ht hok]
  have e1:(op=4∨op=5)→bitF op x y=simpF op x y:=fun h=>by unfold simpF;rw [if_neg (by omega),if_neg (by omega),if_neg (by omega)]
  have e2:¬(op=4∨op=5)→ringF op x y=simpF op x y:=fun h=>by
    unfold simpF ringF
    by_cases c1:op=1
    · rw [if_pos c1,if_pos c1]
    · rw [if_neg c1,if_neg c1]
      by_cases c2:op=2
      · rw [if_pos c2,if_pos c2]
      · rw [if_neg c2,if_neg c2,if_pos (by omega),if_pos (by omega)]
  unfold tDo
  by_cases c:op=4∨op=5
  · rw [e1 c]
    generalize tPut t ⟨4,op,y,x⟩=r1
    generalize tPut t ⟨4,op,x,y⟩=r2
    generalize pOrd x y=o
    generalize simpF op x y=s
    obtain⟨p,b⟩:=s
    have c':¬op=2:=by omega
    cases b<;>by_cases c2:0<o<;>by_cases c3:r1.2<0<;>by_cases c4:r2.2<0<;>simp [c,c',c2,c3,c4]<;>omega
  · rw [e2 c]
    generalize tPut t ⟨4,op,y,x⟩=r1
    generalize tPut t ⟨4,op,x,y⟩=r2
    generalize pOrd x y=o
    generalize simpF op x y=s
    obtain⟨p,b⟩:=s
    obtain⟨n4,n5⟩:=not_or.1 c
    cases b<;>by_cases c1:op=2<;>by_cases c2:0<o<;>by_cases c3:r1.2<0<;>by_cases c4:r2.2<0<;>simp [n4,n5,c1,c2,c3,c4]
theorem tabDo_eq {t:List Atom} {op:Int} {x y:List Mono}:(bp (TabOK t)&&inB op 1 5&&bp (PolOK x∧PolOK y∧pUnder x t.length∧pUnder y t.length))=true→tabDo t op x y=tDo t op x y:=fun h=>by
  simp only [Bool.and_eq_true,bp_eq,inB_t,and_assoc]at h
  unfold tabDo;rw [if_pos (by simpa only [and_assoc]using h)]
theorem tabDo_nil {t:List Atom} {op:Int} {x y:List Mono}:¬(bp (TabOK t)&&inB op 1 5&&bp (PolOK x∧PolOK y∧pUnder x t.length∧pUnder y t.length))=true→tabDo t op x y=([],[]):=fun h=>by
  simp only [Bool.and_eq_true,bp_eq,inB_t,and_assoc]at h
  unfold tabDo;rw [if_neg (by simpa only [and_assoc]using h)]
theorem w_k92 {p1:Int×Int×Int×Unit→Bool} {f1:Int×Int×Int×Unit→Bool×Unit} (hp1:∀a b c,p1 (a,b,c,())=true) (hf1:∀a b c,f1 (a,b,c,())=(inB a b c,()))
    {p2:List Atom×Unit→Bool} {f2:List Atom×Unit→Bool×Unit} (hp2:∀a,ShT a→p2 (a,())=true) (hf2:∀a,ShT a→f2 (a,())=(bp (TabOK a),()))
    {p3:List Mono×List Mono×Int×Unit→Bool} {f3:List Mono×List Mono×Int×Unit→Bool×Unit} (hp3:∀x y n,Sh x→Sh y→p3 (x,y,n,())=true) (hf3:∀x y n,Sh x→Sh y→f3 (x,y,n,())=(bp (PolOK x∧PolOK y∧pUnder x n∧pUnder y n),()))
    {p4:Int×List Mono×List Mono×List Atom×Unit→Bool} {f4:Int×List Mono×List Mono×List Atom×Unit→List Atom×List Mono×Unit} (hp4:∀op x y t,1≤op∧op≤5→Sh x→Sh y→ShT t→TabOK t→p4 (op,x,y,t,())=true) (hf4:∀op x y t,1≤op∧op≤5→Sh x→Sh y→ShT t→TabOK t→f4 (op,x,y,t,())=((tDo t op x y).1,(tDo t op x y).2,()))
    {p5:List Atom×Unit→Bool} {f5:List Atom×Unit→List Atom×Unit} (hp5:∀a,ShT a→p5 (a,())=true) (hf5:∀a,ShT a→f5 (a,())=(a,()))
    (t:List Atom) (op:Int) (x y:List Mono) (ht:ShT t) (hx:Sh x) (hy:Sh y):F_k92 (std 0) p1 f1 p2 f2 p3 f3 p4 f4 p5 f5 (t,op,x,y,()) (fun z=>z=((tabDo t op x y).1,(tabDo t op x y).2,())):=by
  dsimp only [F_k92]
  simp (disch:=omega) only [RR,hp1,hf1,hp2 t ht,hf2 t ht,hp3 x y _ hx hy,hf3 x y _ hx hy,hp5 t ht,hf5 t ht]
  refine⟨fun h=> ?_,fun h=> ?_⟩
  · rw [tabDo_nil]
    intro g
    simp only [Bool.and_eq_true]at g
    rcases h with(h | h) | h
    · rw [g.1.1]at h;cases h
    · rw [g.1.2]at h;cases h
    · rw [g.2]at h;cases h
  · rw [tabDo_eq (by rw [h.1.1,h.1.2,h.2];rfl)]
    have h1:=bp_eq.1 h.1.1
    have h2:=inB_t.1 h.1.2
    exact⟨hp4 _ _ _ _ h2 hx hy ht h1,by rw [hf4 _ _ _ _ h2 hx hy ht h1]⟩
theorem w_k94 {p2:List Atom×Unit→Bool} {f2:List Atom×Unit→Bool×Unit} (hp2:∀a,ShT a→p2 (a,())=true) (hf2:∀a,ShT a→f2 (a,())=(bp (TabOK a),()))
    {p3:Atom×List Atom×Unit→Bool} {f3:Atom×List Atom×Unit→Int×List Atom×Unit} (hp3:∀a t,ShA a→ShT t→TabOK t→p3 (a,t,())=true) (hf3:∀a t,ShA a→ShT t→TabOK t→f3 (a,t,())=((tPut t a).2,(tPut t a).1,()))
    {p5:List Atom×Unit→Bool} {f5:List Atom×Unit→List Atom×Unit} (hp5:∀a,ShT a→p5 (a,())=true) (hf5:∀a,ShT a→f5 (a,())=(a,()))
    (t:List Atom) (a:Atom) (ht:ShT t) (ha:ShA a):F_k94 (std 0) p2 f2 p3 f3 p5 f5 (t,a,()) (fun z=>z=if bp (TabOK t)then((tPut t a).2,(tPut t a).1,())else(-1,[],())):=by
  dsimp only [F_k94]
  simp (disch:=omega) only [RR,hp2 t ht,hf2 t ht,hp5 t ht,hf5 t ht]
  refine⟨fun h=> ?_,fun h=> ?_⟩
  · rw [if_neg (by rw [h];simp)]
  · have h1:=bp_eq.1 h
    rw [if_pos h,hf3 _ _ ha ht h1]
    exact⟨hp3 _ _ ha ht h1,rfl⟩
end Go.TX.F
namespace Go.TX.F
open Go Go.AE Go.TX
structure Plus (l:List Mono) (m:Mono) (o:List Mono):Prop where
  nf:Nf o
  cf:∀k,cf o k=F.cf (l++ [m]) k%65536
  len:o.length≤l.length+1
theorem w_k113 {p1:List Int×List Int×Unit→Bool} {f1:List Int×List Int×Unit→Int×Unit} (hp1:∀a b,a.length<1000000000→p1 (a,b,())=true) (hf1:∀a b,a.length<1000000000→f1 (a,b,())=(aOrd a b,()))
    {p2:Int×Unit→Bool} {f2:Int×Unit→Int×Unit} (hp2:∀a,p2 (a,())=true) (hf2:∀a,f2 (a,())=(a%65536,()))
    (l:List Mono) (m:Mono) (hl:l.length<1000000000) (hn:Nf l) (hm:1≤m.coef∧m.coef≤65535) (hma:m.atoms.length<1000000000):F_k113 (std 0) p1 f1 p2 f2 (l,m,()) (fun y=>Plus l m y.1):=by
  dsimp only [F_k113]
  refine loop_intro (fun(y:List Mono×Bool×Int×Mono×List Mono×Unit)=>y.1=l∧y.2.2.2.1=m∧0≤y.2.2.1∧y.2.2.1≤l.length∧
      ((y.2.1=false∧y.2.2.2.2.1=l.take y.2.2.1.toNat∧∀x∈l.take y.2.2.1.toNat,lt x m)∨
       (y.2.1=true∧Nf y.2.2.2.2.1∧(∀k,cf y.2.2.2.2.1 k=cf (l.take y.2.2.1.toNat++ [m]) k%65536)∧(y.2.2.2.2.1.length:Int)≤y.2.2.1+1∧(y.2.2.1<l.length→lt m ((l).getD (y.2.2.1).toNat default)∧∀x∈y.2.2.2.2.1,lt x ((l).getD (y.2.2.1).toNat default))))) (fun y=>(l.length-y.2.2.1).toNat)
    ⟨rfl,rfl,by simp,by simp,Or.inl ⟨rfl,by simp,by simp⟩⟩ ?_
  rintro⟨(l':List Mono),(dn:Bool),(i:Int),(m':Mono),(o:List Mono),⟨⟩⟩ hI
  dsimp only at hI ⊢
  obtain⟨rfl,rfl,h1,h2,h3⟩:=hI
  simp (disch:=omega) only [RR,hp1 _ _ hma,hf1 _ _ hma,hp2,hf2]
  have hss:=hn.ss
  have nx:i+1<l'.length→lt ((l').getD (i).toNat default) ((l').getD (i+1).toNat default):=fun h=>by
    have:=(pairwise_adj (d:=default) (R:=lt) lt_trans').1 hss (i+1) (by omega) h
    rw [show i+1-1=i by omega]at this;exact this
  have tk:i<l'.length→l'.take (i+1).toNat=l'.take i.toNat++ [((l').getD (i).toNat default)]:=fun h=>(take_snoc h1 h rfl).symm
  have bf:i<l'.length→∀x∈l'.take i.toNat,lt x ((l').getD (i).toNat default):=fun h x hx=>by
    have:=hss
    rw [←List.take_append_drop i.toNat l',List.pairwise_append]at this
    refine this.2.2 x hx _ ?_
    rw [getD_lt (by omega),List.drop_eq_getElem_cons (show i.toNat<l'.length by omega)];exact List.mem_cons_self
  have lt0:=List.length_take_le' i.toNat l'
  have lt1:=List.length_take_le i.toNat l'
  have co:i<l'.length→1≤((l').getD (i).toNat default).coef∧((l').getD (i).toNat default).coef≤65535:=fun h=>hn.co _ (getD_mem h1 h)
  have ntk:Nf (l'.take i.toNat):=⟨List.Pairwise.sublist (List.take_sublist _ _) hss,fun x hx=>hn.co x (List.mem_of_mem_take hx)⟩
  have nadd:∀ {a:List Mono} {x:Mono},Nf a→(∀y∈a,lt y x)→1≤x.coef∧x.coef≤65535→Nf (a++ [x]):=fun {a x} g1 g2 g3=>⟨by
    rw [List.pairwise_append]
    exact⟨g1.ss,List.pairwise_singleton _ _,fun y hy z hz=>by rw [List.mem_singleton]at hz;subst hz;exact g2 y hy⟩,fun y hy=>by
    rw [List.mem_append,List.mem_singleton]at hy
    rcases hy with hy | rfl
    · exact g1.co y hy
    · exact g3⟩
  have l1:∀(x:List Mono) (y:Mono),(x++ [y]).length=x.length+1:=fun x y=>by rw [List.length_append];rfl
  have fin:∀o,i=l'.length→Nf o→(∀k,cf o k=cf (l'.take i.toNat++ [m']) k%65536)→(o.length:Int)≤i+1→Plus l' m' o:=fun o e g1 g2 g3=>⟨g1,fun k=>by rw [g2 k,List.take_of_length_le (by omega)],by omega⟩
  by_cases hi:i<l'.length
  · have nx:=nx
    have tk:=tk hi
    have bf:=bf hi
    have co:=co hi
    rw [tk]
    have hv:∀ {P:Prop},P→(∀x,x=((l').getD (i).toNat default)→P)→P:=fun h _=>h
    generalize ((l').getD (i).toNat default)=v at nx tk bf co h3 ⊢
    have cfs:∀k,cf (l'.take i.toNat++ [v]++ [m']) k=cf (l'.take i.toNat) k+(if v.atoms=k then v.coef else 0)+(if m'.atoms=k then m'.coef else 0):=fun k=>by
      rw [cf_append,cf_append,cf_cons,cf_cons,cf_nil];simp only [Int.add_zero]
    have cfm:∀k,cf (l'.take i.toNat++ [m']) k=cf (l'.take i.toNat) k+(if m'.atoms=k then m'.coef else 0):=fun k=>by
      rw [cf_append,cf_cons,cf_nil,Int.add_zero]
    rcases h3 with⟨rfl,rfl,h4⟩ | ⟨rfl,h4,h5,h6,h7⟩
    ·
      simp (disch:=omega) only [RR,decide_true,Bool.not_false,Bool.true_and,decide_eq_true_eq,hi]
      by_cases c1:aOrd m'.atoms v.atoms<0
      · have c2:¬aOrd m'.atoms v.atoms=0:=by omega
        simp (disch:=omega) only [RR,c1,c2]
        have n1:=nadd ntk h4 hm
        have b2:∀x∈l'.take i.toNat++ [m'],lt x v:=fun x hx=>by
          rw [List.mem_append,List.mem_singleton]at hx
          rcases hx with hx | rfl
          · exact bf x hx
          · exact c1
        have n2:=nadd n1 b2 co
        refine⟨by omega,by rw [show([m']:List Mono).length=1 from rfl];omega,by omega,by rw [l1,show([v]:List Mono).length=1 from rfl];omega,⟨by omega,by omega,Or.inr ⟨n2,fun k=> ?_,by rw [l1,l1];omega,fun h=>⟨lt_trans' c1 (nx h),fun x hx=> ?_⟩⟩⟩,by omega⟩
        · have e1:=cfs k
          have e2:=n2.bnd k
          have e3:cf (l'.take i.toNat++ [m']++ [v]) k=cf (l'.take i.toNat++ [v]++ [m']) k:=by rw [e1,cf_append,cfm,cf_cons,cf_nil];omega
          rw [←e3];omega
        · rw [List.mem_append,List.mem_singleton]at hx
          rcases hx with hx | rfl
          · exact lt_trans' (b2 x hx) (nx h)
          · exact nx h
      · by_cases c2:aOrd m'.atoms v.atoms=0
        · have ev:=aOrd_zero.1 c2
          simp (disch:=omega) only [RR,c1,c2,List.append_nil]
          have zz:cf (l'.take i.toNat) v.atoms=0:=cf_zero fun x hx=>(bf x hx).ne
          refine⟨by omega,fun h=>absurd h (by omega),fun _=>⟨by omega,fun c3=> ?_,fun c3=> ?_⟩⟩
          · have n2:=nadd (x:=⟨(v.coef+m'.coef)%65536,v.atoms⟩) ntk bf ⟨by dsimp only;omega,by dsimp only;omega⟩
            refine⟨by omega,by simp only [List.length_cons,List.length_nil];omega,⟨by omega,by omega,Or.inr ⟨n2,fun k=> ?_,by rw [l1];omega,fun h=>⟨?_,fun x hx=> ?_⟩⟩⟩,by omega⟩
            · have e1:=cfs k
              have e2:=n2.bnd k
              rw [e1]
              rw [cf_append,cf_cons,cf_nil]at e2 ⊢
              dsimp only at e2 ⊢
              by_cases ek:v.atoms=k
              · rw [if_pos ek]at e2 ⊢
                rw [if_pos ek,if_pos (ev.trans ek)]
                rw [←ek,zz]at e2 ⊢;omega
              · rw [if_neg ek]at e2 ⊢
                rw [if_neg ek,if_neg (fun e=>ek (ev.symm.trans e))];omega
            · have:=nx h;unfold lt at this ⊢;rw [ev];exact this
            · rw [List.mem_append,List.mem_singleton]at hx
              rcases hx with hx | rfl
              · exact lt_trans' (bf x hx) (nx h)
              · exact nx h
          · refine⟨⟨by omega,by omega,Or.inr ⟨ntk,fun k=> ?_,by omega,fun h=>⟨?_,fun x hx=>lt_trans' (bf x hx) (nx h)⟩⟩⟩,by omega⟩
            · have e1:=cfs k
              have e2:=ntk.bnd k
              rw [e1]
              by_cases ek:v.atoms=k
              · rw [if_pos ek,if_pos (ev.trans ek),←ek,zz];omega
              · rw [if_neg ek,if_neg (fun e=>ek (ev.symm.trans e))];omega
            · have:=nx h;unfold lt at this ⊢;rw [ev];exact this
        · simp (disch:=omega) only [RR,c1,c2]
          refine⟨by omega,by omega,by simp only [List.length_cons,List.length_nil];omega,⟨by omega,by omega,Or.inl (fun x hx=> ?_)⟩,by omega⟩
          rw [List.mem_append,List.mem_singleton]at hx
          rcases hx with hx | rfl
          · exact h4 x hx
          · unfold lt;rw [aOrd_flip];omega
    · have c3:=(h7 hi).1
      have b2:=(h7 hi).2
      have c1:aOrd m'.atoms v.atoms<0:=c3
      have c2:¬aOrd m'.atoms v.atoms=0:=by omega
      simp (disch:=omega) only [RR,decide_true,Bool.not_true,Bool.false_and,decide_eq_true_eq,hi,c2]
      have n2:=nadd h4 b2 co
      refine⟨by omega,fun h=>h.1.elim,by omega,by simp only [List.length_cons,List.length_nil];omega,⟨by omega,by omega,Or.inr ⟨n2,fun k=> ?_,by rw [l1];omega,fun h=>⟨lt_trans' c3 (nx h),fun x hx=> ?_⟩⟩⟩,by omega⟩
      · have e1:=cfs k
        have e2:=n2.bnd k
        have e3:=h5 k
        rw [cfm]at e3
        rw [cf_append,cf_cons,cf_nil]at e2 ⊢
        rw [e1]
        by_cases ek:v.atoms=k
        · rw [if_pos ek]at e2 ⊢;omega
        · rw [if_neg ek]at e2 ⊢;omega
      · rw [List.mem_append,List.mem_singleton]at hx
        rcases hx with hx | rfl
        · exact lt_trans' (b2 x hx) (nx h)
        · exact nx h
  · have ei:i=l'.length:=by omega
    rcases h3 with⟨rfl,rfl,h4⟩ | ⟨rfl,h4,h5,h6,h7⟩
    · simp (disch:=omega) only [RR,decide_true,Bool.not_false,Bool.true_and,decide_eq_true_eq,hi]
      have n1:=nadd ntk h4 hm
      refine⟨by simp only [List.length_cons,List.length_nil];omega,fin _ ei n1 (fun k=> ?_) (by rw [l1];omega)⟩
      have e2:=n1.bnd k
      omega
    · simp (disch:=omega) only [RR,decide_true,Bool.not_true,Bool.false_and,decide_eq_true_eq,hi]
      exact fin _ ei h4 h5 h6
end Go.TX.F
namespace Go.TX.F
open Go Go.AE Go.TX
theorem sortI_uniq {a o:List Int} (h:o.Pairwise (· ≤ ·)) (hp:o.Perm a):o=sortI a:=by
  refine List.Perm.eq_of_pairwise (le:=fun x y:Int=>x≤y) (fun a b _ _ h1 h2=>Int.le_antisymm h1 h2) h ?_ (hp.trans (List.mergeSort_perm a _).symm)
  have:=List.pairwise_mergeSort (le:=fun x y:Int=>decide (x≤y)) (fun a b c h1 h2=>by simp at*;omega) (fun a b=>by simp;omega) a
  exact this.imp (fun h=>by simpa using h)
theorem w_k110 (a b:List Int) (ha:a.length<100000000) (hb:b.length<100000000) (sa:a.Pairwise (· ≤ ·)) (sb:b.Pairwise (· ≤ ·)):
    F_k110 (std 0) (a,b,()) (fun y=>y=(sortI (a++b),())):=by
  dsimp only [F_k110]
  have sa':=(pairwise_adj (d:=default) (R:=fun a b:Int=>a≤b) (fun h1 h2=>Int.le_trans h1 h2)).1 sa
  have sb':=(pairwise_adj (d:=default) (R:=fun a b:Int=>a≤b) (fun h1 h2=>Int.le_trans h1 h2)).1 sb
  let I:List Int→Int→Int→Prop:=fun o i k=>0≤i∧i≤a.length∧0≤k∧k≤b.length∧o.Pairwise (· ≤ ·)∧o.Perm (a.take i.toNat++b.take k.toNat)∧(i<a.length→∀x∈o,x≤((a).getD (i).toNat default))∧(k<b.length→∀x∈o,x≤((b).getD (k).toNat default))
  have sn:∀ {o:List Int} {y:Int},o.Pairwise (· ≤ ·)→(∀x∈o,x≤y)→(o++ [y]).Pairwise (· ≤ ·):=fun {o y} g1 g2=>by
    rw [List.pairwise_append]
    exact⟨g1,List.pairwise_singleton _ _,fun x hx z hz=>by rw [List.mem_singleton]at hz;subst hz;exact g2 x hx⟩
  have il:∀o i k,I o i k→(o.length:Int)=i+k:=fun o i k ⟨h1,h2,h3,h4,_,h5,_⟩=>by
    have:=h5.length_eq;rw [List.length_append,List.length_take,List.length_take]at this;omega
  have stA:∀o i k,I o i k→i<a.length→(k<b.length→((a).getD (i).toNat default)≤((b).getD (k).toNat default))→I (o++ [((a).getD (i).toNat default)]) (i+1) k:=by
    rintro o i k ⟨h1,h2,h3,h4,h5,h6,h7,h8⟩ hi hk
    refine⟨by omega,by omega,h3,h4,sn h5 (h7 hi),?_,fun g x hx=> ?_,fun g x hx=> ?_⟩
    · rw [←take_snoc (d:=default) h1 hi rfl]
      refine(h6.append_right _).trans ?_
      rw [List.append_assoc,List.append_assoc]
      exact(List.perm_append_comm).append_left _
    · have:=sa' (i+1) (by omega) g
      rw [show i+1-1=i by omega]at this
      rw [List.mem_append,List.mem_singleton]at hx
      rcases hx with hx | rfl
      · exact Int.le_trans (h7 hi x hx) this
      · exact this
    · rw [List.mem_append,List.mem_singleton]at hx
      rcases hx with hx | rfl
      · exact h8 g x hx
      · exact hk g
  have stB:∀o i k,I o i k→k<b.length→(i<a.length→((b).getD (k).toNat default)≤((a).getD (i).toNat default))→I (o++ [((b).getD (k).toNat default)]) i (k+1):=by
    rintro o i k ⟨h1,h2,h3,h4,h5,h6,h7,h8⟩ hk hi
    refine⟨h1,h2,by omega,by omega,sn h5 (h8 hk),?_,fun g x hx=> ?_,fun g x hx=> ?_⟩
    · rw [←take_snoc (d:=default) h3 hk rfl,←List.append_assoc]
      exact h6.append_right _
    · rw [List.mem_append,List.mem_singleton]at hx
      rcases hx with hx | rfl
      · exact h7 g x hx
      · exact hi g
    · have:=sb' (k+1) (by omega) g
      rw [show k+1-1=k by omega]at this
      rw [List.mem_append,List.mem_singleton]at hx
      rcases hx with hx | rfl
      · exact Int.le_trans (h8 hk x hx) this
      · exact this
  refine loop_intro (fun(y:List Int×List Int×Int×Int×List Int×Unit)=>y.1=a∧y.2.1=b∧I y.2.2.2.2.1 y.2.2.1 y.2.2.2.1) (fun y=>(b.length-y.2.2.2.1).toNat)
    ⟨rfl,rfl,by simp,by simp,by simp,by simp,List.Pairwise.nil,by simp,fun _ x hx=>absurd hx (by simp),fun _ x hx=>absurd hx (by simp)⟩ ?_
  rintro⟨(a':List Int),(b':List Int),(i:Int),(k:Int),(o:List Int),⟨⟩⟩ hI
  dsimp only at hI ⊢
  obtain⟨rfl,rfl,hI⟩:=hI
  have hb1:=hI.1
  have hb2:=hI.2.1
  have hb3:=hI.2.2.1
  have hb4:=hI.2.2.2.1
  have hol:=il _ _ _ hI
  simp (disch:=omega) only [RR]
  refine⟨fun h9=> ?_,fun h9=> ?_⟩
  · refine loop_intro (fun(y:List Int×List Int×Int×Int×List Int×Unit)=>y.1=a'∧y.2.1=b'∧y.2.2.2.1=k∧I y.2.2.2.2.1 y.2.2.1 k) (fun y=>(a'.length-y.2.2.1).toNat) ⟨rfl,rfl,rfl,hI⟩ ?_
    rintro⟨(a2:List Int),(b2:List Int),(i2:Int),(k2:Int),(o2:List Int),⟨⟩⟩ hI2
    dsimp only at hI2 ⊢
    obtain⟨rfl,rfl,rfl,hI2⟩:=hI2
    have hc1:=hI2.1
    have hc2:=hI2.2.1
    have hol:=il _ _ _ hI2
    simp (disch:=omega) only [RR]
    refine⟨by omega,by omega,by omega,by omega,fun⟨g1,g2⟩=>⟨by omega,g1,by simp only [List.length_cons,List.length_nil];omega,stA _ _ _ hI2 g1 (fun _=>g2),by omega⟩,fun g=>⟨by omega,h9,by simp only [List.length_cons,List.length_nil];omega,stB _ _ _ hI2 h9 (fun g1=> ?_),by omega⟩⟩
    rw [decide_eq_true g1,Bool.true_and,decide_eq_false_iff_not]at g;omega
  · have e1:List.drop i.toNat (List.take ((a'.length:Int)).toNat a')=a'.drop i.toNat:=by rw [List.take_of_length_le (by omega)]
    rw [e1]
    refine⟨by omega,by omega,by omega,by rw [List.length_drop];omega,?_⟩
    obtain⟨h1,h2,h3,h4,h5,h6,h7,h8⟩:=hI
    rw [sortI_uniq (a:=a'++b') (o:=o++a'.drop i.toNat)]
    · rw [List.pairwise_append]
      refine⟨h5,List.Pairwise.sublist (List.drop_sublist _ _) sa,fun x hx y hy=> ?_⟩
      by_cases hi:i<a'.length
      · refine Int.le_trans (h7 hi x hx) ?_
        rw [List.drop_eq_getElem_cons (show i.toNat<a'.length by omega)]at hy
        have hd:=List.Pairwise.sublist (List.drop_sublist i.toNat _) sa
        rw [List.drop_eq_getElem_cons (show i.toNat<a'.length by omega)]at hd
        rw [getD_lt (show i.toNat<a'.length by omega)]
        rcases List.mem_cons.1 hy with rfl | hy
        · exact Int.le_refl _
        · exact List.rel_of_pairwise_cons hd hy
      · rw [List.drop_eq_nil_of_le (by omega)]at hy;exact absurd hy (by simp)
    · rw [List.take_of_length_le (show b'.length≤k.toNat by omega)]at h6
      refine(h6.append_right _).trans ?_
      rw [List.append_assoc]
      refine((List.perm_append_comm).append_left _).trans ?_
      rw [←List.append_assoc,List.take_append_drop]
end Go.TX.F
namespace Go.TX.F
open Go Go.AE Go.TX
theorem PolOK.nf {p:List Mono} (h:PolOK p):Nf p:=(polOK_iff.1 h).1
theorem PolOK.aok {p:List Mono} (h:PolOK p) {m:Mono} (hm:m∈p):m.atoms.length≤4∧F.aok m.atoms:=(polOK_iff.1 h).2.2 m hm
theorem fit_sum {l o:List Mono} (h:Nf o) (h2:∀k,cf o k=cf l k%65536) (h3:∀m∈l,aok m.atoms):(bp (fitB o),if bp (fitB o)then o else [])=((sumF l).1,(sumF l).2):=by
  rw [sumF_of h h2 h3]
  by_cases c:fitB o
  · rw [bp_t c,if_pos rfl];dsimp only;rw [decide_eq_true (show o.length≤12∧∀m∈o,m.atoms.length≤4 from c),if_pos (show o.length≤12∧∀m∈o,m.atoms.length≤4 from c)]
  · rw [bp_f c,if_neg (by simp)];dsimp only;rw [decide_eq_false (show¬(o.length≤12∧∀m∈o,m.atoms.length≤4)from c),if_neg (show¬(o.length≤12∧∀m∈o,m.atoms.length≤4)from c)]
theorem nf_sh' {o l:List Mono} (h:Nf o) (h2:∀k,cf o k=cf l k%65536) (h3:∀m∈l,m.atoms.length<1000000000) (h4:o.length<1000000000):Sh o:=⟨h4,fun m hm=>by
  obtain⟨m',g1,g2⟩:=h.from h2 hm
  rw [←g2];exact h3 m' g1⟩
theorem w_k82 {p1:List Mono×Unit→Bool} {f1:List Mono×Unit→Bool×Unit} (hp1:∀a,Sh a→p1 (a,())=true) (hf1:∀a,Sh a→f1 (a,())=(bp (PolOK a),()))
    {p2:List Mono×Mono×Unit→Bool} {f2:List Mono×Mono×Unit→List Mono×Unit}
    (hp2:∀(l:List Mono) m,l.length<1000000000→Nf l→1≤m.coef∧m.coef≤65535→m.atoms.length<1000000000→p2 (l,m,())=true) (hf2:∀(l:List Mono) m,l.length<1000000000→Nf l→1≤m.coef∧m.coef≤65535→m.atoms.length<1000000000→Plus l m (f2 (l,m,())).1)
    {p3:List Mono×Unit→Bool} {f3:List Mono×Unit→Bool×List Mono×Unit} (hp3:∀a,Sh a→p3 (a,())=true) (hf3:∀a,Sh a→f3 (a,())=(bp (fitB a),if bp (fitB a)then a else [],()))
    (a b:List Mono) (ha:Sh a) (hb:Sh b):F_k82 (std 0) p1 f1 p2 f2 p3 f3 (a,b,()) (fun y=>y=((addF a b).1,(addF a b).2,())):=by
  dsimp only [F_k82]
  simp (disch:=omega) only [RR,hp1 a ha,hf1 a ha,hp1 b hb,hf1 b hb,bp_eq,bp_ne]
  unfold addF
  refine⟨fun h=> ?_,fun⟨h1,h2⟩=> ?_⟩
  · rw [if_neg]
    rw [Bool.and_eq_true,bp_eq,bp_eq];rintro⟨g1,g2⟩
    rcases h with h | h
    · exact h g1
    · exact h g2
  rw [if_pos (by rw [bp_t h1,bp_t h2];rfl)]
  have l1:=h1.len
  have l2:=h2.len
  have hl:∀m∈a++b,F.aok m.atoms∧m.atoms.length<1000000000:=fun m hm=>by
    rw [List.mem_append]at hm
    rcases hm with hm | hm
    · exact⟨(h1.aok hm).2,ha.2 m hm⟩
    · exact⟨(h2.aok hm).2,hb.2 m hm⟩
  refine loop_intro (fun(y:List Mono×Int×List Mono×Unit)=>y.2.2.1=b∧0≤y.2.1∧y.2.1≤b.length∧Nf y.1∧(∀k,cf y.1 k=cf (a++b.take y.2.1.toNat) k%65536)∧(y.1.length:Int)≤12+y.2.1) (fun y=>(b.length-y.2.1).toNat)
    ⟨rfl,by simp,by simp,h1.nf,fun k=>by have:=h1.nf.bnd k;simp only [Int.toNat_zero,List.take_zero,List.append_nil];omega,by simp only;omega⟩ ?_
  rintro⟨(o:List Mono),(i:Int),(b':List Mono),⟨⟩⟩ hI
  dsimp only at hI ⊢
  obtain⟨rfl,h3,h4,h5,h6,h7⟩:=hI
  have so:Sh o:=nf_sh' h5 h6 (fun m hm=>(hl m (by rw [List.mem_append]at hm ⊢;exact hm.imp id List.mem_of_mem_take)).2) (by omega)
  simp (disch:=omega) only [RR,hp3 o so,hf3 o so]
  refine⟨fun h9=> ?_,fun h9=> ?_⟩
  · have hm:=h2.nf.co _ (getD_mem (d:=default) h3 h9)
    have pl:=hf2 o ((b').getD (i).toNat default) so.1 h5 hm (hb.at _)
    refine⟨by omega,by omega,hp2 o ((b').getD (i).toNat default) so.1 h5 hm (hb.at _),⟨by omega,by omega,pl.nf,fun k=> ?_,by have:=pl.len;omega⟩,by omega⟩
    rw [pl.cf k,cf_append,h6 k,←take_snoc (d:=default) h3 h9 rfl,←List.append_assoc,cf_append (a++_)];omega
  · have:=fit_sum h5 (fun k=>by rw [h6 k,List.take_of_length_le (by omega)]) (fun m hm=>(hl m hm).1)
    exact congrArg (fun z:Bool×List Mono=>(z.1,z.2,())) this
theorem w_k85 {p1:List Mono×Unit→Bool} {f1:List Mono×Unit→Bool×Unit} (hp1:∀a,Sh a→p1 (a,())=true) (hf1:∀a,Sh a→f1 (a,())=(bp (PolOK a),()))
    {p0:Int×Unit→Bool} {f0:Int×Unit→Int×Unit} (hp0:∀a,p0 (a,())=true) (hf0:∀a,f0 (a,())=(a%65536,()))
    {p2:List Mono×Mono×Unit→Bool} {f2:List Mono×Mono×Unit→List Mono×Unit}
    (hp2:∀(l:List Mono) m,l.length<1000000000→Nf l→1≤m.coef∧m.coef≤65535→m.atoms.length<1000000000→p2 (l,m,())=true) (hf2:∀(l:List Mono) m,l.length<1000000000→Nf l→1≤m.coef∧m.coef≤65535→m.atoms.length<1000000000→Plus l m (f2 (l,m,())).1)
    {p4:List Int×List Int×Unit→Bool} {f4:List Int×List Int×Unit→List Int×Unit}
    (hp4:∀a b:List Int,a.length<100000000→b.length<100000000→a.Pairwise (· ≤ ·)→b.Pairwise (· ≤ ·)→p4 (a,b,())=true) (hf4:∀a b:List Int,a.length<100000000→b.length<100000000→a.Pairwise (· ≤ ·)→b.Pairwise (· ≤ ·)→f4 (a,b,())=(sortI (a++b),()))
    {p3:List Mono×Unit→Bool} {f3:List Mono×Unit→Bool×List Mono×Unit} (hp3:∀a,Sh a→p3 (a,())=true) (hf3:∀a,Sh a→f3 (a,())=(bp (fitB a),if bp (fitB a)then a else [],()))
    (a b:List Mono) (ha:Sh a) (hb:Sh b):F_k85 (std 0) p1 f1 p0 f0 p2 f2 p4 f4 p3 f3 (a,b,()) (fun y=>y=((mulF a b).1,(mulF a b).2,())):=by
  dsimp only [F_k85]
  simp (disch:=omega) only [RR,hp1 a ha,hf1 a ha,hp1 b hb,hf1 b hb,bp_eq,bp_ne]
  unfold mulF
  refine⟨fun h=> ?_,fun⟨h1,h2⟩=> ?_⟩
  · rw [if_neg]
    rw [Bool.and_eq_true,bp_eq,bp_eq];rintro⟨g1,g2⟩
    rcases h with h | h
    · exact h g1
    · exact h g2
  rw [if_pos (by rw [bp_t h1,bp_t h2];rfl)]
  have l1:=h1.len
  have l2:=h2.len
  have am:∀m∈a,∀n∈b,aok (mulM m n).atoms∧(mulM m n).atoms.length≤8:=fun m hm n hn=>by
    obtain⟨g1,g2⟩:=h1.aok hm
    obtain⟨g3,g4⟩:=h2.aok hn
    refine⟨⟨?_,fun k hk=> ?_⟩,?_⟩
    · have:=List.pairwise_mergeSort (le:=fun x y:Int=>decide (x≤y)) (fun a b c h1 h2=>by simp at*;omega) (fun a b=>by simp;omega) (m.atoms++n.atoms)
      exact this.imp (fun h=>by simpa using h)
    · have:k∈m.atoms++n.atoms:=List.mem_mergeSort.1 hk
      rw [List.mem_append]at this
      rcases this with hk | hk
      · exact g2.2 k hk
      · exact g4.2 k hk
    · show(sortI _).length≤8
      rw [sortI_len,List.length_append];omega
  have pm:∀m∈prods a b,aok m.atoms∧m.atoms.length≤8:=fun m hm=>by
    unfold prods at hm
    rw [List.mem_flatMap]at hm
    obtain⟨x,hx,hm⟩:=hm
    rw [List.mem_map]at hm
    obtain⟨y,hy,rfl⟩:=hm
    exact am x hx y hy
  let J:List Mono→Int→Int→Prop:=fun o i k=>Nf o∧(∀t,cf o t=cf (prods (a.take i.toNat) b++(b.take k.toNat).map (mulM ((a).getD (i).toNat default))) t%65536)∧(o.length:Int)≤12*i+k
  refine loop_intro (fun(y:Int×List Mono×List Mono×List Mono×Unit)=>y.2.1=a∧y.2.2.1=b∧0≤y.1∧y.1≤a.length∧J y.2.2.2.1 y.1 0) (fun y=>(a.length-y.1).toNat)
    ⟨rfl,rfl,by simp,by simp,⟨⟨List.Pairwise.nil,fun m hm=>absurd hm (by simp)⟩,fun k=>by simp [cf,prods],by simp⟩⟩ ?_
  rintro⟨(i:Int),(a':List Mono),(b':List Mono),(o:List Mono),⟨⟩⟩ hI
  dsimp only at hI ⊢
  obtain⟨rfl,rfl,h3,h4,hJ⟩:=hI
  have hJ1:=hJ.2.2
  have so:Sh o:=nf_sh' (l:=prods (a'.take i.toNat) b') hJ.1 (fun t=>by rw [hJ.2.1 t];simp) (fun m hm=>by
    have:m∈prods a' b':=by
      unfold prods at hm ⊢
      rw [List.mem_flatMap]at hm ⊢
      obtain⟨x,hx,hm⟩:=hm
      exact⟨x,List.mem_of_mem_take hx,hm⟩
    have:=(pm m this).2;omega) (by omega)
  simp (disch:=omega) only [RR,hp3 o so,hf3 o so]
  refine⟨fun h9=> ?_,fun h9=> ?_⟩
  · refine loop_intro (fun(y:Int×Int×List Mono×List Mono×List Mono×Unit)=>y.1=i∧y.2.2.1=a'∧y.2.2.2.1=b'∧0≤y.2.1∧y.2.1≤b'.length∧J y.2.2.2.2.1 i y.2.1) (fun y=>(b'.length-y.2.1).toNat) ⟨rfl,rfl,rfl,by simp,by simp,hJ⟩ ?_
    rintro⟨(i':Int),(k:Int),(a2:List Mono),(b2:List Mono),(o2:List Mono),⟨⟩⟩ hI
    dsimp only at hI ⊢
    obtain⟨rfl,rfl,rfl,g1,g2,hK⟩:=hI
    have hK1:=hK.2.2
    by_cases g3:k<b2.length
    · have ma:((a2).getD (i').toNat default)∈a2:=getD_mem h3 h9
      have mb:((b2).getD (k).toNat default)∈b2:=getD_mem g1 g3
      have ca:=h1.nf.co _ ma
      have cb:=h2.nf.co _ mb
      obtain⟨q1,q2⟩:=h1.aok ma
      obtain⟨q3,q4⟩:=h2.aok mb
      have hm:=mul_rng (show 0≤((a2).getD (i').toNat default).coef by omega) (by omega) (show 0≤((b2).getD (k).toNat default).coef by omega) (by omega)
      have am':=(am _ ma _ mb).2
      simp (disch:=omega) only [RR,hp0,hf0,hp4 _ _ (show((a2).getD (i').toNat default).atoms.length<100000000 by omega) (show((b2).getD (k).toNat default).atoms.length<100000000 by omega) q2.1 q4.1,hf4 _ _ (show((a2).getD (i').toNat default).atoms.length<100000000 by omega) (show((b2).getD (k).toNat default).atoms.length<100000000 by omega) q2.1 q4.1]
      have tk:prods (a2.take i'.toNat) b2++(b2.take (k+1).toNat).map (mulM ((a2).getD (i').toNat default))=prods (a2.take i'.toNat) b2++(b2.take k.toNat).map (mulM ((a2).getD (i').toNat default))++ [mulM ((a2).getD (i').toNat default) ((b2).getD (k).toNat default)]:=by
        rw [←take_snoc (d:=default) g1 g3 rfl,List.map_append,List.append_assoc];rfl
      refine⟨fun _=>⟨by omega,by omega,by omega,by omega,fun g4=> ?_,fun g4=>⟨⟨by omega,by omega,hK.1,fun t=> ?_,by omega⟩,by omega⟩⟩,fun h=>absurd g3 h⟩
      · have am'':(⟨((a2).getD (i').toNat default).coef*((b2).getD (k).toNat default).coef%65536,sortI (((a2).getD (i').toNat default).atoms++((b2).getD (k).toNat default).atoms)⟩:Mono).atoms.length<1000000000:=by have:(sortI (((a2).getD (i').toNat default).atoms++((b2).getD (k).toNat default).atoms)).length≤8:=am';dsimp only;omega
        have cc:1≤(⟨((a2).getD (i').toNat default).coef*((b2).getD (k).toNat default).coef%65536,sortI (((a2).getD (i').toNat default).atoms++((b2).getD (k).toNat default).atoms)⟩:Mono).coef∧(⟨((a2).getD (i').toNat default).coef*((b2).getD (k).toNat default).coef%65536,sortI (((a2).getD (i').toNat default).atoms++((b2).getD (k).toNat default).atoms)⟩:Mono).coef≤65535:=by dsimp only;omega
        have pl:=hf2 o2 _ (by omega) hK.1 cc am''
        refine⟨by omega,by omega,by omega,by omega,hp2 o2 _ (by omega) hK.1 cc am'',⟨by omega,by omega,pl.nf,fun t=> ?_,by have:=pl.len;omega⟩,by omega⟩
        rw [pl.cf t,cf_append,hK.2.1 t,tk,cf_append (prods _ _++_)]
        show(_+cf [mulM ((a2).getD (i').toNat default) ((b2).getD (k).toNat default)] t)%65536=_
        omega
      · rw [tk,cf_append,hK.2.1 t]
        have:cf [mulM ((a2).getD (i').toNat default) ((b2).getD (k).toNat default)] t=0:=by
          rw [cf_cons,cf_nil]
          have:(mulM ((a2).getD (i').toNat default) ((b2).getD (k).toNat default)).coef=0:=by show((a2).getD (i').toNat default).coef*((b2).getD (k).toNat default).coef%65536=0;omega
          rw [this];split<;>rfl
        rw [this];omega
    · simp (disch:=omega) only [RR]
      refine⟨fun h=>absurd h g3,fun _=>⟨⟨by omega,by omega,hK.1,fun t=> ?_,by omega⟩,by omega⟩⟩
      rw [hK.2.1 t,List.take_of_length_le (show b2.length≤k.toNat by omega),←prods_snoc,take_snoc (d:=default) h3 h9 rfl];simp
  · have:=fit_sum hJ.1 (l:=prods a' b') (fun t=>by rw [hJ.2.1 t,List.take_of_length_le (show a'.length≤i.toNat by omega)];simp) (fun m hm=>(pm m hm).1)
    exact congrArg (fun z:Bool×List Mono=>(z.1,z.2,())) this
end Go.TX.F
namespace Go.TX.F
open Go Go.AE Go.TX
theorem mulM_one {m:Mono} (n:Int) (h:aok m.atoms):mulM m ⟨n,[]⟩=⟨m.coef*n%65536,m.atoms⟩:=by
  unfold mulM
  rw [←sortI_uniq (a:=m.atoms++ []) (o:=m.atoms) h.1 (by simp)]
theorem prods_one (a:List Mono) (n:Mono):prods a [n]=a.map (fun m=>mulM m n):=by
  induction a with
  | nil=>rfl
  | cons x a ih=>simp only [prods,List.flatMap_cons,List.map_cons,List.map_nil]at ih ⊢;rw [ih];rfl
theorem cf_coef0 {t:List Int}:∀ {l:List Mono},(∀m∈l,m.coef=0)→cf l t=0
  | [],_=>rfl
  | m::l,h=>by rw [cf_cons,cf_coef0 (fun m hm=>h m (by simp [hm])),h m (by simp)];split<;>rfl
theorem polOK_nil:PolOK []:=polOK_iff.2 ⟨⟨List.Pairwise.nil,fun m hm=>absurd hm (by simp)⟩,by simp,fun m hm=>absurd hm (by simp)⟩
theorem polOK_const (n:Int):PolOK (pConst n):=by
  unfold pConst;split
  · refine polOK_iff.2 ⟨⟨List.pairwise_singleton _ _,fun m hm=> ?_⟩,by simp,fun m hm=> ?_⟩
    · rw [List.mem_singleton]at hm;subst hm;assumption
    · rw [List.mem_singleton]at hm;subst hm;exact⟨by simp,List.Pairwise.nil,fun k hk=>absurd hk (by simp)⟩
  · exact polOK_nil
theorem polOK_atom (n:Int):PolOK (pAtom n):=by
  unfold pAtom;split
  · refine polOK_iff.2 ⟨⟨List.pairwise_singleton _ _,fun m hm=> ?_⟩,by simp,fun m hm=> ?_⟩
    · rw [List.mem_singleton]at hm;subst hm;dsimp only;omega
    · rw [List.mem_singleton]at hm;subst hm;exact⟨by simp,List.pairwise_singleton _ _,fun k hk=>by rw [List.mem_singleton]at hk;omega⟩
  · exact polOK_nil
theorem w_k89 {p1:List Mono×Unit→Bool} {f1:List Mono×Unit→Bool×Unit} (hp1:∀a,Sh a→p1 (a,())=true) (hf1:∀a,Sh a→f1 (a,())=(bp (PolOK a),()))
    {p0:Int×Unit→Bool} {f0:Int×Unit→Int×Unit} (hp0:∀a,p0 (a,())=true) (hf0:∀a,f0 (a,())=(a%65536,()))
    {p4:List Mono×Unit→Bool} {f4:List Mono×Unit→List Mono×Unit} (hp4:∀a,Sh a→p4 (a,())=true) (hf4:∀a,Sh a→f4 (a,())=(a,()))
    {p3:Int×Unit→Bool} {f3:Int×Unit→Bool×Unit} (hp3:∀a,p3 (a,())=true) (hf3:∀a,f3 (a,())=(inB a 0 65535,()))
    (a:List Mono) (n:Int) (ha:Sh a):F_k89 (std 0) p1 f1 p0 f0 p4 f4 p3 f3 (a,n,()) (fun y=>y=(scaleF a n,())):=by
  dsimp only [F_k89]
  simp (disch:=omega) only [RR,hp1 a ha,hf1 a ha,hp3,hf3,bp_eq,bp_ne,inB_t,inB_f]
  unfold scaleF
  refine⟨fun h=> ?_,fun⟨h1,h2⟩=> ?_⟩
  · rw [if_neg];rw [Bool.and_eq_true,bp_eq,inB_t];rintro⟨g1,g2⟩
    rcases h with h | h
    · exact h g1
    · exact h g2
  rw [if_pos (by rw [bp_t h1,Bool.true_and,inB_t];exact h2)]
  have l1:=h1.len
  have hss:=h1.nf.ss
  refine loop_intro (fun(y:Int×Int×List Mono×List Mono×Unit)=>y.1=n∧y.2.2.1=a∧0≤y.2.1∧y.2.1≤a.length∧Nf y.2.2.2.1∧(y.2.2.2.1.length:Int)≤y.2.1∧(∀t,cf y.2.2.2.1 t=cf ((a.take y.2.1.toNat).map (fun m=>⟨m.coef*n%65536,m.atoms⟩)) t%65536)
      ∧(∀x∈y.2.2.2.1,x.atoms.length≤4∧(y.2.1<a.length→lt x ((a).getD (y.2.1).toNat default)))) (fun y=>(a.length-y.2.1).toNat)
    ⟨rfl,rfl,by simp,by simp,⟨List.Pairwise.nil,fun m hm=>absurd hm (by simp)⟩,by simp,fun t=>by simp [cf],fun x hx=>absurd hx (by simp)⟩ ?_
  rintro⟨(n':Int),(i:Int),(a':List Mono),(o:List Mono),⟨⟩⟩ hI
  dsimp only at hI ⊢
  obtain⟨rfl,rfl,h3,h4,h5,h6,h7,h8⟩:=hI
  have so:Sh o:=⟨by omega,fun m hm=>by have:=(h8 m hm).1;omega⟩
  by_cases h9:i<a'.length
  · have ma:((a').getD (i).toNat default)∈a':=getD_mem h3 h9
    have ca:=h1.nf.co _ ma
    have qa:=h1.aok ma
    have hm:=mul_rng (show 0≤((a').getD (i).toNat default).coef by omega) (by omega) h2.1 h2.2
    have nx:i+1<a'.length→lt ((a').getD (i).toNat default) ((a').getD (i+1).toNat default):=fun h=>by
      have:=(pairwise_adj (d:=default) (R:=lt) lt_trans').1 hss (i+1) (by omega) h
      rw [show i+1-1=i by omega]at this;exact this
    have tk:(a'.take (i+1).toNat).map (fun m:Mono=>(⟨m.coef*n'%65536,m.atoms⟩:Mono))=(a'.take i.toNat).map (fun m:Mono=>(⟨m.coef*n'%65536,m.atoms⟩:Mono))++ [⟨((a').getD (i).toNat default).coef*n'%65536,((a').getD (i).toNat default).atoms⟩]:=by
      rw [←take_snoc (d:=default) h3 h9 rfl,List.map_append];rfl
    simp (disch:=omega) only [RR,hp0,hf0]
    refine⟨fun _=>⟨by omega,by omega,fun g=>⟨by omega,by omega,by simp only [List.length_cons,List.length_nil];omega,⟨by omega,by omega,?_,?_,fun t=> ?_,fun x hx=> ?_⟩,by omega⟩,fun g=>⟨⟨by omega,by omega,h5,by omega,fun t=> ?_,fun x hx=>⟨(h8 x hx).1,fun g2=>lt_trans' ((h8 x hx).2 h9) (nx g2)⟩⟩,by omega⟩⟩,fun h=>absurd h9 h⟩
    · refine⟨?_,fun x hx=> ?_⟩
      · rw [List.pairwise_append]
        exact⟨h5.ss,List.pairwise_singleton _ _,fun x hx z hz=>by rw [List.mem_singleton]at hz;subst hz;exact(h8 x hx).2 h9⟩
      · rw [List.mem_append,List.mem_singleton]at hx
        rcases hx with hx | rfl
        · exact h5.co x hx
        · dsimp only;omega
    · rw [List.length_append];simp only [List.length_cons,List.length_nil];omega
    · rw [tk,cf_append,cf_append,h7 t,cf_cons,cf_nil]
      dsimp only
      by_cases et:((a').getD (i).toNat default).atoms=t
      · rw [if_pos et]
        have z:cf o t=0:=cf_zero fun x hx e=>((h8 x hx).2 h9).ne (e.trans et.symm)
        rw [h7 t]at z;omega
      · rw [if_neg et];omega
    · rw [List.mem_append,List.mem_singleton]at hx
      rcases hx with hx | rfl
      · exact⟨(h8 x hx).1,fun g2=>lt_trans' ((h8 x hx).2 h9) (nx g2)⟩
      · exact⟨qa.1,fun g2=>nx g2⟩
    · rw [tk,cf_append,h7 t,cf_cons,cf_nil]
      dsimp only
      have:((a').getD (i).toNat default).coef*n'%65536=0:=by omega
      rw [this];split<;>omega
  · simp (disch:=omega) only [RR,hp4 o so,hf4 o so]
    refine⟨fun h=>absurd h h9,fun _=> ?_⟩
    have eq:∀t,cf o t=cf (prods a' (pConst n')) t%65536:=fun t=>by
      rw [h7 t,List.take_of_length_le (by omega)]
      unfold pConst
      by_cases hn:1≤n'∧n'≤65535
      · rw [if_pos hn,prods_one]
        congr 2
        exact List.map_congr_left fun m hm=>(mulM_one n' (h1.aok hm).2).symm
      · rw [if_neg hn]
        have hz:n'=0:=by omega
        have hz2:cf (a'.map (fun m=>(⟨m.coef*n'%65536,m.atoms⟩:Mono))) t=0:=cf_coef0 fun m hm=>by
          rw [List.mem_map]at hm
          obtain⟨x,_,rfl⟩:=hm
          dsimp only;rw [hz];simp
        rw [hz2,show prods a' []=[] by simp [prods]];rfl
    have fb:fitB o:=⟨by omega,fun m hm=>(h8 m hm).1⟩
    have:=fit_sum h5 eq (fun m hm=>by
      unfold pConst at hm
      split at hm
      · rw [prods_one,List.mem_map]at hm
        obtain⟨x,hx,rfl⟩:=hm
        rw [mulM_one n' (h1.aok hx).2];exact(h1.aok hx).2
      · rw [show prods a' []=[] by simp [prods]]at hm;exact absurd hm (by simp))
    unfold mulF
    rw [if_pos (by rw [bp_t h1,bp_t (polOK_const n')];rfl),←congrArg Prod.snd this]
    dsimp only;rw [bp_t fb];rfl
theorem nf_cases (l:List Mono):(Nf (nf l)∧∀k,cf (nf l) k=cf l k%65536)∨nf l=[]:=by
  by_cases he:∃o,Nf o∧∀k,cf o k=cf l k%65536
  · obtain⟨o,h1,h2⟩:=he
    rw [nf_eq h1 h2];exact Or.inl ⟨h1,h2⟩
  · right;unfold nf;rw [dif_neg he]
theorem nf_under {l:List Mono} {n:Int} (h:pUnder l n):pUnder (nf l) n:=by
  rcases nf_cases l with⟨h1,h2⟩ | h1
  · refine pUnder_iff.2 fun m hm k hk=> ?_
    obtain⟨m',g1,g2⟩:=h1.from h2 hm
    exact pUnder_iff.1 h m' g1 k (g2▸hk)
  · rw [h1];exact pUnder_iff.2 fun m hm=>absurd hm (by simp)
theorem under_nil (n:Int):pUnder [] n:=pUnder_iff.2 fun m hm=>absurd hm (by simp)
theorem sumF_ok (l:List Mono):PolOK (sumF l).2:=by
  unfold sumF
  by_cases h:PolOK (nf l)
  · rw [bp_t h];exact h
  · rw [bp_f h];exact polOK_nil
theorem sumF_under {l:List Mono} {n:Int} (h:pUnder l n):pUnder (sumF l).2 n:=by
  unfold sumF
  dsimp only
  split
  · exact nf_under h
  · exact under_nil n
theorem under_app {a b:List Mono} {n:Int} (h1:pUnder a n) (h2:pUnder b n):pUnder (a++b) n:=pUnder_iff.2 fun m hm k hk=>by
  rw [List.mem_append]at hm
  rcases hm with hm | hm
  · exact pUnder_iff.1 h1 m hm k hk
  · exact pUnder_iff.1 h2 m hm k hk
theorem under_prods {a b:List Mono} {n:Int} (h1:pUnder a n) (h2:pUnder b n):pUnder (prods a b) n:=pUnder_iff.2 fun m hm k hk=>by
  unfold prods at hm
  rw [List.mem_flatMap]at hm
  obtain⟨x,hx,hm⟩:=hm
  rw [List.mem_map]at hm
  obtain⟨y,hy,rfl⟩:=hm
  have:k∈x.atoms++y.atoms:=List.mem_mergeSort.1 hk
  rw [List.mem_append]at this
  rcases this with hk | hk
  · exact pUnder_iff.1 h1 x hx k hk
  · exact pUnder_iff.1 h2 y hy k hk
theorem addF_ok (a b:List Mono):PolOK (addF a b).2:=by unfold addF;split;exact sumF_ok _;exact polOK_nil
theorem mulF_ok (a b:List Mono):PolOK (mulF a b).2:=by unfold mulF;split;exact sumF_ok _;exact polOK_nil
theorem addF_under {a b:List Mono} {n:Int} (h1:pUnder a n) (h2:pUnder b n):pUnder (addF a b).2 n:=by unfold addF;split;exact sumF_under (under_app h1 h2);exact under_nil n
theorem mulF_under {a b:List Mono} {n:Int} (h1:pUnder a n) (h2:pUnder b n):pUnder (mulF a b).2 n:=by unfold mulF;split;exact sumF_under (under_prods h1 h2);exact under_nil n
theorem under_const (c n:Int):pUnder (pConst c) n:=pUnder_iff.2 fun m hm k hk=>by
  unfold pConst at hm;split at hm
  · rw [List.mem_singleton]at hm;subst hm;exact absurd hk (by simp)
  · exact absurd hm (by simp)
theorem under_atom {k n:Int} (h:k<n):pUnder (pAtom k) n:=pUnder_iff.2 fun m hm j hj=>by
  unfold pAtom at hm;split at hm
  · rw [List.mem_singleton]at hm;subst hm;rw [List.mem_singleton]at hj;omega
  · exact absurd hm (by simp)
theorem TabOK.sh {t:List Atom} (h:TabOK t):ShT t:=⟨by have:=h.2;omega,fun a ha=>by
  obtain⟨i,hi,rfl⟩:=List.getElem_of_mem ha
  have:=(h.1 i (by omega) (by omega)).1
  rw [show(i:Int).toNat=i from rfl,getD_lt hi]at this
  unfold aDefd at this
  split at this
  · exact⟨this.2.1.sh,this.2.2.1.sh⟩
  · rw [ShA,this.1.1,this.1.2];exact⟨nil_sh,nil_sh⟩⟩
theorem tPut_ok {t:List Atom} {a:Atom} (h:TabOK t) (h2:t.length<200):TabOK (tPut t a).1∧t.length≤(tPut t a).1.length∧(tPut t a).1.length≤t.length+1∧(aDefd a t.length→0≤(tPut t a).2):=by
  have hsp:=tFind_spec t a
  unfold tPut
  split
  · rename_i h3;exact⟨h,Nat.le_refl _,Nat.le_succ _,fun _=>h3⟩
  · rename_i h3
    split
    · rename_i h4;exact⟨h,Nat.le_refl _,Nat.le_succ _,fun h5=>by rcases h4 with h4 | h4;exact absurd h5 h4;omega⟩
    · rename_i h4
      have h5:aDefd a t.length:=Classical.byContradiction fun h5=>h4 (Or.inl h5)
      refine⟨tabOK_iff.2 ⟨?_,by rw [List.length_append];simp only [List.length_cons,List.length_nil];omega⟩,by rw [List.length_append];exact Nat.le_add_right _ _,by rw [List.length_append];exact Nat.le_refl _,fun _=>by dsimp only;omega⟩
      have hl:((t++ [a]).length:Int)=t.length+1:=by rw [List.length_append];rfl
      have g1:∀i:Int,0≤i→i<t.length→(t++ [a]).getD i.toNat default=t.getD i.toNat default:=fun i i1 i2=>by
        rw [getD_lt (show i.toNat< (t++ [a]).length by omega),getD_lt (show i.toNat<t.length by omega),List.getElem_append_left]
      have g2:(t++ [a]).getD ((t.length:Int)).toNat default=a:=by
        rw [getD_lt (show((t.length:Int)).toNat< (t++ [a]).length by omega)];simp
      rw [hl]
      intro i i1 i2
      dsimp only
      by_cases i3:i<t.length
      · rw [g1 i i1 i3]
        have:=(tabOK_iff.1 h).1 i i1 i3
        exact⟨this.1,fun j j1 j2=>by dsimp only;rw [g1 j j1 (by omega)];exact this.2 j j1 j2⟩
      · have:i=t.length:=by omega
        subst this
        rw [g2]
        refine⟨h5,fun j j1 j2=> ?_⟩
        dsimp only;rw [g1 j j1 j2]
        rcases hsp with⟨_,g⟩ | ⟨g,_⟩
        · exact g j j1 j2
        · exact absurd g h3
theorem tabDo_ok {t:List Atom} {op:Int} {x y:List Mono} (h:TabOK t) (h2:t.length<200) (h3:1≤op∧op≤5) (hx:PolOK x) (hy:PolOK y) (ux:pUnder x t.length) (uy:pUnder y t.length):
    TabOK (tabDo t op x y).1∧t.length≤(tabDo t op x y).1.length∧(tabDo t op x y).1.length≤t.length+1:=by
  unfold tabDo
  rw [if_pos ⟨h,h3,hx,hy,ux,uy⟩]
  unfold tDo
  have d1:aDefd ⟨4,op,x,y⟩ t.length:=by unfold aDefd;rw [if_pos rfl];exact⟨h3,hx,hy,ux,uy⟩
  have d2:aDefd ⟨4,op,y,x⟩ t.length:=by unfold aDefd;rw [if_pos rfl];exact⟨h3,hy,hx,uy,ux⟩
  have p1:=tPut_ok (a:=⟨4,op,x,y⟩) h h2
  have p2:=tPut_ok (a:=⟨4,op,y,x⟩) h h2
  have q1:=p1.2.2.2 d1
  have q2:=p2.2.2.2 d2
  split
  · exact⟨h,Nat.le_refl _,Nat.le_succ _⟩
  · split
    · rw [if_neg (by omega)];exact⟨p2.1,p2.2.1,p2.2.2.1⟩
    · rw [if_neg (by omega)];exact⟨p1.1,p1.2.1,p1.2.2.1⟩
end Go.TX.F
namespace Go.TX.F
open Go Go.AE Go.TX
def By (b:List Int):Prop:=∀z∈b,0≤z∧z≤255
structure Bt (b:List Int):Prop where
  len:b.length≤2000
  rng:By b
theorem By.at {b:List Int} (h:By b) (n:Nat):0≤b.getD n default∧b.getD n default≤255:=by
  by_cases h1:n<b.length
  · rw [getD_lt h1];exact h _ (List.getElem_mem _)
  · simp only [List.getD,List.getElem?_eq_none (by omega:b.length≤n)];decide
theorem w_k99 (b:List Int) (hb:By b) (hl:b.length<1000000000):F_k99 (std 0) (b,()) (fun y=>Bt y.1∧y.2.1=0):=by
  dsimp only [F_k99]
  simp (disch:=omega) only [RR]
  refine⟨fun h=>⟨by omega,by omega,by omega,⟨?_,?_⟩⟩,fun h=>⟨by omega,hb⟩⟩
  · rw [List.length_drop,List.length_take];omega
  · intro z hz;exact hb z (List.mem_of_mem_take (List.mem_of_mem_drop hz))
theorem xor_nn {a b:Int} (h1:0≤a) (h2:a<4611686018427387904) (h3:0≤b) (h4:b<4611686018427387904):0≤bitI .xor .i64 a b∧bitI .xor .i64 a b<4611686018427387904:=by
  have e:((2^IntKind.i64.bits:Nat):Int)=18446744073709551616:=by decide
  have e2:bitI .xor .i64 a b=((a.toNat^^^b.toNat:Nat):Int):=by
    unfold bitI;dsimp only
    rw [BitVec.toNat_xor,BitVec.toNat_ofInt,BitVec.toNat_ofInt,e,show a%18446744073709551616=a by omega,show b%18446744073709551616=b by omega]
    have:=Nat.xor_lt_two_pow (show a.toNat<2^62 by omega) (show b.toNat<2^62 by omega)
    rw [w64 (by omega) (by omega)]
  rw [e2]
  have:=Nat.xor_lt_two_pow (show a.toNat<2^62 by omega) (show b.toNat<2^62 by omega)
  omega
theorem tmod_nn {a b:Int} (h:0≤a):a.tmod b=a%b:=Int.tmod_eq_emod_of_nonneg h
theorem tdiv_nn {a b:Int} (h:0≤a):a.tdiv b=a/b:=Int.tdiv_eq_ediv_of_nonneg h
def Pk (n:Int) (b:List Int) (p:Int) (y:Int×List Int×Int×Unit):Prop:=y.2.1=b∧y.2.2.1=p+1∧0≤y.1∧(y.1<n∨y.1=0)
theorem w_k101 (n:Int) (b:List Int) (p:Int) (hb:Bt b) (h1:0≤p) (h2:p<1000000000):F_k101 (std 0) (n,b,p,()) (fun y=>Pk n b p y):=by
  have hl:=hb.1
  have cvu:∀k:Nat,IntKind.i64.wrap (b.getD k default)=b.getD k default:=fun k=>by have:=hb.2.at k;exact w64 (by omega) (by omega)
  dsimp only [F_k101]
  simp (disch:=omega) only [RR,cvu]
  refine⟨fun h=>⟨rfl,rfl,by omega,Or.inr rfl⟩,fun⟨h3,h4⟩=> ?_⟩
  have e1:p+1-1=p:=by omega
  rw [e1]
  refine⟨fun h=>⟨by omega,by omega,by omega,?_⟩,fun h=> ?_⟩
  · have:=hb.2.at p.toNat
    rw [tmod_nn this.1]
    exact⟨rfl,rfl,Int.emod_nonneg _ (by omega),Or.inl (Int.emod_lt_of_pos _ (by omega))⟩
  · have hb0:(0:Int)<b.length:=by omega
    have k1:=Int.emod_nonneg p (show(b.length:Int)≠0 by omega)
    have k2:=Int.emod_lt_of_pos p hb0
    have k3:=Int.emod_nonneg (p*7+3) (show(b.length:Int)≠0 by omega)
    have k4:=Int.emod_lt_of_pos (p*7+3) hb0
    have k5:0≤p/b.length:=Int.ediv_nonneg h1 (by omega)
    have k6:p/b.length≤p:=Int.ediv_le_self _ h1
    simp (disch:=omega) only [w64,tmod_nn,tdiv_nn]
    have q1:=hb.2.at (p%b.length).toNat
    have q2:=hb.2.at ((p*7+3)%b.length).toNat
    generalize (b.getD (p%b.length).toNat default)=u at q1 ⊢
    generalize (b.getD ((p*7+3)%b.length).toNat default)=v at q2 ⊢
    generalize p/b.length=w at k5 k6 ⊢
    simp (disch:=omega) only [w64,tmod_nn,tdiv_nn]
    have q:=xor_nn (a:=u*131+v*1117+p*29+w*53) (b:=(u*131+v*1117+p*29+w*53)/64) (by omega) (by omega) (by omega) (by omega)
    rw [az_xor]
    generalize bitI .xor .i64 (u*131+v*1117+p*29+w*53) ((u*131+v*1117+p*29+w*53)/64)=g at q ⊢
    rw [tmod_nn q.1]
    exact⟨h4,k1,k2,h4,k3,k4,h4,by omega,by omega,rfl,rfl,Int.emod_nonneg _ (by omega),Or.inl (Int.emod_lt_of_pos _ (by omega))⟩
theorem w_k100 {p1:Int×List Int×Int×Unit→Bool} {f1:Int×List Int×Int×Unit→Int×List Int×Int×Unit} (hp1:∀n b p,Bt b→0≤p→p<1000000000→p1 (n,b,p,())=true) (hf1:∀n b p,Bt b→0≤p→p<1000000000→Pk n b p (f1 (n,b,p,())))
    (n:Int) (b:List Int) (p:Int) (hb:Bt b) (h1:0≤p) (h2:p<1000000000):F_k100 (std 0) p1 f1 (n,b,p,()) (fun y=>y.2.1=b∧y.2.2.1=p+1):=by
  obtain⟨e1,e2,_⟩:=hf1 n b p hb h1 h2
  dsimp only [F_k100]
  simp (disch:=omega) only [RR,hp1 n b p hb h1 h2,e1,e2]
def Wd (b:List Int) (p:Int) (y:Int×List Int×Int×Unit):Prop:=y.2.1=b∧p≤y.2.2.1∧y.2.2.1≤p+3∧(0≤y.1∧y.1≤65535)
theorem w_k102 {p1:Int×List Int×Int×Unit→Bool} {f1:Int×List Int×Int×Unit→Int×List Int×Int×Unit} (hp1:∀n b p,Bt b→0≤p→p<1000000000→p1 (n,b,p,())=true) (hf1:∀n b p,Bt b→0≤p→p<1000000000→Pk n b p (f1 (n,b,p,())))
    (b:List Int) (p:Int) (hb:Bt b) (h1:0≤p) (h2:p<900000000):F_k102 (std 0) p1 f1 (b,p,()) (fun y=>Wd b p y):=by
  obtain⟨e1,e2,e3,e4⟩:=hf1 4 b p hb h1 (by omega)
  have P1:∀n,p1 (n,b,p+1,())=true:=fun n=>hp1 n b (p+1) hb (by omega) (by omega)
  have P2:∀n,p1 (n,b,p+1+1,())=true:=fun n=>hp1 n b (p+1+1) hb (by omega) (by omega)
  obtain⟨a1,a2,a3,a4⟩:=hf1 9 b (p+1) hb (by omega) (by omega)
  obtain⟨b1,b2,b3,b4⟩:=hf1 70 b (p+1) hb (by omega) (by omega)
  obtain⟨c1,c2,c3,c4⟩:=hf1 256 b (p+1) hb (by omega) (by omega)
  obtain⟨d1,d2,d3,d4⟩:=hf1 256 b (p+1+1) hb (by omega) (by omega)
  dsimp only [F_k102]
  simp (disch:=omega) only [RR,hp1 4 b p hb h1 (by omega),P1,P2,e1,e2,a1,a2,b1,b2,c1,c2,d1,d2,List.length_cons,List.length_nil]
  refine⟨fun _=>⟨by omega,by omega,by omega,by omega,rfl,by dsimp only;omega,by dsimp only;omega,?_⟩,fun _=>⟨fun _=>⟨rfl,by dsimp only;omega,by dsimp only;omega,by dsimp only;omega⟩,fun _=>⟨rfl,by dsimp only;omega,by dsimp only;omega,?_⟩⟩⟩
  · dsimp only
    have:=getD_mem (d:=default) (xs:=[(0:Int),1,2,3,65535,32768,255,256,65534]) a3 (by simp only [List.length_cons,List.length_nil];omega)
    generalize List.getD [(0:Int),1,2,3,65535,32768,255,256,65534] _ default=z at this ⊢
    simp at this;omega
  · dsimp only
    omega
end Go.TX.F
namespace Go.TX.F
open Go Go.AE Go.TX
structure PolyD (n:Int) (b:List Int) (p:Int) (y:List Int×Int×List Mono×Unit):Prop where
  b:y.1=b
  lo:p≤y.2.1
  hi:y.2.1≤p+200
  ok:PolOK y.2.2.1
  un:pUnder y.2.2.1 n
theorem w_k105 {p1:Int×List Int×Int×Unit→Bool} {f1:Int×List Int×Int×Unit→Int×List Int×Int×Unit} (hp1:∀n b p,Bt b→0≤p→p<1000000000→p1 (n,b,p,())=true) (hf1:∀n b p,Bt b→0≤p→p<1000000000→Pk n b p (f1 (n,b,p,())))
    {p2:Int×Unit→Bool} {f2:Int×Unit→List Mono×Unit} (hp2:∀n,p2 (n,())=true) (hf2:∀n,f2 (n,())=(pAtom n,()))
    {p4:List Mono×List Mono×Unit→Bool} {f4:List Mono×List Mono×Unit→Bool×List Mono×Unit} (hp4:∀a b,Sh a→Sh b→p4 (a,b,())=true) (hf4:∀a b,Sh a→Sh b→f4 (a,b,())=((mulF a b).1,(mulF a b).2,()))
    {p5:List Mono×List Mono×Unit→Bool} {f5:List Mono×List Mono×Unit→Bool×List Mono×Unit} (hp5:∀a b,Sh a→Sh b→p5 (a,b,())=true) (hf5:∀a b,Sh a→Sh b→f5 (a,b,())=((addF a b).1,(addF a b).2,()))
    {p6:Int×Unit→Bool} {f6:Int×Unit→List Mono×Unit} (hp6:∀n,p6 (n,())=true) (hf6:∀n,f6 (n,())=(pConst n,()))
    {p3:List Int×Int×Unit→Bool} {f3:List Int×Int×Unit→Int×List Int×Int×Unit} (hp3:∀b p,Bt b→0≤p→p<900000000→p3 (b,p,())=true) (hf3:∀b p,Bt b→0≤p→p<900000000→Wd b p (f3 (b,p,())))
    (n:Int) (b:List Int) (p:Int) (hb:Bt b) (hn:0≤n) (h1:0≤p) (h2:p<500000000):F_k105 (std 0) p1 f1 p2 f2 p4 f4 p5 f5 p6 f6 p3 f3 (n,b,p,()) (fun y=>PolyD n b p y):=by
  obtain⟨a1,a2,a3,a4⟩:=hf3 b p hb h1 (by omega)
  generalize hq:(f3 (b,p,())).2.2.1=q at a2 a3
  obtain⟨b1,b2,b3,b4⟩:=hf1 3 b q hb (by omega) (by omega)
  obtain⟨c1,c2,c3,c4⟩:=hf1 6 b (q+1) hb (by omega) (by omega)
  dsimp only [F_k105]
  simp (disch:=omega) only [RR,hp3 b p hb h1 (by omega),a1,hq,hp1 3 b q hb (by omega) (by omega),b1,b2,hp1 6 b (q+1) hb (by omega) (by omega),c1,c2,hp6,hf6,List.length_cons,List.length_nil]
  refine⟨by omega,by omega,by omega,by omega,by omega,by omega,by omega,by omega,?_⟩
  have kr:0≤List.getD [(0:Int),1,2,3,6,12] (f1 (6,b,q+1,())).1.toNat default∧List.getD [(0:Int),1,2,3,6,12] (f1 (6,b,q+1,())).1.toNat default≤12:=by
    have:=getD_mem (d:=default) (xs:=[(0:Int),1,2,3,6,12]) c3 (by simp only [List.length_cons,List.length_nil];omega)
    generalize List.getD [(0:Int),1,2,3,6,12] _ default=z at this ⊢
    simp at this;omega
  generalize List.getD [(0:Int),1,2,3,6,12] (f1 (6,b,q+1,())).1.toNat default=k0 at kr ⊢
  generalize List.getD [(0:Int),1,(f3 (b,p,())).1] (f1 (3,b,q,())).1.toNat default=w0
  refine loop_intro (fun(y:Int×Int×List Int×Int×List Mono×Unit)=>y.1=n∧0≤y.2.1∧y.2.1≤12∧y.2.2.1=b∧p≤y.2.2.2.1∧y.2.2.2.1+6*y.2.1≤p+100∧PolOK y.2.2.2.2.1∧pUnder y.2.2.2.2.1 n) (fun y=>y.2.1.toNat)
    ⟨rfl,by simp;omega,by simp;omega,rfl,by simp;omega,by simp;omega,polOK_const _,under_const _ _⟩ ?_
  rintro⟨(n':Int),(k:Int),(b':List Int),(r:Int),(o:List Mono),⟨⟩⟩ hI
  dsimp only at hI ⊢
  obtain⟨rfl,k1,k2,rfl,k3,k4,k5,k6⟩:=hI
  obtain⟨d1,d2,d3,d4⟩:=hf3 b' r hb (by omega) (by omega)
  generalize hs:(f3 (b',r,())).2.2.1=s at d2 d3
  obtain⟨e1,e2,e3,e4⟩:=hf1 3 b' s hb (by omega) (by omega)
  have em:=Int.emod_nonneg (f3 (b',r,())).1 (show(65535:Int)≠0 by omega)
  have em2:=Int.emod_lt_of_pos (f3 (b',r,())).1 (show(0:Int)<65535 by omega)
  have tm:=tmod_nn (b:=65535) d4.1
  simp (disch:=omega) only [RR,hp3 b' r hb (by omega) (by omega),d1,hs,hp1 3 b' s hb (by omega) (by omega),e1,e2,tm]
  refine⟨fun k7=>⟨by omega,?_⟩,fun k7=>⟨rfl,by dsimp only;omega,by dsimp only;omega,k5,k6⟩⟩
  have m0:([⟨1+(f3 (b',r,())).1%65535,[]⟩]:List Mono)=pConst (1+(f3 (b',r,())).1%65535):=by unfold pConst;rw [if_pos (by omega)]
  rw [m0]
  refine loop_intro (fun(y:Int×Int×Int×List Int×Int×List Mono×List Mono×Unit)=>y.1=n'∧y.2.1=k∧0≤y.2.2.1∧y.2.2.1≤2∧y.2.2.2.1=b'∧r≤y.2.2.2.2.1∧y.2.2.2.2.1+y.2.2.1≤r+6∧y.2.2.2.2.2.1=o∧PolOK y.2.2.2.2.2.2.1∧pUnder y.2.2.2.2.2.2.1 n') (fun y=>y.2.2.1.toNat)
    ⟨rfl,rfl,e3,by dsimp only;omega,rfl,by dsimp only;omega,by dsimp only;omega,rfl,polOK_const _,under_const _ _⟩ ?_
  rintro⟨(n2:Int),(k':Int),(j:Int),(bb:List Int),(u:Int),(o':List Mono),(m:List Mono),⟨⟩⟩ hI
  dsimp only at hI ⊢
  obtain⟨rfl,rfl,j1,j2,rfl,j3,j4,rfl,j5,j6⟩:=hI
  obtain⟨g1,g2,g3,g4⟩:=hf1 n2 bb u hb (by omega) (by omega)
  have sA:=(polOK_atom (f1 (n2,bb,u,())).1).sh
  simp (disch:=omega) only [RR,hp1 n2 bb u hb (by omega) (by omega),g1,g2,hp2,hf2,hp4 m _ j5.sh sA,hf4 m _ j5.sh sA,hp5 o' m k5.sh j5.sh,hf5 o' m k5.sh j5.sh]
  refine⟨fun⟨i1,i2⟩=>⟨fun i3=>⟨⟨by omega,by omega,by omega,by omega,mulF_ok _ _,mulF_under j6 (under_atom (by omega))⟩,by omega⟩,fun i3=>⟨⟨by omega,by omega,by omega,by omega,j5,j6⟩,by omega⟩⟩,fun i1=>⟨fun i3=>⟨⟨by omega,by omega,by omega,by omega,addF_ok _ _,addF_under k6 j6⟩,by omega⟩,fun i3=>⟨⟨by omega,by omega,by omega,by omega,k5,k6⟩,by omega⟩⟩⟩
end Go.TX.F
namespace Go.TX.F
open Go Go.AE Go.TX
def Regs (n:Int) (t:List Atom):Prop:=(t.length:Int)=n∧All n (fun i=>((t).getD (i).toNat default)=⟨1,i,[],[]⟩)
theorem regs_ok {t:List Atom} (h:Regs 4 t):TabOK t:=by
  obtain⟨h1,h2⟩:=h
  refine tabOK_iff.2 ⟨?_,by omega⟩
  rw [h1]
  intro i i1 i2
  have e:=h2 i i1 i2
  dsimp only at e ⊢
  rw [e]
  refine⟨?_,fun j j1 j2=> ?_⟩
  · unfold aDefd;rw [if_neg (by simp)];exact⟨⟨rfl,rfl⟩,Or.inl ⟨rfl,by dsimp only;omega,by dsimp only;omega⟩⟩
  · have e2:=h2 j j1 (by omega)
    dsimp only at e2 ⊢
    rw [e2];intro h;injection h;omega
theorem w_k91 {p2:Int×Unit→Bool} {f2:Int×Unit→List Mono×Unit} (hp2:∀n,p2 (n,())=true) (hf2:∀n,f2 (n,())=(pAtom n,())):F_k91 (std 0) p2 f2 () (fun y=>Regs 4 y.1):=by
  dsimp only [F_k91]
  simp (disch:=omega) only [RR,hp2,hf2]
  refine loop_intro (fun(y:Int×List (List Mono)×List Atom×Unit)=>0≤y.1∧y.1≤4∧(y.2.1.length:Int)=y.1∧Regs y.1 y.2.2.1) (fun y=>(4-y.1).toNat) ⟨by simp,by simp,by simp,by simp,All.zero⟩ ?_
  rintro⟨(i:Int),(q:List (List Mono)),(t:List Atom),⟨⟩⟩ hI
  dsimp only at hI ⊢
  obtain⟨h1,h2,h3,h4,h5⟩:=hI
  simp (disch:=omega) only [RR,hp2,hf2,List.length_cons,List.length_nil]
  refine⟨fun h6=>⟨by omega,by omega,⟨by omega,by omega,by rw [List.length_append];simp only [List.length_cons,List.length_nil];omega,by rw [List.length_append];simp only [List.length_cons,List.length_nil];omega,fun j j1 j2=> ?_⟩,by omega⟩,fun h6=> ?_⟩
  · dsimp only
    have hl:((t++ [(⟨1,i,[],[]⟩:Atom)]).length:Int)=t.length+1:=by rw [List.length_append];rfl
    by_cases c:j<i
    · have:=h5 j j1 c
      dsimp only at this
      rw [getD_lt (show j.toNat<t.length by omega)]at this
      rw [getD_lt (show j.toNat< (t++ [(⟨1,i,[],[]⟩:Atom)]).length by omega),List.getElem_append_left (show j.toNat<t.length by omega)];exact this
    · have:j=i:=by omega
      subst this
      rw [getD_lt (show j.toNat< (t++ [(⟨1,j,[],[]⟩:Atom)]).length by omega),List.getElem_append_right (by omega)]
      simp
  · rw [show i=4 by omega]at h4 h5;exact⟨h4,h5⟩
structure TabD (b:List Int) (p n:Int) (y:List Int×Int×List Atom×Unit):Prop where
  b:y.1=b
  lo:p≤y.2.1
  hi:y.2.1≤p+10000
  sh:ShT y.2.2.1
  ne:0<y.2.2.1.length
  le:(y.2.2.1.length:Int)≤n
theorem w_k106 {p1:Int×List Int×Int×Unit→Bool} {f1:Int×List Int×Int×Unit→Int×List Int×Int×Unit} (hp1:∀n b p,Bt b→0≤p→p<1000000000→p1 (n,b,p,())=true) (hf1:∀n b p,Bt b→0≤p→p<1000000000→Pk n b p (f1 (n,b,p,())))
    {p2:List Atom×Int×List Mono×List Mono×Unit→Bool} {f2:List Atom×Int×List Mono×List Mono×Unit→List Atom×List Mono×Unit} (hp2:∀t op x y,ShT t→Sh x→Sh y→p2 (t,op,x,y,())=true) (hf2:∀t op x y,ShT t→Sh x→Sh y→f2 (t,op,x,y,())=((tabDo t op x y).1,(tabDo t op x y).2,()))
    {p3:Int×List Int×Int×Unit→Bool} {f3:Int×List Int×Int×Unit→List Int×Int×List Mono×Unit} (hp3:∀n b p,Bt b→0≤n→0≤p→p<500000000→p3 (n,b,p,())=true) (hf3:∀n b p,Bt b→0≤n→0≤p→p<500000000→PolyD n b p (f3 (n,b,p,())))
    {p4:Unit→Bool} {f4:Unit→List Atom×List (List Mono)×Unit} (hp4:p4 ()=true) (hf4:Regs 4 (f4 ()).1)
    {p5:List Atom×Atom×Unit→Bool} {f5:List Atom×Atom×Unit→Int×List Atom×Unit} (hp5:∀t a,ShT t→ShA a→p5 (t,a,())=true) (hf5:∀t a,ShT t→ShA a→f5 (t,a,())=if bp (TabOK t)then((tPut t a).2,(tPut t a).1,())else(-1,[],()))
    (b:List Int) (p:Int) (hb:Bt b) (h1:0≤p) (h2:p<400000000):F_k106 (std 0) p1 f1 p2 f2 p3 f3 p4 f4 p5 f5 (b,p,()) (fun y=>TabD b p 12 y):=by
  obtain⟨a1,a2,a3,a4⟩:=hf1 7 b p hb h1 (by omega)
  dsimp only [F_k106]
  simp (disch:=omega) only [RR,hp4,hp1 7 b p hb h1 (by omega),a1,a2]
  have r4:=hf4.1
  refine loop_intro (fun(y:Int×List Int×Int×List Atom×Unit)=>0≤y.1∧y.1≤6∧y.2.1=b∧p≤y.2.2.1∧y.2.2.1+401*y.1≤p+3000∧TabOK y.2.2.2.1∧0<y.2.2.2.1.length∧(y.2.2.2.1.length:Int)+y.1≤10) (fun y=>y.1.toNat)
    ⟨a3,by dsimp only;omega,rfl,by dsimp only;omega,by dsimp only;omega,regs_ok hf4,by dsimp only;omega,by dsimp only;omega⟩ ?_
  rintro⟨(k:Int),(b':List Int),(q:Int),(t:List Atom),⟨⟩⟩ hI
  dsimp only at hI ⊢
  obtain⟨k1,k2,rfl,k3,k4,k5,k6,k7⟩:=hI
  obtain⟨b1,b2,b3,b4⟩:=hf1 5 b' q hb (by omega) (by omega)
  obtain⟨c1,c2,c3,c4,c5⟩:=hf3 t.length b' (q+1) hb (by omega) (by omega) (by omega)
  generalize hr:(f3 (t.length,b',q+1,())).2.1=r at c2 c3
  obtain⟨d1,d2,d3,d4,d5⟩:=hf3 t.length b' r hb (by omega) (by omega) (by omega)
  obtain⟨e1,e2,e3,e4⟩:=hf1 3 b' q hb (by omega) (by omega)
  obtain⟨g1,g2,g3,g4⟩:=hf1 2 b' (q+1) hb (by omega) (by omega)
  obtain⟨i1,i2,i3,i4⟩:=hf1 3 b' (q+1+1) hb (by omega) (by omega)
  have tok:=tabDo_ok (op:=1+(f1 (5,b',q,())).1) k5 (by omega) (by omega) c4 d4 c5 d5
  simp (disch:=omega) only [RR,hp1 5 b' q hb (by omega) (by omega),b1,b2,hp3 t.length b' (q+1) hb (by omega) (by omega) (by omega),c1,hr,hp3 t.length b' r hb (by omega) (by omega) (by omega),d1,hp2 t _ _ _ k5.sh c4.sh d4.sh,hf2 t _ _ _ k5.sh c4.sh d4.sh,
    hp1 3 b' q hb (by omega) (by omega),e1,e2,hp1 2 b' (q+1) hb (by omega) (by omega),g1,g2,hp1 3 b' (q+1+1) hb (by omega) (by omega),i1,i2,hp5 t ⟨_,_,[],[]⟩ k5.sh ⟨nil_sh,nil_sh⟩,hf5 t ⟨_,_,[],[]⟩ k5.sh ⟨nil_sh,nil_sh⟩,bp_t k5,List.length_cons,List.length_nil]
  refine⟨fun k8=>⟨⟨by omega,by omega,by omega,by omega,tok.1,by omega,by omega⟩,by omega⟩,fun k8=>⟨fun k9=>⟨by omega,by omega,?_⟩,fun k9=>⟨rfl,by dsimp only;omega,by dsimp only;omega,k5.sh,k6,by dsimp only;omega⟩⟩⟩
  have pok:=tPut_ok (a:=⟨List.getD [(2:Int),3] (f1 (2,b',q+1,())).1.toNat default,(f1 (3,b',q+1+1,())).1,[],[]⟩) k5 (by omega)
  exact⟨rfl,by dsimp only;omega,by dsimp only;omega,pok.1.sh,by dsimp only;omega,by dsimp only;omega⟩
theorem w_k107 {p1:Int×List Int×Int×Unit→Bool} {f1:Int×List Int×Int×Unit→Int×List Int×Int×Unit} (hp1:∀n b p,Bt b→0≤p→p<1000000000→p1 (n,b,p,())=true) (hf1:∀n b p,Bt b→0≤p→p<1000000000→Pk n b p (f1 (n,b,p,())))
    {p2:Int×List Int×Int×Unit→Bool} {f2:Int×List Int×Int×Unit→Bool×List Int×Int×Unit} (hp2:∀n b p,Bt b→0≤p→p<1000000000→p2 (n,b,p,())=true) (hf2:∀n b p,Bt b→0≤p→p<1000000000→(f2 (n,b,p,())).2.1=b∧(f2 (n,b,p,())).2.2.1=p+1)
    {p3:Int×Unit→Bool} {f3:Int×Unit→List Mono×Unit} (hp3:∀n,p3 (n,())=true) (hf3:∀n,f3 (n,())=(pAtom n,()))
    {p4:List Int×Int×Unit→Bool} {f4:List Int×Int×Unit→List Int×Int×List Atom×Unit} (hp4:∀b p,Bt b→0≤p→p<400000000→p4 (b,p,())=true) (hf4:∀b p,Bt b→0≤p→p<400000000→TabD b p 12 (f4 (b,p,())))
    (n:Int) (b:List Int) (p:Int) (hb:Bt b) (h1:0≤p) (h2:p<300000000):F_k107 (std 0) p1 f1 p2 f2 p3 f3 p4 f4 (n,b,p,()) (fun(y:List Int×Int×List Atom×Unit)=>y.1=b∧p≤y.2.1∧y.2.1≤p+20000∧ShT y.2.2.1∧0<y.2.2.1.length):=by
  obtain⟨a1,a2,a3,a4,a5,a6⟩:=hf4 b p hb h1 (by omega)
  generalize hq:(f4 (b,p,())).2.1=q at a2 a3
  generalize ht:(f4 (b,p,())).2.2.1=t at a4 a5 a6
  obtain⟨b1,b2⟩:=hf2 n b q hb (by omega) (by omega)
  obtain⟨c1,c2,c3,c4⟩:=hf1 4 b (q+1) hb (by omega) (by omega)
  obtain⟨d1,d2,d3,d4⟩:=hf1 3 b (q+1+1) hb (by omega) (by omega)
  have cc:∀a:Atom,ShA a→ShT (t++ [a])∧0< (t++ [a]).length:=fun a ha=>⟨⟨by rw [List.length_append];simp only [List.length_cons,List.length_nil];omega,fun x hx=>by
    rw [List.mem_append,List.mem_singleton]at hx
    rcases hx with hx | rfl
    · exact a4.2 x hx
    · exact ha⟩,by simp⟩
  dsimp only [F_k107]
  simp (disch:=omega) only [RR,hp4 b p hb h1 (by omega),a1,hq,ht,hp2 n b q hb (by omega) (by omega),b1,b2,hp1 4 b (q+1) hb (by omega) (by omega),c1,c2,hp1 3 b (q+1+1) hb (by omega) (by omega),d1,d2,hp3,hf3,List.length_cons,List.length_nil]
  refine⟨fun _=>⟨fun _=>⟨by omega,by omega,by omega,by omega,by omega,by omega,by omega,cc _ (a4.at _)⟩,fun _=>⟨fun _=>⟨by omega,by omega,by omega,cc _ ⟨pAtom_sh 50,nil_sh⟩⟩,fun _=>⟨fun _=>⟨by omega,by omega,by omega,by omega,by omega,by omega,by omega,by omega,?_⟩,fun _=>⟨by omega,by omega,by omega,cc _ ⟨nil_sh,nil_sh⟩⟩⟩⟩⟩,fun _=>⟨by omega,by omega,a4,a5⟩⟩
  refine⟨⟨by rw [List.length_set];omega,fun x hx=> ?_⟩,by rw [List.length_set];omega⟩
  rcases List.mem_or_eq_of_mem_set hx with hx | rfl
  · exact a4.2 x hx
  · exact a4.at (Int.toNat 0)
theorem w_k79 {p0:List Int×Unit→Bool} {f0:List Int×Unit→List Int×Int×Unit} (hp0:∀b,By b→b.length<1000000000→p0 (b,())=true) (hf0:∀b,By b→b.length<1000000000→Bt (f0 (b,())).1∧(f0 (b,())).2.1=0)
    {p1:Int×List Int×Int×Unit→Bool} {f1:Int×List Int×Int×Unit→Int×List Int×Int×Unit} (hp1:∀n b p,Bt b→0≤p→p<1000000000→p1 (n,b,p,())=true) (hf1:∀n b p,Bt b→0≤p→p<1000000000→Pk n b p (f1 (n,b,p,())))
    {p2:Int×List Int×Int×Unit→Bool} {f2:Int×List Int×Int×Unit→Bool×List Int×Int×Unit} (hp2:∀n b p,Bt b→0≤p→p<1000000000→p2 (n,b,p,())=true) (hf2:∀n b p,Bt b→0≤p→p<1000000000→(f2 (n,b,p,())).2.1=b∧(f2 (n,b,p,())).2.2.1=p+1)
    {p3:Int×Unit→Bool} {f3:Int×Unit→List Mono×Unit} (hp3:∀n,p3 (n,())=true) (hf3:∀n,f3 (n,())=(pAtom n,()))
    {p4:Int×Unit→Bool} {f4:Int×Unit→List Mono×Unit} (hp4:∀n,p4 (n,())=true) (hf4:∀n,f4 (n,())=(pConst n,()))
    {p5:List Int×Int×Unit→Bool} {f5:List Int×Int×Unit→Int×List Int×Int×Unit} (hp5:∀b p,Bt b→0≤p→p<900000000→p5 (b,p,())=true) (hf5:∀b p,Bt b→0≤p→p<900000000→Wd b p (f5 (b,p,())))
    {p6:Int×List Int×Int×Unit→Bool} {f6:Int×List Int×Int×Unit→List Int×Int×List Mono×Unit} (hp6:∀n b p,Bt b→0≤n→0≤p→p<500000000→p6 (n,b,p,())=true) (hf6:∀n b p,Bt b→0≤n→0≤p→p<500000000→PolyD n b p (f6 (n,b,p,())))
    {p7:Int×List Int×Int×Unit→Bool} {f7:Int×List Int×Int×Unit→List Int×Int×List Atom×Unit} (hp7:∀n b p,Bt b→0≤p→p<300000000→p7 (n,b,p,())=true) (hf7:∀n b p,Bt b→0≤p→p<300000000→(f7 (n,b,p,())).1=b∧p≤(f7 (n,b,p,())).2.1∧(f7 (n,b,p,())).2.1≤p+20000∧ShT (f7 (n,b,p,())).2.2.1∧0< (f7 (n,b,p,())).2.2.1.length)
    (c:List Int) (hc:By c) (hl:c.length<1000000000):F_k79 (std 0) p0 f0 p1 f1 p2 f2 p3 f3 p4 f4 p5 f5 p6 f6 p7 f7 (c,()) (fun(y:Int×List Mono×List Mono×List Atom×Unit)=>Sh y.2.1∧Sh y.2.2.1∧ShT y.2.2.2.1∧0<y.2.2.2.1.length):=by
  obtain⟨hb,e0⟩:=hf0 c hc hl
  generalize hbe:(f0 (c,())).1=b at hb
  obtain⟨a1,a2,a3,a4,a5⟩:=hf7 20 b 0 hb (by omega) (by omega)
  generalize hq:(f7 (20,b,0,())).2.1=q at a2 a3
  generalize ht:(f7 (20,b,0,())).2.2.1=t at a4 a5
  obtain⟨b1,b2,_⟩:=hf1 5 b q hb (by omega) (by omega)
  obtain⟨c1,c2⟩:=hf2 20 b (q+1) hb (by omega) (by omega)
  obtain⟨d1,d2,d3,d4⟩:=hf1 2 b (q+1+1) hb (by omega) (by omega)
  have htl:=a4.1
  have tail:∀q2,q≤q2→q2≤q+10→∃r,(f6 (t.length,b,q2,())).1=b∧(f6 (t.length,b,q2,())).2.1=r∧p6 (t.length,b,q2,())=true∧Sh (f6 (t.length,b,q2,())).2.2.1∧∃s,(f6 (t.length,b,r,())).1=b∧(f6 (t.length,b,r,())).2.1=s∧p6 (t.length,b,r,())=true∧Sh (f6 (t.length,b,r,())).2.2.1
      ∧(∀n,p1 (n,b,s,())=true)∧(f1 (6,b,s,())).2.1=b∧(f1 (6,b,s,())).2.2.1=s+1∧(∀n,p2 (n,b,s+1,())=true)∧p5 (b,s+1,())=true∧(f5 (b,s+1,())).2.1=b∧∃w,(f5 (b,s+1,())).2.2.1=w∧p1 (4,b,w,())=true∧0≤(f1 (4,b,w,())).1∧(f1 (4,b,w,())).1<4:=by
    intro q2 h1 h2
    obtain⟨g1,g2,g3,g4,_⟩:=hf6 t.length b q2 hb (by omega) (by omega) (by omega)
    obtain⟨i1,i2,i3,i4,_⟩:=hf6 t.length b (f6 (t.length,b,q2,())).2.1 hb (by omega) (by omega) (by omega)
    generalize (f6 (t.length,b,q2,())).2.1=r at g2 g3 i1 i2 i3 i4 ⊢
    refine⟨r,g1,rfl,hp6 _ _ _ hb (by omega) (by omega) (by omega),g4.sh,_,i1,rfl,hp6 _ _ _ hb (by omega) (by omega) (by omega),i4.sh,?_⟩
    generalize (f6 (t.length,b,r,())).2.1=s at i2 i3 ⊢
    obtain⟨j1,j2,_⟩:=hf1 6 b s hb (by omega) (by omega)
    obtain⟨k1,k2,k3,_⟩:=hf5 b (s+1) hb (by omega) (by omega)
    obtain⟨_,_,m3,m4⟩:=hf1 4 b (f5 (b,s+1,())).2.2.1 hb (by omega) (by omega)
    exact⟨fun n=>hp1 n b s hb (by omega) (by omega),j1,j2,fun n=>hp2 n b (s+1) hb (by omega) (by omega),hp5 b (s+1) hb (by omega) (by omega),k1,_,rfl,hp1 4 b _ hb (by omega) (by omega),m3,by omega⟩
  dsimp only [F_k79]
  simp (disch:=omega) only [RR,hp0 c hc hl,hbe,e0,hp7 20 b 0 hb (by omega) (by omega),a1,hq,ht,hp1 5 b q hb (by omega) (by omega),b1,b2,hp2 20 b (q+1) hb (by omega) (by omega),c1,c2,hp1 2 b (q+1+1) hb (by omega) (by omega),d1,d2,hp3,hf3,hp4,hf4,List.length_cons,List.length_nil]
  refine⟨fun _=>⟨by omega,by omega,by omega,by omega,?_⟩,fun _=> ?_⟩
  · obtain⟨r,t1,t2,t3,t4,s,t5,t6,t7,t8,t9,t10,t11,t12,t13,t14,w,t15,t16,t17,t18⟩:=tail (q+1+1+1) (by omega) (by omega)
    simp only [t1,t2,t3,t5,t6,t7,t9,t10,t11,t12,t13,t14,t15,t16]
    exact⟨trivial,trivial,trivial,fun _=>⟨t4,t4,a4,a5⟩,fun _=>⟨fun _=>⟨trivial,trivial,t17,by omega,t17,by omega,t4,pConst_sh _,a4,a5⟩,fun _=>⟨fun _=>⟨trivial,trivial,t17,by omega,t17,by omega,pConst_sh _,t8,a4,a5⟩,fun _=>⟨fun _=>⟨trivial,fun _=>⟨t4,pAtom_sh _,a4,a5⟩,fun _=>⟨t4,t8,a4,a5⟩⟩,fun _=>⟨t4,t8,a4,a5⟩⟩⟩⟩⟩
  · obtain⟨r,t1,t2,t3,t4,s,t5,t6,t7,t8,t9,t10,t11,t12,t13,t14,w,t15,t16,t17,t18⟩:=tail (q+1+1) (by omega) (by omega)
    simp only [t1,t2,t3,t5,t6,t7,t9,t10,t11,t12,t13,t14,t15,t16]
    exact⟨trivial,trivial,trivial,fun _=>⟨t4,t4,a4,a5⟩,fun _=>⟨fun _=>⟨trivial,trivial,t17,by omega,t17,by omega,t4,pConst_sh _,a4,a5⟩,fun _=>⟨fun _=>⟨trivial,trivial,t17,by omega,t17,by omega,pConst_sh _,t8,a4,a5⟩,fun _=>⟨fun _=>⟨trivial,fun _=>⟨t4,pAtom_sh _,a4,a5⟩,fun _=>⟨t4,t8,a4,a5⟩⟩,fun _=>⟨t4,t8,a4,a5⟩⟩⟩⟩⟩
end Go.TX.F
namespace Go.TX.F
open Go Go.AE Go.TX
theorem sumF_eq {l o:List Mono} (h:PolOK o) (h2:∀k,cf o k=cf l k%65536):sumF l=(true,o):=by
  unfold sumF;rw [nf_eq h.nf h2,bp_t h,if_pos rfl]
theorem prods_cons (m:Mono) (a b:List Mono):prods (m::a) b=b.map (mulM m)++prods a b:=by simp [prods]
theorem tPut_twice {t:List Atom} {a:Atom} (h:TabOK t) (h2:0≤(tPut t a).2):TabOK (tPut t a).1∧t.length≤(tPut t a).1.length∧tPut (tPut t a).1 a=tPut t a:=by
  have hsp:=tFind_spec t a
  by_cases c:0≤tFind t a
  · have e:tPut t a=(t,tFind t a):=by unfold tPut;rw [if_pos c]
    rw [e];exact⟨h,Nat.le_refl _,e⟩
  · by_cases c2:¬aDefd a t.length∨t.length=200
    · have e:tPut t a=(t, -1):=by unfold tPut;rw [if_neg c,if_pos c2]
      rw [e]at h2;exact absurd h2 (by omega)
    · have e:tPut t a=(t++ [a],(t.length:Int)):=by unfold tPut;rw [if_neg c,if_neg c2]
      have hl:t.length<200:=by have:=h.2;omega
      have ok:=tPut_ok (a:=a) h hl
      refine⟨ok.1,ok.2.1,?_⟩
      rw [e]
      have g1:∀i:Int,0≤i→i<t.length→(t++ [a]).getD i.toNat default=t.getD i.toNat default:=fun i i1 i2=>by
        rw [getD_lt (show i.toNat< (t++ [a]).length by rw [List.length_append];omega),getD_lt (show i.toNat<t.length by omega),List.getElem_append_left]
      have g2:(t++ [a]).getD ((t.length:Int)).toNat default=a:=by
        rw [getD_lt (show((t.length:Int)).toNat< (t++ [a]).length by rw [List.length_append];simp)];simp
      have f:tFind (t++ [a]) a=t.length:=by
        refine(tFind_spec (t++ [a]) a).uniq (Or.inr ⟨by omega,by rw [List.length_append];simp only [List.length_cons,List.length_nil];omega,by dsimp only;rw [g2],fun j j1 j2=> ?_⟩)
        dsimp only;rw [g1 j j1 j2]
        rcases hsp with⟨_,g⟩ | ⟨g,_⟩
        · exact g j j1 j2
        · exact absurd g c
      show tPut (t++ [a]) a=_
      unfold tPut;rw [f,if_pos (by omega)]
theorem tDo_twice {t:List Atom} {op:Int} {x y:List Mono} (h:TabOK t) (h2:(tDo t op x y).1≠ []):TabOK (tDo t op x y).1∧t.length≤(tDo t op x y).1.length∧tDo (tDo t op x y).1 op x y=tDo t op x y:=by
  by_cases c:(simpF op x y).2=true
  · have e:∀t,tDo t op x y=(t,(simpF op x y).1):=fun t=>by unfold tDo;rw [if_pos c]
    rw [e t];exact⟨h,Nat.le_refl _,e t⟩
  · by_cases c2:op≠2∧0<pOrd x y
    · have e:∀t,tDo t op x y=if(tPut t ⟨4,op,y,x⟩).2<0 then([],[])else((tPut t ⟨4,op,y,x⟩).1,pAtom (tPut t ⟨4,op,y,x⟩).2):=fun t=>by unfold tDo;rw [if_neg c,if_pos c2]
      rw [e t]at h2 ⊢
      by_cases c3:(tPut t ⟨4,op,y,x⟩).2<0
      · rw [if_pos c3]at h2;exact absurd rfl h2
      · rw [if_neg c3]
        obtain⟨g1,g2,g3⟩:=tPut_twice (a:=⟨4,op,y,x⟩) h (by omega)
        refine⟨g1,g2,?_⟩
        rw [e,g3,if_neg c3]
    · have e:∀t,tDo t op x y=if(tPut t ⟨4,op,x,y⟩).2<0 then([],[])else((tPut t ⟨4,op,x,y⟩).1,pAtom (tPut t ⟨4,op,x,y⟩).2):=fun t=>by unfold tDo;rw [if_neg c,if_neg c2]
      rw [e t]at h2 ⊢
      by_cases c3:(tPut t ⟨4,op,x,y⟩).2<0
      · rw [if_pos c3]at h2;exact absurd rfl h2
      · rw [if_neg c3]
        obtain⟨g1,g2,g3⟩:=tPut_twice (a:=⟨4,op,x,y⟩) h (by omega)
        refine⟨g1,g2,?_⟩
        rw [e,g3,if_neg c3]
theorem scaleF_neg {x:List Mono} (h:PolOK x):PolOK (scaleF x 65535)∧∀k,cf (scaleF x 65535) k=(65535*cf x k)%65536:=by
  have hc:∀(l:List Mono) k,cf (l.map fun m=>(⟨m.coef*65535%65536,m.atoms⟩:Mono)) k%65536=(65535*cf l k)%65536:=fun l k=>by
    induction l with
    | nil=>rfl
    | cons m l ih=>rw [List.map_cons,cf_cons,cf_cons];dsimp only;split<;>omega
  have no:Nf (x.map fun m=>(⟨m.coef*65535%65536,m.atoms⟩:Mono)):=⟨by
    rw [List.pairwise_map];exact h.nf.ss,fun m hm=>by
    rw [List.mem_map]at hm
    obtain⟨n,hn,rfl⟩:=hm
    have:=h.nf.co n hn
    dsimp only;omega⟩
  have ok:PolOK (x.map fun m=>(⟨m.coef*65535%65536,m.atoms⟩:Mono)):=polOK_iff.2 ⟨no,by rw [List.length_map];exact h.len,fun m hm=>by
    rw [List.mem_map]at hm
    obtain⟨n,hn,rfl⟩:=hm
    exact show n.atoms.length≤4∧aok n.atoms from h.aok hn⟩
  have pe:prods x (pConst 65535)=x.map fun m=>(⟨m.coef*65535%65536,m.atoms⟩:Mono):=by
    unfold pConst;rw [if_pos (by omega),prods_one]
    exact List.map_congr_left fun m hm=>mulM_one 65535 (h.aok hm).2
  have e:scaleF x 65535=x.map fun m=>(⟨m.coef*65535%65536,m.atoms⟩:Mono):=by
    unfold scaleF mulF
    rw [if_pos (by rw [bp_t h];rfl),if_pos (by rw [bp_t h,bp_t (polOK_const _)];rfl),pe,sumF_eq ok (fun k=>by have:=no.bnd k;omega)]
  rw [e]
  exact⟨ok,fun k=>by rw [←hc];have:=no.bnd k;omega⟩
theorem sub_self {x:List Mono} (h:PolOK x):simpF 2 x x=([],true):=by
  obtain⟨h1,h2⟩:=scaleF_neg h
  unfold simpF addF
  rw [if_neg (by omega),if_pos rfl,if_pos (by rw [bp_t h,bp_t h1];rfl),sumF_eq polOK_nil (fun k=>by rw [cf_append,h2,cf_nil];omega)]
theorem pNum_const {x:List Mono} (h:(pNum x).2=true):PolOK x∧x=pConst (pNum x).1∧0≤(pNum x).1∧(pNum x).1≤65535:=by
  unfold pNum at h ⊢
  by_cases c:PolOK x
  · rw [bp_t c,if_pos rfl]at h ⊢
    refine⟨c,?_⟩
    by_cases c1:x.length=0
    · rw [if_pos c1];exact⟨by rw [List.eq_nil_of_length_eq_zero c1];rfl,by omega,by omega⟩
    · rw [if_neg c1]at h ⊢
      by_cases c2:x.length=1∧(x.getD 0 default).atoms.length=0
      · rw [if_pos c2]
        match x,c,c2 with
        | [m],c,c2=>
          have hc:=c.nf.co m (by simp)
          have ha:m.atoms=[]:=List.eq_nil_of_length_eq_zero c2.2
          refine⟨?_,by show 0≤m.coef;omega,by show m.coef≤65535;omega⟩
          show [m]=pConst m.coef
          unfold pConst;rw [if_pos hc,←ha]
      · rw [if_neg c2]at h;exact absurd h (by simp)
  · rw [bp_f c]at h;exact absurd h (by simp)
theorem and_self' {a:Int} (h1:0≤a) (h2:a≤65535):bitI .and .i64 a a=a:=by
  unfold bitI;dsimp only
  have e:((2^IntKind.i64.bits:Nat):Int)=18446744073709551616:=by decide
  rw [BitVec.and_self,BitVec.toNat_ofInt,e,w64 (by omega) (by omega)];omega
theorem xor_self' (a:Int):bitI .xor .i64 a a=0:=by
  unfold bitI;dsimp only
  rw [BitVec.xor_self];rfl
theorem and_zero' (a:Int):bitI .and .i64 a 0=0:=by
  unfold bitI;dsimp only
  rw [show BitVec.ofInt IntKind.i64.bits 0=0#IntKind.i64.bits by rfl,BitVec.and_zero];rfl
end Go.TX.F
namespace Go.TX.F
open Go Go.AE Go.TX
end Go.TX.F
