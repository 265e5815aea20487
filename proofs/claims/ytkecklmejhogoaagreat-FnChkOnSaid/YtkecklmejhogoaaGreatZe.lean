/- Part 5 of a proof: what the last part needs. No condition. -/
import Derived.Test.YtkecklmejhogoaaGreatZd
set_option linter.all false
set_option linter.unusedSectionVars false
set_option linter.unusedVariables false
set_option linter.unusedSimpArgs false
namespace Go.TX.Seat
open Go Go.AE Go.TX Go.TX.F Go.Proofs
set_option maxRecDepth 100000
theorem anq (A:Alg) (fT:Ct A.ah jE): @Ru aH.z X E A [] .u M5 Tryz.f20 [(64,⟨_,fT⟩)] (Yr A fT.pre fT.fn):=fun _=>by kernel_rfl
theorem aho (A:Alg): @Ru aH.z X E A [(6,[(0,([0],[])),(1,([5],[])),(2,([16,17],[])),(3,([18],[])),(4,([1],[])),(5,([5],[])),(6,([20,21],[])),(7,([22],[])),(8,([19,23],[]))])] (.seq .u (.seq .u (.seq (.seq .u (.block (.loop ⟨[(0,.c (.rows false .iop)),(1,.c (.rows false .iop)),(12,.c (.int .i64)),(13,.c (.int .i64))],[]⟩ .u))) .u))) EW Tryz.f117 [] (RQ A):=fun _=>by kernel_rfl
theorem anr (A:Alg) (Gz:Ct A.ah EW): @Ru aH.z X E A [] .u M6 Tryz.f66 [(117,⟨_,Gz⟩)] (Yt A Gz.pre Gz.fn):=fun _=>by kernel_rfl
theorem ant (A:Alg): @Ru aH.z X E A [] .u M7 Tryz.f252 [] (Yu A):=fun _=>by kernel_rfl
theorem ahp (A:Alg) (Oc:Ct A.ah M7): @Ru aH.z X E A [] (.seq .u (.seq (.seq .u (.block (.loop ⟨[(0,.c (.rows false .i64)),(1,.c (.fn 252 [(0,1)])),(7,.c (.int .i64)),(8,.c (.int .i64))],[.box (.c (.int .i64))]⟩ .u))) .u)) EX Tryz.f275 [(252,⟨_,Oc⟩)] (RS A Oc.pre Oc.fn):=fun _=>by kernel_rfl
theorem ahq (A:Alg) (GA:Ct A.ah EX): @Ru aH.z X E A [] .u EY Tryz.f251 [(275,⟨_,GA⟩)] (RU A GA.pre GA.fn):=fun _=>by kernel_rfl
theorem anu (A:Alg) (GD:Ct A.ah EY): @Ru aH.z X E A [] (.seq .u (.seq (.seq .u (.block (.loop ⟨[(3,.c (.pb 0 1 0)),(8,.c (.rows false .mono)),(9,.c (.int .i64)),(10,.c (.int .i64))],[.box (.c (.int .i64))]⟩ .u))) .u)) BH Tryz.f210 [(251,⟨_,GD⟩)] (Yv A GD.pre GD.fn):=fun _=>by kernel_rfl
theorem arT (A:Alg): @Ru aH.z X E A [] .u M8 Tryz.f257 [] (afJ A):=fun _=>by kernel_rfl
theorem arU (A:Alg) (IE:Ct A.ah M8): @Ru aH.z X E A [] .u EZ Tryz.f217 [(257,⟨_,IE⟩)] (afK A IE.pre IE.fn):=fun _=>by kernel_rfl
theorem arV (A:Alg): @Ru aH.z X E A [] (.seq .u (.seq .u (.seq (.seq .u (.block (.loop ⟨[(3,.c (.int .i64)),(6,.c (.rows false .i64)),(7,.c (.int .i64)),(8,.c (.int .i64))],[]⟩ .u))) .u))) M9 Tryz.f218 [] (afL A):=fun _=>by kernel_rfl
theorem anv (A:Alg) (yE:Ct A.ah EZ): @Ru aH.z X E A [] (.seq .u (.seq (.seq .u (.block (.loop ⟨[(0,.c (.rows false .i64)),(1,.c (.rows false .i64)),(9,.c (.rows false .i64)),(10,.c (.int .i64)),(11,.c (.int .i64))],[]⟩ .u))) .u)) Na Tryz.f258 [(217,⟨_,yE⟩)] (Yy A yE.pre yE.fn):=fun _=>by kernel_rfl
theorem anw (A:Alg) (IG:Ct A.ah M9) (yE:Ct A.ah EZ) (Od:Ct A.ah Na): @Ru aH.z X E A [] .u oH Tryz.f219 [(218,⟨_,IG⟩),(217,⟨_,yE⟩),(258,⟨_,Od⟩)] (Yz A IG.pre IG.fn yE.pre yE.fn Od.pre Od.fn):=fun _=>by kernel_rfl
theorem arW (A:Alg) (IE:Ct A.ah M8): @Ru aH.z X E A [] .u E5 Tryz.f259 [(257,⟨_,IE⟩)] (afO A IE.pre IE.fn):=fun _=>by kernel_rfl
theorem ahr (A:Alg) (yF:Ct A.ah E5): @Ru aH.z X E A [(4,[(0,([0],[])),(1,([3],[])),(2,([11,12],[])),(3,([13],[])),(4,([0],[])),(5,([3],[])),(6,([16],[])),(7,([15,17],[])),(8,([18],[])),(9,([14,19],[]))])] (.seq .u (.seq (.seq .u (.block (.loop ⟨[(0,.c (.rows false .i64)),(3,.c (.int .i64))],[]⟩ .u))) .u)) E8 Tryz.f221 [(259,⟨_,yF⟩)] (RV A yF.pre yF.fn):=fun _=>by kernel_rfl
theorem anx (A:Alg): @Ru aH.z X E A [] .u Nb Tryz.f223 [] (YC A):=fun _=>by kernel_rfl
theorem ahs (A:Alg) (Oe:Ct A.ah Nb): @Ru aH.z X E A [] (.seq .u (.seq (.seq .u (.block (.loop ⟨[(0,.c (.rows false .mono)),(1,.c (.fn 223 [])),(7,.c (.int .i64)),(8,.c (.int .i64))],[]⟩ .u))) .u)) E9 Tryz.f260 [(223,⟨_,Oe⟩)] (RX A Oe.pre Oe.fn):=fun _=>by kernel_rfl
theorem aht (A:Alg) (GH:Ct A.ah E9): @Ru aH.z X E A [] .u Fa Tryz.f222 [(260,⟨_,GH⟩)] (RY A GH.pre GH.fn):=fun _=>by kernel_rfl
theorem anz (A:Alg) (aZ:Ct A.ah cZ) (wX:Ct A.ah BH) (GI:Ct A.ah E8) (jG:Ct A.ah oH) (GJ:Ct A.ah Fa): @Ru aH.z X E A [(4,[(0,([4],[])),(1,([13],[])),(2,([14],[])),(3,([15],[])),(4,([16],[])),(5,([4,17],[])),(6,([17,18],[])),(7,([17,19],[])),(8,([17,20],[])),(9,([17,21],[])),(10,([22],[])),(11,([4,23],[])),(12,([23,24],[])),(13,([23,25],[])),(14,([23,26],[])),(15,([23,27],[])),(16,([28],[])),(17,([3,29],[])),(18,([29,30],[])),(19,([29,31],[])),(20,([1,32],[])),(21,([32,33],[])),(22,([3,32],[])),(23,([32,35],[])),(24,([32,34,36],[])),(25,([32,37],[])),(26,([32,38],[])),(27,([4,32],[])),(28,([32,40],[])),(29,([32,39,41],[])),(30,([32,42],[])),(31,([29,32,43],[])),(32,([29,44],[]))])] (.seq .u (.seq (.seq .u (.block (.loop ⟨[(1,.c (.pb 0 1 0)),(6,.c (.rows false .mono)),(7,.c (.int .i64)),(8,.c (.int .i64))],[.box (.sv false .poly)]⟩ .u))) .u)) iL Tryz.f164 [(73,⟨_,aZ⟩),(210,⟨_,wX⟩),(221,⟨_,GI⟩),(219,⟨_,jG⟩),(222,⟨_,GJ⟩)] (YD A aZ.pre aZ.fn wX.pre wX.fn GI.pre GI.fn jG.pre jG.fn GJ.pre GJ.fn):=fun _=>by kernel_rfl
theorem anA (A:Alg) (aZ:Ct A.ah cZ) (wV:Ct A.ah BF) (wX:Ct A.ah BH) (eH:Ct A.ah iL) (wW:Ct A.ah BD): @Ru aH.z X E A [] .u BI Tryz.f158 [(73,⟨_,aZ⟩),(137,⟨_,wV⟩),(210,⟨_,wX⟩),(164,⟨_,eH⟩),(136,⟨_,wW⟩)] (YE A aZ.pre aZ.fn wV.pre wV.fn wX.pre wX.fn eH.pre eH.fn wW.pre wW.fn):=fun _=>by kernel_rfl
theorem anB (A:Alg) (IG:Ct A.ah M9) (yE:Ct A.ah EZ) (jG:Ct A.ah oH): @Ru aH.z X E A [(7,[(0,([7],[])),(1,([27],[])),(2,([3],[])),(3,([29],[])),(4,([6],[])),(5,([30,31],[])),(6,([32],[])),(7,([33],[])),(9,([7],[])),(10,([36],[])),(11,([3],[])),(12,([38],[])),(13,([6],[])),(14,([39,40],[])),(15,([41],[])),(16,([42],[])),(8,([28,34],[10,12,16])),(17,([37,43],[])),(18,([35,44],[])),(19,([45],[])),(20,([46],[]))])] (.seq .u (.seq .u (.seq (.seq .u (.block (.loop ⟨[(3,.c (.pb 0 1 0)),(20,.c (.rows false .mono)),(21,.c (.int .i64)),(22,.c (.int .i64))],[.box (.sv false .poly)]⟩ .u))) .u))) uQ Tryz.f161 [(218,⟨_,IG⟩),(217,⟨_,yE⟩),(219,⟨_,jG⟩)] (YF A IG.pre IG.fn yE.pre yE.fn jG.pre jG.fn):=fun _=>by kernel_rfl
theorem anC (A:Alg) (nI:Ct A.ah uQ): @Ru aH.z X E A [] .u jF Tryz.f128 [(161,⟨_,nI⟩)] (YG A nI.pre nI.fn):=fun _=>by kernel_rfl
theorem anD (A:Alg) (fU:Ct A.ah jF): @Ru aH.z X E A [] .u Nc Tryz.f213 [(128,⟨_,fU⟩)] (YH A fU.pre fU.fn):=fun _=>by kernel_rfl
theorem anE (A:Alg) (Og:Ct A.ah Nc): @Ru aH.z X E A [] .u Ng Tryz.f212 [(213,⟨_,Og⟩)] (YI A Og.pre Og.fn):=fun _=>by kernel_rfl
theorem ahu (A:Alg) (Oh:Ct A.ah Ng): @Ru aH.z X E A [] (.seq .u (.seq (.seq .u (.block (.loop ⟨[(0,.c (.rows false .atom)),(1,.c (.fn 212 [(0,4)])),(7,.c (.int .i64)),(8,.c (.int .i64))],[.box (.sv false .atom)]⟩ .u))) .u)) Fb Tryz.f211 [(212,⟨_,Oh⟩)] (RZ A Oh.pre Oh.fn):=fun _=>by kernel_rfl
theorem anF (A:Alg) (GK:Ct A.ah Fb): @Ru aH.z X E A [] .u BJ Tryz.f159 [(211,⟨_,GK⟩)] (YJ A GK.pre GK.fn):=fun _=>by kernel_rfl
theorem anG (A:Alg): @Ru aH.z X E A [] .u Nh Tryz.f220 [] (YK A):=fun _=>by kernel_rfl
theorem anH (A:Alg) (wY:Ct A.ah BI) (wZ:Ct A.ah BJ) (Oi:Ct A.ah Nh): @Ru aH.z X E A [(6,[(0,([2],[])),(1,([28],[])),(3,([3],[])),(4,([31],[])),(2,([29],[3])),(5,([30,32],[])),(6,([33],[])),(7,([],[])),(8,([7,34],[]))]),(7,[(0,([7],[])),(1,([2],[])),(2,([36],[])),(3,([37],[])),(4,([4,35],[2])),(5,([38],[]))])] .u BK Tryz.f162 [(158,⟨_,wY⟩),(159,⟨_,wZ⟩),(220,⟨_,Oi⟩)] (YL A wY.pre wY.fn wZ.pre wZ.fn Oi.pre Oi.fn):=fun _=>by kernel_rfl
theorem anI (A:Alg) (aZ:Ct A.ah cZ): @Ru aH.z X E A [] .u BL Tryz.f163 [(73,⟨_,aZ⟩)] (YQ A aZ.pre aZ.fn):=fun _=>by kernel_rfl
theorem anJ (A:Alg) (w9:Ct A.ah BL) (xg:Ct A.ah BK): @Ru aH.z X E A [] .u BM Tryz.f124 [(163,⟨_,w9⟩),(162,⟨_,xg⟩)] (YR A w9.pre w9.fn xg.pre xg.fn):=fun _=>by kernel_rfl
theorem anK (A:Alg) (xk:Ct A.ah BM): @Ru aH.z X E A [] (.seq .u (.seq .u (.seq (.seq .u (.block (.loop ⟨[(0,.c (.pb 0 2 0)),(3,.c (.own 1)),(5,.c (.int .i64))],[.box (.agg [.rows true .atom,.bool]),.rows true .poly]⟩ .u))) .u))) BN Tryz.f118 [(124,⟨_,xk⟩)] (YW A xk.pre xk.fn):=fun _=>by kernel_rfl
theorem anL (A:Alg): @Ru aH.z X E A [] .u BO Tryz.f190 [] (YX A):=fun _=>by kernel_rfl
theorem anM (A:Alg) (xq:Ct A.ah BO): @Ru ⟨[20],[]⟩ X E A [(5,[(0,([3],[])),(1,([13],[])),(2,([5],[])),(3,([15],[])),(4,([5],[])),(5,([17],[])),(6,([18],[1,3])),(7,([16,19],[])),(8,([20],[1])),(9,([14,21],[])),(10,([3],[])),(11,([22,23],[]))])] (.seq .u (.seq .u (.seq (.seq .u (.block (.loop ⟨[(2,.c (.pb 0 1 0)),(3,.c (.pb 1 1 0)),(7,.c (.rows false .mono)),(8,.c (.int .i64)),(9,.c (.int .i64))],[.box (.agg [.nil]),.box (.agg [.own 2]),.rows true .mono]⟩ .u))) .u))) uR Tryz.f157 [(190,⟨_,xq⟩)] (YZ A xq.pre xq.fn):=fun _=>by kernel_rfl
theorem anN (A:Alg) (nJ:Ct A.ah uR): @Ru ⟨[25],[]⟩ X E A [(5,[(0,([3],[])),(1,([13],[])),(2,([5],[])),(3,([15],[])),(4,([5],[])),(5,([17],[])),(6,([5],[])),(7,([19],[])),(9,([5],[])),(10,([22],[])),(8,([20],[1,3,5,10])),(11,([23],[1,3,5])),(12,([16,18,21,24],[])),(13,([25],[1])),(14,([14,26],[])),(15,([3],[])),(16,([27,28],[]))])] (.seq .u (.seq .u (.seq (.seq .u (.block (.loop ⟨[(2,.c (.pb 0 1 0)),(3,.c (.pb 1 1 0)),(7,.c (.rows false .atom)),(8,.c (.int .i64)),(9,.c (.int .i64))],[.box (.agg [.nil]),.box (.agg [.own 2]),.rows true .atom]⟩ .u))) .u))) BP Tryz.f119 [(157,⟨_,nJ⟩)] (Y4 A nJ.pre nJ.fn):=fun _=>by kernel_rfl
theorem anO (A:Alg) (xu:Ct A.ah BP) (xw:Ct A.ah BN): @Ru aH.z X E A [] .u Ni Tryz.f67 [(119,⟨_,xu⟩),(118,⟨_,xw⟩)] (Y5 A xu.pre xu.fn xw.pre xw.fn):=fun _=>by kernel_rfl
theorem anP (A:Alg) (aZ:Ct A.ah cZ): @Ru aH.z X E A [] .u Nj Tryz.f76 [(73,⟨_,aZ⟩)] (Za A aZ.pre aZ.fn):=fun _=>by kernel_rfl
theorem anQ (A:Alg) (wY:Ct A.ah BI) (wZ:Ct A.ah BJ): @Ru aH.z X E A [] (.seq .u (.seq (.seq .u (.block (.loop ⟨[(1,.c (.pb 0 1 0)),(6,.c (.rows false .atom)),(7,.c (.int .i64)),(8,.c (.int .i64))],[.box (.sv false .tab)]⟩ .u))) .u)) Nk Tryz.f120 [(158,⟨_,wY⟩),(159,⟨_,wZ⟩)] (Zb A wY.pre wY.fn wZ.pre wZ.fn):=fun _=>by kernel_rfl
theorem anR (A:Alg): @Ru aH.z X E A [] .u Nl Tryz.f121 [] (Zc A):=fun _=>by kernel_rfl
theorem anS (A:Alg) (aZ:Ct A.ah cZ): @Ru aH.z X E A [] .u uS Tryz.f122 [(73,⟨_,aZ⟩)] (Zd A aZ.pre aZ.fn):=fun _=>by kernel_rfl
theorem anT (A:Alg): @Ru aH.z X E A [] .u uT Tryz.f141 [] (Ze A):=fun _=>by kernel_rfl
theorem anU (A:Alg) (fT:Ct A.ah jE) (nK:Ct A.ah uT): @Ru aH.z X E A [] .u Nn Tryz.f86 [(64,⟨_,fT⟩),(141,⟨_,nK⟩)] (Zf A fT.pre fT.fn nK.pre nK.fn):=fun _=>by kernel_rfl
theorem anV (A:Alg) (eH:Ct A.ah iL): @Ru aH.z X E A [] .u BQ Tryz.f166 [(164,⟨_,eH⟩)] (Zg A eH.pre eH.fn):=fun _=>by kernel_rfl
theorem anW (A:Alg) (jG:Ct A.ah oH): @Ru aH.z X E A [] .u BR Tryz.f277 [(219,⟨_,jG⟩)] (Zh A jG.pre jG.fn):=fun _=>by kernel_rfl
theorem ahv (A:Alg) (oI:Ct A.ah BR): @Ru aH.z X E A [(4,[(0,([9],[])),(1,([1],[])),(2,([18,19],[])),(3,([20],[])),(4,([3,21],[])),(5,([0,21],[])),(6,([9,21],[])),(7,([21,23,24],[])),(8,([21,25],[])),(9,([0,21],[])),(10,([9,21],[])),(11,([21,28],[])),(12,([21,27,29],[])),(13,([21,30],[])),(14,([21,22,26,31],[])),(15,([21,32],[])),(16,([21,33],[]))]),(6,[(0,([0],[])),(1,([9],[])),(2,([0],[])),(3,([9],[])),(4,([40],[])),(5,([0],[])),(6,([9],[])),(7,([43],[])),(8,([42,44],[])),(9,([45],[])),(10,([0],[])),(11,([9],[])),(12,([47,48],[])),(13,([49],[])),(14,([37,38],[])),(15,([46,51],[])),(16,([39,41],[])),(17,([50,52],[]))])] (.seq .u (.block (.loop ⟨[(0,.c (.own 0)),(1,.c (.int .i64)),(2,.c (.int .i64)),(3,.c (.fn 277 [])),(8,.c (.int .i64))],[.rows false .mono]⟩ (.seq .u (.seq (.block (.seq .u (.block (.loop ⟨[(0,.c (.own 0)),(1,.c (.int .i64)),(2,.c (.int .i64)),(3,.c (.fn 277 [])),(8,.c (.int .i64)),(9,.c (.int .i64))],[.rows false .mono]⟩ .u)))) .u))))) Fe Tryz.f309 [(277,⟨_,oI⟩)] (R3 A oI.pre oI.fn):=fun _=>by kernel_rfl
theorem ahw (A:Alg): @Ru aH.z X E A [(3,[(0,([0],[])),(1,([1],[])),(2,([10],[])),(3,([17,18],[])),(4,([0],[])),(5,([2],[])),(6,([10],[])),(7,([21,22],[])),(8,([0],[])),(9,([2],[])),(10,([10],[])),(11,([25,26],[])),(12,([24,27],[])),(13,([28],[])),(14,([0],[])),(15,([1],[])),(16,([10],[])),(17,([31,32],[])),(18,([30,33],[])),(19,([34],[])),(20,([16,19],[])),(21,([29,36],[])),(22,([20,23],[])),(23,([35,37],[]))])] (.seq .u (.block (.loop ⟨[(0,.c (.own 0)),(1,.c (.int .i64)),(2,.c (.int .i64)),(3,.c (.int .i64)),(10,.c (.int .i64))],[.rows false .mono]⟩ .u))) Fg Tryz.f319 [] (R4 A):=fun _=>by kernel_rfl
theorem ahx (A:Alg) (GL:Ct A.ah Fg): @Ru aH.z X E A [] (.seq .u (.seq .u (.seq (.block (.loop ⟨[(0,.c (.own 0)),(2,.c (.int .i64)),(4,.c (.fn 277 [])),(10,.c (.int .i64)),(11,.c (.int .i64))],[.rows false .mono]⟩ (.seq .u (.block (.seq .u (.cut ⟨[(0,.c (.own 0)),(2,.c (.int .i64)),(4,.c (.fn 277 [])),(10,.c (.int .i64)),(11,.c (.int .i64))],[.rows false .mono]⟩ (.cond .u .u))))))) .u))) Fh Tryz.f317 [(319,⟨_,GL⟩)] (R5 A GL.pre GL.fn):=fun _=>by kernel_rfl
theorem ahy (A:Alg) (oI:Ct A.ah BR) (rJ:Ct A.ah Fh) (qb:Ct A.ah nu): @Ru aH.z X E A [(5,[(0,([4],[])),(1,([0],[])),(2,([12],[])),(3,([41,42],[])),(4,([43],[])),(5,([0],[])),(6,([1],[])),(7,([45,46],[])),(8,([47],[])),(9,([40,44,48],[])),(10,([49],[]))]),(11,[(0,([0],[])),(1,([13],[])),(2,([0],[])),(3,([13],[])),(4,([64],[])),(5,([0],[])),(6,([13],[])),(7,([67],[])),(8,([66,68],[])),(9,([69],[])),(10,([0],[])),(11,([13],[])),(12,([71,72],[])),(13,([73],[])),(14,([61,62],[])),(15,([70,75],[])),(16,([63,65],[])),(17,([74,76],[]))]),(17,[(0,([4],[])),(1,([0],[])),(2,([2],[])),(3,([93,94],[])),(4,([95],[])),(5,([0],[])),(6,([16],[])),(7,([97,98],[])),(8,([99],[])),(9,([92,96,100],[])),(10,([101],[])),(11,([102],[]))]),(23,[(0,([0],[])),(1,([17],[])),(2,([0],[])),(3,([17],[])),(4,([116],[])),(5,([0],[])),(6,([17],[])),(7,([119],[])),(8,([118,120],[])),(9,([121],[])),(10,([0],[])),(11,([17],[])),(12,([123,124],[])),(13,([125],[])),(14,([113,114],[])),(15,([122,127],[])),(16,([115,117],[])),(17,([126,128],[]))]),(35,[(0,([4],[])),(1,([0],[])),(2,([22],[])),(3,([23],[])),(4,([160,161],[])),(5,([159,162],[])),(6,([163],[])),(7,([0],[])),(8,([23],[])),(9,([165,166],[])),(10,([167],[])),(11,([158,164,168],[])),(12,([169],[])),(13,([170],[]))])] (.seq (.seq .u (.cond (.seq .u (.seq .u (.seq (.block (.loop ⟨[(0,.c (.own 0)),(1,.c (.int .i64)),(4,.c (.fn 277 [])),(10,.c (.int .i64)),(11,.c (.int .i64))],[.rows false .mono]⟩ (.seq .u (.block (.seq .u (.seq .u (.cut ⟨[(0,.c (.own 0)),(1,.c (.int .i64)),(4,.c (.fn 277 [])),(10,.c (.int .i64)),(11,.c (.int .i64))],[.rows false .mono]⟩ (.cond .u .u)))))))) (.seq (.seq .u (.block (.loop ⟨[(0,.c (.own 0)),(10,.c (.int .i64)),(13,.c (.int .i64))],[.rows false .mono]⟩ .u))) .u)))) .u)) (.seq (.seq .u (.cond (.seq .u (.seq .u (.seq (.block (.loop ⟨[(0,.c (.own 0)),(2,.c (.int .i64)),(4,.c (.fn 277 [])),(14,.c (.int .i64)),(15,.c (.int .i64))],[.rows false .mono]⟩ (.seq .u (.block (.seq .u (.seq .u (.cut ⟨[(0,.c (.own 0)),(2,.c (.int .i64)),(4,.c (.fn 277 [])),(14,.c (.int .i64)),(15,.c (.int .i64))],[.rows false .mono]⟩ (.cond .u .u)))))))) (.seq (.seq .u (.block (.loop ⟨[(0,.c (.own 0)),(14,.c (.int .i64)),(17,.c (.int .i64))],[.rows false .mono]⟩ .u))) .u)))) .u)) (.seq .u (.seq .u (.seq .u (.seq (.seq .u (.cut ⟨[(0,.c (.own 0)),(1,.c (.int .i64)),(2,.c (.int .i64)),(3,.c (.int .i64)),(4,.c (.fn 277 [])),(18,.c (.int .i64)),(19,.c (.int .i64)),(20,.c (.int .i64)),(21,.c (.int .i64))],[.rows false .mono]⟩ (.cond .u .u))) (.seq .u (.seq (.block (.loop ⟨[(0,.c (.own 0)),(1,.c (.int .i64)),(2,.c (.int .i64)),(3,.c (.int .i64)),(4,.c (.fn 277 [])),(18,.c (.int .i64)),(19,.c (.int .i64)),(20,.c (.int .i64)),(21,.c (.int .i64)),(22,.c (.int .i64))],[.rows false .mono]⟩ (.seq .u (.block (.seq .u (.seq .u (.cut ⟨[(0,.c (.own 0)),(1,.c (.int .i64)),(2,.c (.int .i64)),(3,.c (.int .i64)),(4,.c (.fn 277 [])),(18,.c (.int .i64)),(19,.c (.int .i64)),(20,.c (.int .i64)),(21,.c (.int .i64)),(22,.c (.int .i64))],[.rows false .mono]⟩ (.cond .u .u)))))))) (.seq .u (.seq (.seq .u (.cut ⟨[(0,.c (.own 0)),(1,.c (.int .i64)),(3,.c (.int .i64)),(4,.c (.fn 277 [])),(18,.c (.int .i64)),(20,.c (.int .i64)),(24,.c (.int .i64))],[.rows false .mono]⟩ (.cond .u .u))) (.seq (.seq .u (.cut ⟨[(0,.c (.own 0)),(3,.c (.int .i64)),(4,.c (.fn 277 [])),(18,.c (.int .i64)),(24,.c (.int .i64))],[.rows false .mono]⟩ (.cond .u .u))) (.seq .u (.cut ⟨[],[.rows false .mono]⟩ (.cond .u .u)))))))))))))) nu Tryz.f310 [(277,⟨_,oI⟩),(317,⟨_,rJ⟩),(310,⟨_,qb⟩)] (F3 A oI.pre oI.fn rJ.pre rJ.fn qb.pre qb.fn):=fun _=>by kernel_rfl
theorem ahz (A:Alg) (GN:Ct A.ah Fe) (qb:Ct A.ah nu): @Ru aH.z X E A [] (.seq .u (.seq .u (.seq (.block (.loop ⟨[(0,.c (.own 0)),(1,.c (.int .i64)),(2,.c (.fn 277 [])),(6,.c (.int .i64)),(7,.c (.int .i64)),(8,.c (.int .i64))],[.rows false .mono]⟩ .u)) (.seq .u (.block (.loop ⟨[(0,.c (.own 0)),(1,.c (.int .i64)),(2,.c (.fn 277 [])),(6,.c (.int .i64))],[.rows false .mono]⟩ (.seq .u (.block (.seq .u (.seq (.block (.loop ⟨[(0,.c (.own 0)),(1,.c (.int .i64)),(2,.c (.fn 277 [])),(6,.c (.int .i64)),(7,.c (.int .i64)),(8,.c (.int .i64))],[.rows false .mono]⟩ .u)) (.seq (.seq .u (.seq .u (.cut ⟨[(0,.c (.own 0)),(1,.c (.int .i64)),(2,.c (.fn 277 [])),(6,.c (.int .i64))],[.rows false .mono]⟩ (.cond .u .u)))) .u))))))))))) Fj Tryz.f291 [(309,⟨_,GN⟩),(310,⟨_,qb⟩)] (R8 A GN.pre GN.fn qb.pre qb.fn):=fun _=>by kernel_rfl
theorem ahA (A:Alg) (GQ:Ct A.ah Fj): @Ru aH.z X E A [] .u Fp Tryz.f276 [(291,⟨_,GQ⟩)] (R9 A GQ.pre GQ.fn):=fun _=>by kernel_rfl
theorem anX (A:Alg) (jG:Ct A.ah oH) (eH:Ct A.ah iL) (nK:Ct A.ah uT) (xq:Ct A.ah BO) (GU:Ct A.ah Fp): @Ru ⟨[51],[]⟩ X E A [(5,[(0,([0],[])),(1,([5],[])),(2,([14,15],[])),(3,([16],[])),(5,([],[])),(4,([],[])),(6,([7,17],[]))]),(6,[(0,([5],[])),(1,([0],[])),(2,([19],[])),(3,([18,20],[])),(4,([21],[])),(5,([7,22],[])),(6,([22,23],[])),(7,([0,22],[])),(8,([5,22],[])),(9,([22,25,26],[])),(10,([22,27],[])),(11,([22,28],[])),(12,([22,24,29],[])),(13,([22,30],[])),(14,([22,31],[]))]),(10,[(0,([4],[])),(1,([45],[])),(2,([6],[])),(3,([7],[])),(4,([48],[])),(5,([49],[1])),(6,([47,50],[])),(7,([51],[1])),(8,([46,52],[])),(9,([4],[])),(10,([53,54],[]))])] (.seq .u (.seq .u (.seq .u (.seq (.seq .u (.block (.loop ⟨[(0,.c (.own 0)),(2,.c (.pb 1 1 0)),(4,.c (.pb 2 1 0)),(5,.c (.int .i64))],[.rows false .mono,.box (.agg [.nil]),.box (.agg [.own 3]),.rows true .mono]⟩ (.seq .u (.block (.seq .u (.seq (.block (.loop ⟨[(0,.c (.own 0)),(2,.c (.pb 1 1 0)),(4,.c (.pb 2 1 0)),(5,.c (.int .i64)),(6,.c (.int .i64)),(7,.c (.pb 3 2 0))],[.rows false .mono,.box (.agg [.nil]),.box (.agg [.own 4]),.box (.sv false .mono),.rows true .mono]⟩ .u)) (.seq .u (.cut ⟨[(0,.c (.own 0)),(2,.c (.pb 1 1 0)),(4,.c (.pb 2 1 0)),(5,.c (.int .i64))],[.rows false .mono,.box (.agg [.nil]),.box (.agg [.own 3]),.rows true .mono]⟩ (.cond .u .u)))))))))) .u)))) BS Tryz.f253 [(219,⟨_,jG⟩),(164,⟨_,eH⟩),(141,⟨_,nK⟩),(190,⟨_,xq⟩),(276,⟨_,GU⟩)] (Zk A jG.pre jG.fn eH.pre eH.fn nK.pre nK.fn xq.pre xq.fn GU.pre GU.fn):=fun _=>by kernel_rfl
theorem ahB (A:Alg): @Ru aH.z X E A [] (.seq .u (.seq .u (.seq (.seq .u (.seq .u (.cut ⟨[(0,.c (.own 0))],[.rows true .mono]⟩ (.cond .u .u)))) .u))) Fq Tryz.f278 [] (Sb A):=fun _=>by kernel_rfl
theorem anY (A:Alg) (GV:Ct A.ah Fq): @Ru aH.z X E A [] (.seq .u (.seq .u (.seq (.seq .u (.block (.loop ⟨[(0,.c (.rows false .poly)),(3,.c (.int .i64)),(9,.c (.rows false .poly)),(10,.c (.int .i64)),(11,.c (.int .i64))],[]⟩ .u))) (.seq .u (.seq (.seq .u (.block (.loop ⟨[(6,.c (.own 0)),(25,.c (.rows false .poly)),(26,.c (.int .i64)),(27,.c (.int .i64))],[.rows false .mono]⟩ .u))) .u))))) Np Tryz.f254 [(278,⟨_,GV⟩)] (Zl A GV.pre GV.fn):=fun _=>by kernel_rfl
theorem anZ (A:Alg) (eH:Ct A.ah iL) (xA:Ct A.ah BS) (Oj:Ct A.ah Np): @Ru aH.z X E A [] .u Nq Tryz.f214 [(164,⟨_,eH⟩),(253,⟨_,xA⟩),(254,⟨_,Oj⟩)] (Zm A eH.pre eH.fn xA.pre xA.fn Oj.pre Oj.fn):=fun _=>by kernel_rfl
theorem ahC (A:Alg): @Ru aH.z X E A [] (.seq .u (.seq .u (.seq (.seq .u (.seq .u (.cut ⟨[(0,.c (.own 0))],[.rows true .i64]⟩ (.cond .u .u)))) .u))) Fu Tryz.f279 [] (Sc A):=fun _=>by kernel_rfl
theorem ahD (A:Alg) (GX:Ct A.ah Fu): @Ru aH.z X E A [] (.seq .u (.seq .u (.seq (.seq .u (.block (.loop ⟨[(0,.c (.rows false .ints)),(3,.c (.int .i64)),(9,.c (.rows false .ints)),(10,.c (.int .i64)),(11,.c (.int .i64))],[]⟩ .u))) (.seq .u (.seq (.seq .u (.block (.loop ⟨[(6,.c (.own 0)),(25,.c (.rows false .ints)),(26,.c (.int .i64)),(27,.c (.int .i64))],[.rows true .i64]⟩ .u))) .u))))) Fv Tryz.f255 [(279,⟨_,GX⟩)] (Sd A GX.pre GX.fn):=fun _=>by kernel_rfl
theorem ahE (A:Alg) (yF:Ct A.ah E5): @Ru aH.z X E A [(4,[(0,([7],[])),(1,([1],[])),(2,([16,17],[])),(3,([18],[])),(4,([0,19],[])),(5,([7,19],[])),(6,([19,20,21],[])),(7,([19,22],[])),(8,([0,19],[])),(9,([7,19],[])),(10,([19,25],[])),(11,([19,24,26],[])),(12,([19,27],[])),(13,([19,23,28],[])),(14,([19,29],[]))]),(6,[(0,([0],[])),(1,([7],[])),(2,([0],[])),(3,([7],[])),(4,([36],[])),(5,([0],[])),(6,([7],[])),(7,([39],[])),(8,([38,40],[])),(9,([41],[])),(10,([0],[])),(11,([7],[])),(12,([43,44],[])),(13,([45],[])),(14,([33,34],[])),(15,([42,47],[])),(16,([35,37],[])),(17,([46,48],[]))])] (.seq .u (.block (.loop ⟨[(0,.c (.own 0)),(1,.c (.int .i64)),(2,.c (.int .i64)),(6,.c (.int .i64))],[.rows true .i64]⟩ (.seq .u (.seq (.block (.seq .u (.block (.loop ⟨[(0,.c (.own 0)),(1,.c (.int .i64)),(2,.c (.int .i64)),(6,.c (.int .i64)),(7,.c (.int .i64))],[.rows true .i64]⟩ .u)))) .u))))) Fw Tryz.f292 [(259,⟨_,yF⟩)] (Sg A yF.pre yF.fn):=fun _=>by kernel_rfl
theorem ahF (A:Alg) (yF:Ct A.ah E5) (GY:Ct A.ah Fw) (AA:Ct A.ah Fx) (AB:Ct A.ah Fy) (AJ:Ct A.ah Fz) (AL:Ct A.ah FB) (AO:Ct A.ah FC) (AP:Ct A.ah FD) (AQ:Ct A.ah FH) (rM:Ct A.ah pq): @Ru aH.z X E A [(17,[(0,([1],[])),(1,([73],[])),(2,([74],[])),(3,([0,75],[])),(4,([1,75],[])),(5,([75,77],[])),(6,([75,76,78],[])),(7,([75,79],[])),(8,([0,75],[])),(9,([11,75],[])),(10,([75,81,82],[])),(11,([75,83],[])),(12,([75,80,84],[])),(13,([75,85],[])),(14,([75,86],[]))])] (.seq .u (.seq .u (.block (.loop ⟨[(0,.c (.own 0)),(1,.c (.int .i64)),(2,.c (.int .i64)),(3,.c (.int .i64)),(8,.c (.bool)),(9,.c (.bool))],[.rows true .i64]⟩ (.cut ⟨[(0,.c (.own 0)),(1,.c (.int .i64)),(2,.c (.int .i64)),(3,.c (.int .i64)),(8,.c (.bool)),(9,.c (.bool))],[.rows true .i64]⟩ (.block (.seq .u (.seq .u (.seq .u (.seq (.seq .u (.cut ⟨[(0,.c (.own 0)),(1,.c (.int .i64)),(2,.c (.int .i64)),(3,.c (.int .i64)),(8,.c (.bool)),(9,.c (.bool)),(10,.c (.int .i64))],[.rows true .i64]⟩ (.cond .u .u))) (.seq .u (.seq (.seq .u (.cut ⟨[(0,.c (.own 0)),(1,.c (.int .i64)),(2,.c (.int .i64)),(3,.c (.int .i64)),(8,.c (.bool)),(9,.c (.bool)),(10,.c (.int .i64)),(11,.c (.int .i64)),(12,.c (.int .i64))],[.rows true .i64]⟩ (.cond .u .u))) (.seq (.seq .u (.cut ⟨[(0,.c (.own 0)),(1,.c (.int .i64)),(2,.c (.int .i64)),(3,.c (.int .i64)),(8,.c (.bool)),(9,.c (.bool)),(10,.c (.int .i64)),(11,.c (.int .i64))],[.rows true .i64]⟩ (.cond .u .u))) (.seq .u (.seq .u (.seq .u (.seq .u (.seq .u (.seq .u (.cut ⟨[(0,.c (.own 0)),(1,.c (.int .i64)),(2,.c (.int .i64)),(3,.c (.int .i64)),(8,.c (.bool)),(9,.c (.bool))],[.rows true .i64]⟩ (.cond .u .u))))))))))))))))))))) pq Tryz.f280 [(259,⟨_,yF⟩),(292,⟨_,GY⟩),(293,⟨_,AA⟩),(294,⟨_,AB⟩),(295,⟨_,AJ⟩),(296,⟨_,AL⟩),(297,⟨_,AO⟩),(298,⟨_,AP⟩),(299,⟨_,AQ⟩),(280,⟨_,rM⟩)] (Si A yF.pre yF.fn GY.pre GY.fn AA.pre AA.fn AB.pre AB.fn AJ.pre AJ.fn AL.pre AL.fn AO.pre AO.fn AP.pre AP.fn AQ.pre AQ.fn rM.pre rM.fn):=fun _=>by kernel_rfl
theorem ahG (A:Alg) (rM:Ct A.ah pq) (GZ:Ct A.ah U3): @Ru aH.z X E A [] .u FJ Tryz.f256 [(280,⟨_,rM⟩),(281,⟨_,GZ⟩)] (Sj A rM.pre rM.fn GZ.pre GZ.fn):=fun _=>by kernel_rfl
theorem an0 (A:Alg) (eH:Ct A.ah iL) (nK:Ct A.ah uT) (xA:Ct A.ah BS) (G5:Ct A.ah Fv) (G6:Ct A.ah FJ): @Ru aH.z X E A [] (.seq .u (.seq .u (.seq .u (.seq (.seq .u (.block (.loop ⟨[(3,.c (.pb 0 1 0)),(4,.c (.pb 1 1 0)),(6,.c (.own 2)),(22,.c (.rows false .mono)),(23,.c (.int .i64)),(24,.c (.int .i64))],[.box (.sv false .poly),.box (.agg [.nil]),.rows true .mono]⟩ (.seq .u (.seq .u (.seq (.block (.seq .u (.seq .u (.block (.loop ⟨[(3,.c (.pb 0 1 0)),(4,.c (.pb 1 1 0)),(6,.c (.own 2)),(8,.c (.pb 3 2 0)),(22,.c (.rows false .mono)),(23,.c (.int .i64)),(24,.c (.int .i64)),(29,.c (.rows false .mono)),(30,.c (.int .i64)),(31,.c (.int .i64))],[.box (.sv false .poly),.box (.agg [.nil]),.rows true .mono,.box (.sv false .mono)]⟩ .u))))) .u)))))) .u)))) BU Tryz.f216 [(164,⟨_,eH⟩),(141,⟨_,nK⟩),(253,⟨_,xA⟩),(255,⟨_,G5⟩),(256,⟨_,G6⟩)] (Zp A eH.pre eH.fn nK.pre nK.fn xA.pre xA.fn G5.pre G5.fn G6.pre G6.fn):=fun _=>by kernel_rfl
theorem an1 (A:Alg) (eH:Ct A.ah iL) (nL:Ct A.ah uS) (fT:Ct A.ah jE) (xB:Ct A.ah BU): @Ru aH.z X E A [(3,[(0,([2],[])),(1,([1],[])),(2,([18],[0])),(3,([17,19],[])),(4,([20],[])),(5,([16],[])),(6,([16],[])),(7,([],[])),(8,([5,21],[])),(9,([22],[]))])] .u Nr Tryz.f215 [(164,⟨_,eH⟩),(122,⟨_,nL⟩),(64,⟨_,fT⟩),(216,⟨_,xB⟩)] (Zq A eH.pre eH.fn nL.pre nL.fn fT.pre fT.fn xB.pre xB.fn):=fun _=>by kernel_rfl
theorem an2 (A:Alg) (fU:Ct A.ah jF) (nL:Ct A.ah uS) (Ol:Ct A.ah Nn) (Om:Ct A.ah Nq) (xB:Ct A.ah BU) (Oo:Ct A.ah Nr) (xC:Ct A.ah BQ): @Ru aH.z X E A [(5,[(0,([4],[])),(1,([5],[])),(2,([23],[0])),(3,([22,24],[])),(4,([25],[])),(5,([25],[])),(6,([6,26],[])),(7,([27],[]))])] (.seq .u (.seq .u (.seq .u (.seq .u (.seq .u (.seq (.seq .u (.cut ⟨[(0,.c (.int .i64)),(4,.c (.pb 0 1 0)),(6,.c (.pb 1 1 0)),(10,.c (.int .i64)),(11,.c (.bool))],[.box (.sv true .poly),.box (.agg [.nil])]⟩ (.cond .u .u))) .u)))))) Ns Tryz.f160 [(128,⟨_,fU⟩),(122,⟨_,nL⟩),(86,⟨_,Ol⟩),(214,⟨_,Om⟩),(216,⟨_,xB⟩),(215,⟨_,Oo⟩),(166,⟨_,xC⟩)] (Zu A fU.pre fU.fn nL.pre nL.fn Ol.pre Ol.fn Om.pre Om.fn xB.pre xB.fn Oo.pre Oo.fn xC.pre xC.fn):=fun _=>by kernel_rfl
theorem an3 (A:Alg) (nI:Ct A.ah uQ) (Oq:Ct A.ah Ns) (xg:Ct A.ah BK) (w9:Ct A.ah BL): @Ru aH.z X E A [(3,[(0,([4],[])),(1,([11],[])),(2,([8,23],[1])),(3,([9,24],[])),(4,([],[]))]),(9,[(0,([13],[])),(1,([14],[])),(2,([49],[0])),(3,([8,48],[])),(4,([9,50],[])),(5,([],[]))])] (.seq .u (.seq .u (.seq (.seq .u (.cut ⟨[(1,.c (.int .i64)),(4,.c (.pb 0 1 0)),(6,.c (.pb 1 1 0)),(7,.c (.pb 2 1 0)),(8,.c (.pb 3 1 0)),(9,.c (.pb 4 1 0))],[.box (.sv true .tab),.box (.sv true .poly),.box (.sv true .poly),.box (.agg [.nil]),.box (.agg [.nil])]⟩ (.cond .u .u))) .u))) Nt Tryz.f123 [(161,⟨_,nI⟩),(160,⟨_,Oq⟩),(162,⟨_,xg⟩),(163,⟨_,w9⟩)] (Zv A nI.pre nI.fn Oq.pre Oq.fn xg.pre xg.fn w9.pre w9.fn):=fun _=>by kernel_rfl
theorem an4 (A:Alg) (fT:Ct A.ah jE): @Ru aH.z X E A [] .u Nu Tryz.f87 [(64,⟨_,fT⟩)] (Zw A fT.pre fT.fn):=fun _=>by kernel_rfl
theorem an5 (A:Alg) (nJ:Ct A.ah uR): @Ru aH.z X E A [] (.seq .u (.seq .u (.seq (.seq .u (.block (.loop ⟨[(3,.c (.own 0)),(6,.c (.rows false .poly)),(7,.c (.int .i64)),(8,.c (.int .i64))],[.rows true .poly]⟩ .u))) .u))) Nv Tryz.f224 [(157,⟨_,nJ⟩)] (Zx A nJ.pre nJ.fn):=fun _=>by kernel_rfl
theorem an6 (A:Alg) (nJ:Ct A.ah uR) (Ou:Ct A.ah Nv): @Ru ⟨[42],[]⟩ X E A [(1,[(0,([1],[])),(1,([6],[])),(3,([1],[])),(4,([9],[])),(5,([1],[])),(6,([11],[])),(8,([1],[])),(9,([14],[])),(11,([1],[])),(12,([17],[])),(2,([7],[4,6,9,12])),(7,([12],[4,9,12])),(10,([15],[4,12])),(13,([8,10,13,16,18],[])),(14,([],[])),(15,([3,19],[]))]),(5,[(0,([3],[])),(1,([27],[])),(2,([5],[])),(3,([29],[])),(4,([5],[])),(5,([31],[])),(6,([5],[])),(7,([33],[])),(9,([5],[])),(10,([36],[])),(12,([5],[])),(13,([39],[])),(8,([34],[1,3,5,10,13])),(11,([37],[1,3,5,13])),(14,([40],[1,3,5])),(15,([30,32,35,38,41],[])),(16,([42],[1])),(17,([28,43],[])),(18,([3],[])),(19,([44,45],[]))])] (.seq .u (.seq .u (.seq (.seq .u (.block (.loop ⟨[(2,.c (.pb 0 6 0)),(3,.c (.pb 1 6 0)),(21,.c (.rows false .ev)),(22,.c (.int .i64)),(23,.c (.int .i64))],[.box (.agg [.nil,.nil,.int .i64,.nil,.nil,.int .i64]),.box (.agg [.own 2,.own 3,.int .i64,.own 4,.own 5,.int .i64]),.rows true .ev,.rows true .poly,.rows true .mono,.rows true .mono]⟩ .u))) .u))) Nw Tryz.f165 [(157,⟨_,nJ⟩),(224,⟨_,Ou⟩)] (Zy A nJ.pre nJ.fn Ou.pre Ou.fn):=fun _=>by kernel_rfl
theorem an7 (A:Alg) (xC:Ct A.ah BQ) (eH:Ct A.ah iL) (nI:Ct A.ah uQ) (Ov:Ct A.ah Nw) (fU:Ct A.ah jF) (Ow:Ct A.ah Nu): @Ru aH.z X E A [] (.seq .u (.seq .u (.seq .u (.seq .u (.seq .u (.seq .u (.seq (.block (.seq .u (.cut ⟨[(4,.c (.pb 0 6 0)),(5,.c (.pb 1 6 0))],[.box (.agg [.nil,.nil,.int .i64,.nil,.nil,.int .i64]),.box (.agg [.own 2,.own 3,.int .i64,.own 4,.own 5,.int .i64]),.rows true .ev,.rows true .poly,.rows true .mono,.rows true .mono]⟩ (.cond .u (.seq .u (.cut ⟨[(4,.c (.pb 0 6 0)),(5,.c (.pb 1 6 0))],[.box (.agg [.nil,.nil,.int .i64,.nil,.nil,.int .i64]),.box (.agg [.own 2,.own 3,.int .i64,.own 4,.own 5,.int .i64]),.rows true .ev,.rows true .poly,.rows true .mono,.rows true .mono]⟩ (.cond .u (.seq .u (.cut ⟨[(4,.c (.pb 0 6 0)),(5,.c (.pb 1 6 0))],[.box (.agg [.nil,.nil,.int .i64,.nil,.nil,.int .i64]),.box (.agg [.own 2,.own 3,.int .i64,.own 4,.own 5,.int .i64]),.rows true .ev,.rows true .poly,.rows true .mono,.rows true .mono]⟩ (.cond (.seq .u (.seq .u (.seq .u (.cut ⟨[(4,.c (.pb 0 6 0)),(5,.c (.pb 1 6 0))],[.box (.agg [.nil,.nil,.int .i64,.nil,.nil,.int .i64]),.box (.agg [.own 2,.own 3,.int .i64,.nil,.nil,.int .i64]),.rows true .ev,.rows true .poly]⟩ (.cond .u .u))))) (.seq .u (.cut ⟨[(4,.c (.pb 0 6 0)),(5,.c (.pb 1 6 0))],[.box (.agg [.nil,.nil,.int .i64,.nil,.nil,.int .i64]),.box (.agg [.own 2,.own 3,.int .i64,.own 4,.own 5,.int .i64]),.rows true .ev,.rows true .poly,.rows true .mono,.rows true .mono]⟩ (.cond .u .u))))))))))))) .u))))))) Ny Tryz.f125 [(166,⟨_,xC⟩),(164,⟨_,eH⟩),(161,⟨_,nI⟩),(165,⟨_,Ov⟩),(128,⟨_,fU⟩),(87,⟨_,Ow⟩)] (Zz A xC.pre xC.fn eH.pre eH.fn nI.pre nI.fn Ov.pre Ov.fn fU.pre fU.fn Ow.pre Ow.fn):=fun _=>by kernel_rfl
theorem an8 (A:Alg) (nG:Ct A.ah uO) (nH:Ct A.ah uP) (Ox:Ct A.ah Nj) (nD:Ct A.ah uN) (nL:Ct A.ah uS) (Oy:Ct A.ah Ny) (Oz:Ct A.ah Nk) (xu:Ct A.ah BP) (OA:Ct A.ah Nt) (xk:Ct A.ah BM) (xw:Ct A.ah BN) (OB:Ct A.ah Nl): @Ru aH.z X E A [(4,[(0,([6],[])),(2,([3],[])),(3,([47],[])),(4,([3],[])),(5,([49],[])),(1,([45],[3,5])),(6,([46,48,50],[])),(7,([],[])),(8,([7,51],[]))]),(27,[(0,([6],[])),(1,([134],[])),(2,([135],[])),(3,([136],[])),(4,([12],[])),(5,([138],[])),(6,([17],[])),(7,([18],[])),(8,([137,139,140,141],[])),(9,([142],[])),(10,([133],[])),(11,([133],[])),(12,([133],[])),(13,([],[])),(14,([],[])),(15,([20,143],[])),(16,([21,144],[])),(17,([145],[]))]),(30,[(0,([6],[])),(1,([8],[])),(2,([11],[])),(3,([20],[])),(4,([21],[])),(5,([150],[])),(6,([155],[])),(7,([153,156],[4])),(8,([151,152],[])),(9,([154,157],[]))]),(47,[(0,([6],[])),(1,([213],[])),(2,([214],[])),(3,([215],[])),(5,([7],[])),(6,([3],[])),(7,([219],[])),(8,([3],[])),(9,([221],[])),(10,([220,222],[])),(4,([216],[5,7,9])),(11,([218,223],[])),(12,([4,217],[])),(13,([5,224],[]))])] (.seq .u (.seq .u (.seq .u (.seq .u (.seq .u (.seq .u (.seq (.seq .u (.block (.loop ⟨[(3,.c (.pb 0 7 0)),(4,.c (.pb 1 1 0)),(5,.c (.pb 2 6 0)),(6,.c (.pb 3 2 0)),(7,.c (.pb 4 6 0)),(8,.c (.own 5)),(9,.c (.int .i64)),(10,.c (.int .i64)),(57,.c (.rows false .iop)),(58,.c (.int .i64)),(59,.c (.int .i64))],[.box (.sv false .blk),.box (.agg [.nil]),.box (.agg [.nil,.nil,.int .i64,.nil,.nil,.int .i64]),.box (.agg [.rows true .atom,.bool]),.box (.agg [.own 6,.own 7,.int .i64,.nil,.nil,.int .i64]),.rows true .poly,.rows true .ev,.rows true .poly]⟩ (.seq .u (.seq .u (.seq (.block (.seq .u (.seq .u (.seq .u (.seq (.seq .u (.cut ⟨[(3,.c (.pb 0 7 0)),(4,.c (.pb 1 1 0)),(5,.c (.pb 2 6 0)),(6,.c (.pb 3 2 0)),(7,.c (.pb 4 6 0)),(8,.c (.own 5)),(9,.c (.int .i64)),(10,.c (.int .i64)),(11,.c (.int .i64)),(12,.c (.pb 6 5 0)),(14,.c (.bool)),(17,.c (.pb 7 1 0)),(18,.c (.pb 8 1 0)),(57,.c (.rows false .iop)),(58,.c (.int .i64)),(59,.c (.int .i64))],[.box (.sv false .blk),.box (.agg [.nil]),.box (.agg [.nil,.nil,.int .i64,.nil,.nil,.int .i64]),.box (.agg [.rows true .atom,.bool]),.box (.agg [.own 9,.own 10,.int .i64,.nil,.nil,.int .i64]),.rows true .poly,.box (.sv false .iop),.box (.sv true .poly),.box (.agg [.nil]),.rows true .ev,.rows true .poly]⟩ (.cond .u .u))) (.seq (.seq .u (.cut ⟨[(3,.c (.pb 0 7 0)),(4,.c (.pb 1 1 0)),(5,.c (.pb 2 6 0)),(6,.c (.pb 3 2 0)),(7,.c (.pb 4 6 0)),(8,.c (.own 5)),(9,.c (.int .i64)),(10,.c (.int .i64)),(11,.c (.int .i64)),(12,.c (.pb 6 5 0)),(17,.c (.pb 7 1 0)),(18,.c (.pb 8 1 0)),(57,.c (.rows false .iop)),(58,.c (.int .i64)),(59,.c (.int .i64))],[.box (.sv false .blk),.box (.agg [.nil]),.box (.agg [.nil,.nil,.int .i64,.nil,.nil,.int .i64]),.box (.agg [.rows true .atom,.bool]),.box (.agg [.own 9,.own 10,.int .i64,.nil,.nil,.int .i64]),.rows true .poly,.box (.sv false .iop),.box (.sv true .poly),.box (.sv true .poly),.rows true .ev,.rows true .poly]⟩ (.cond .u .u))) (.seq (.seq .u (.cut ⟨[(3,.c (.pb 0 7 0)),(4,.c (.pb 1 1 0)),(5,.c (.pb 2 6 0)),(6,.c (.pb 3 2 0)),(7,.c (.pb 4 6 0)),(8,.c (.own 5)),(9,.c (.int .i64)),(10,.c (.int .i64)),(11,.c (.int .i64)),(12,.c (.pb 6 5 0)),(17,.c (.pb 7 1 0)),(18,.c (.pb 8 1 0)),(57,.c (.rows false .iop)),(58,.c (.int .i64)),(59,.c (.int .i64))],[.box (.sv false .blk),.box (.agg [.nil]),.box (.agg [.nil,.nil,.int .i64,.nil,.nil,.int .i64]),.box (.agg [.rows true .atom,.bool]),.box (.agg [.own 9,.own 10,.int .i64,.nil,.nil,.int .i64]),.rows true .poly,.box (.sv false .iop),.box (.sv true .poly),.box (.sv true .poly),.rows true .ev,.rows true .poly]⟩ (.cond (.seq .u (.seq (.seq .u (.cut ⟨[(3,.c (.pb 0 7 0)),(4,.c (.pb 1 1 0)),(5,.c (.pb 2 6 0)),(6,.c (.pb 3 2 0)),(7,.c (.pb 4 6 0)),(8,.c (.own 5)),(9,.c (.int .i64)),(10,.c (.int .i64)),(11,.c (.int .i64)),(12,.c (.pb 6 5 0)),(17,.c (.pb 7 1 0)),(18,.c (.pb 8 1 0)),(19,.c (.pb 9 5 0)),(57,.c (.rows false .iop)),(58,.c (.int .i64)),(59,.c (.int .i64))],[.box (.sv false .blk),.box (.agg [.nil]),.box (.agg [.nil,.nil,.int .i64,.nil,.nil,.int .i64]),.box (.agg [.rows true .atom,.bool]),.box (.agg [.own 10,.own 11,.int .i64,.nil,.nil,.int .i64]),.rows true .poly,.box (.sv false .iop),.box (.sv true .poly),.box (.sv true .poly),.box (.agg [.int .i64,.int .i64,.rows true .mono,.rows true .mono,.own 12]),.rows true .ev,.rows true .poly,.rows true .poly]⟩ (.cond .u .u))) .u)) .u))) (.seq .u (.block (.seq .u (.cut ⟨[(3,.c (.pb 0 7 0)),(4,.c (.pb 1 1 0)),(5,.c (.pb 2 6 0)),(6,.c (.pb 3 2 0)),(7,.c (.pb 4 6 0)),(8,.c (.own 5)),(9,.c (.int .i64)),(10,.c (.int .i64)),(57,.c (.rows false .iop)),(58,.c (.int .i64)),(59,.c (.int .i64))],[.box (.sv false .blk),.box (.agg [.nil]),.box (.agg [.nil,.nil,.int .i64,.nil,.nil,.int .i64]),.box (.agg [.rows true .atom,.bool]),.box (.agg [.own 6,.own 7,.int .i64,.nil,.nil,.int .i64]),.rows true .poly,.rows true .ev,.rows true .poly]⟩ (.cond .u (.seq .u (.cut ⟨[(3,.c (.pb 0 7 0)),(4,.c (.pb 1 1 0)),(5,.c (.pb 2 6 0)),(6,.c (.pb 3 2 0)),(7,.c (.pb 4 6 0)),(8,.c (.own 5)),(9,.c (.int .i64)),(10,.c (.int .i64)),(57,.c (.rows false .iop)),(58,.c (.int .i64)),(59,.c (.int .i64))],[.box (.sv false .blk),.box (.agg [.nil]),.box (.agg [.nil,.nil,.int .i64,.nil,.nil,.int .i64]),.box (.agg [.rows true .atom,.bool]),.box (.agg [.own 6,.own 7,.int .i64,.nil,.nil,.int .i64]),.rows true .poly,.rows true .ev,.rows true .poly]⟩ (.cond .u (.seq .u (.cut ⟨[(3,.c (.pb 0 7 0)),(4,.c (.pb 1 1 0)),(5,.c (.pb 2 6 0)),(6,.c (.pb 3 2 0)),(7,.c (.pb 4 6 0)),(8,.c (.own 5)),(9,.c (.int .i64)),(10,.c (.int .i64)),(57,.c (.rows false .iop)),(58,.c (.int .i64)),(59,.c (.int .i64))],[.box (.sv false .blk),.box (.agg [.nil]),.box (.agg [.nil,.nil,.int .i64,.nil,.nil,.int .i64]),.box (.agg [.rows true .atom,.bool]),.box (.agg [.own 6,.own 7,.int .i64,.nil,.nil,.int .i64]),.rows true .poly,.rows true .ev,.rows true .poly]⟩ (.cond .u (.seq .u (.cut ⟨[(3,.c (.pb 0 7 0)),(4,.c (.pb 1 1 0)),(5,.c (.pb 2 6 0)),(6,.c (.pb 3 2 0)),(7,.c (.pb 4 6 0)),(8,.c (.own 5)),(9,.c (.int .i64)),(10,.c (.int .i64)),(57,.c (.rows false .iop)),(58,.c (.int .i64)),(59,.c (.int .i64))],[.box (.sv false .blk),.box (.agg [.nil]),.box (.agg [.nil,.nil,.int .i64,.nil,.nil,.int .i64]),.box (.agg [.rows true .atom,.bool]),.box (.agg [.own 6,.own 7,.int .i64,.nil,.nil,.int .i64]),.rows true .poly,.rows true .ev,.rows true .poly]⟩ (.cond .u (.seq .u (.cut ⟨[(3,.c (.pb 0 7 0)),(4,.c (.pb 1 1 0)),(5,.c (.pb 2 6 0)),(6,.c (.pb 3 2 0)),(7,.c (.pb 4 6 0)),(8,.c (.own 5)),(9,.c (.int .i64)),(10,.c (.int .i64)),(57,.c (.rows false .iop)),(58,.c (.int .i64)),(59,.c (.int .i64))],[.box (.sv false .blk),.box (.agg [.nil]),.box (.agg [.nil,.nil,.int .i64,.nil,.nil,.int .i64]),.box (.agg [.rows true .atom,.bool]),.box (.agg [.own 6,.own 7,.int .i64,.nil,.nil,.int .i64]),.rows true .poly,.rows true .ev,.rows true .poly]⟩ (.cond .u (.seq .u (.cut ⟨[(3,.c (.pb 0 7 0)),(4,.c (.pb 1 1 0)),(5,.c (.pb 2 6 0)),(6,.c (.pb 3 2 0)),(7,.c (.pb 4 6 0)),(8,.c (.own 5)),(9,.c (.int .i64)),(10,.c (.int .i64)),(57,.c (.rows false .iop)),(58,.c (.int .i64)),(59,.c (.int .i64))],[.box (.sv false .blk),.box (.agg [.nil]),.box (.agg [.nil,.nil,.int .i64,.nil,.nil,.int .i64]),.box (.agg [.rows true .atom,.bool]),.box (.agg [.own 6,.own 7,.int .i64,.nil,.nil,.int .i64]),.rows true .poly,.rows true .ev,.rows true .poly]⟩ (.cond .u .u))))))))))))))))))))))))))) .u)))))) (.seq .u (.seq (.seq .u (.cut ⟨[(3,.c (.pb 0 7 0)),(4,.c (.pb 1 1 0)),(5,.c (.pb 2 6 0)),(6,.c (.pb 3 2 0)),(7,.c (.pb 4 6 0)),(8,.c (.own 5)),(24,.c (.bool))],[.box (.sv false .blk),.box (.agg [.nil]),.box (.agg [.nil,.nil,.int .i64,.nil,.nil,.int .i64]),.box (.agg [.rows true .atom,.bool]),.box (.agg [.own 6,.own 7,.int .i64,.rows true .mono,.nil,.int .i64]),.rows true .poly,.rows true .ev,.rows true .poly]⟩ (.cond .u .u))) (.seq (.seq .u (.cut ⟨[(3,.c (.pb 0 7 0)),(4,.c (.pb 1 1 0)),(5,.c (.pb 2 6 0)),(6,.c (.pb 3 2 0)),(7,.c (.pb 4 6 0))],[.box (.sv false .blk),.box (.agg [.nil]),.box (.agg [.nil,.nil,.int .i64,.nil,.nil,.int .i64]),.box (.agg [.rows true .atom,.bool]),.box (.agg [.own 5,.own 6,.int .i64,.rows true .mono,.rows true .mono,.int .i64]),.rows true .ev,.rows true .poly]⟩ (.cond .u .u))) .u)))))))))) Nz Tryz.f68 [(114,⟨_,nG⟩),(26,⟨_,nH⟩),(76,⟨_,Ox⟩),(113,⟨_,nD⟩),(122,⟨_,nL⟩),(125,⟨_,Oy⟩),(120,⟨_,Oz⟩),(119,⟨_,xu⟩),(123,⟨_,OA⟩),(124,⟨_,xk⟩),(118,⟨_,xw⟩),(121,⟨_,OB⟩)] (ZA A nG.pre nG.fn nH.pre nH.fn Ox.pre Ox.fn nD.pre nD.fn nL.pre nL.fn Oy.pre Oy.fn Oz.pre Oz.fn xu.pre xu.fn OA.pre OA.fn xk.pre xk.fn xw.pre xw.fn OB.pre OB.fn):=fun _=>by kernel_rfl
theorem an9 (A:Alg) (fU:Ct A.ah jF): @Ru aH.z X E A [] .u NA Tryz.f168 [(128,⟨_,fU⟩)] (ZB A fU.pre fU.fn):=fun _=>by kernel_rfl
theorem ahH (A:Alg) (OC:Ct A.ah NA): @Ru aH.z X E A [] (.seq .u (.seq .u (.seq (.seq .u (.block (.loop ⟨[(1,.c (.rows false .poly)),(2,.c (.fn 168 [])),(15,.c (.rows false .poly)),(16,.c (.int .i64)),(17,.c (.int .i64))],[]⟩ .u))) .u))) FK Tryz.f167 [(168,⟨_,OC⟩)] (Sk A OC.pre OC.fn):=fun _=>by kernel_rfl
theorem aoa (A:Alg) (G7:Ct A.ah FK): @Ru aH.z X E A [] .u BX Tryz.f129 [(167,⟨_,G7⟩)] (ZE A G7.pre G7.fn):=fun _=>by kernel_rfl
theorem aob (A:Alg) (fU:Ct A.ah jF) (xD:Ct A.ah BX): @Ru aH.z X E A [] .u NC Tryz.f127 [(128,⟨_,fU⟩),(129,⟨_,xD⟩)] (ZF A fU.pre fU.fn xD.pre xD.fn):=fun _=>by kernel_rfl
theorem ahI (A:Alg) (OD:Ct A.ah NC): @Ru aH.z X E A [] (.seq .u (.seq .u (.seq (.seq .u (.block (.loop ⟨[(1,.c (.rows false .ev)),(2,.c (.fn 127 [])),(15,.c (.rows false .ev)),(16,.c (.int .i64)),(17,.c (.int .i64))],[]⟩ .u))) .u))) FL Tryz.f126 [(127,⟨_,OD⟩)] (Sl A OD.pre OD.fn):=fun _=>by kernel_rfl
theorem aoc (A:Alg) (fU:Ct A.ah jF) (xD:Ct A.ah BX) (G8:Ct A.ah FL): @Ru aH.z X E A [] .u ND Tryz.f69 [(128,⟨_,fU⟩),(129,⟨_,xD⟩),(126,⟨_,G8⟩)] (ZI A fU.pre fU.fn xD.pre xD.fn G8.pre G8.fn):=fun _=>by kernel_rfl
theorem aod (A:Alg) (nH:Ct A.ah uP) (OE:Ct A.ah M6) (OG:Ct A.ah Ni) (OH:Ct A.ah Nz) (OI:Ct A.ah ND): @Ru aH.z X E A [] .u NG Tryz.f22 [(26,⟨_,nH⟩),(66,⟨_,OE⟩),(67,⟨_,OG⟩),(68,⟨_,OH⟩),(69,⟨_,OI⟩)] (ZJ A nH.pre nH.fn OE.pre OE.fn OG.pre OG.fn OH.pre OH.fn OI.pre OI.fn):=fun _=>by kernel_rfl
end Go.TX.Seat
namespace Go.TX.Seat
open Go Go.AE Go.TX Go.TX.F Go.Proofs
set_option maxRecDepth 100000
theorem ahJ (A:Alg) (bF:Ct A.ah dK) (gP:Ct A.ah jS): @Ru aH.z X E A [] (.seq .u (.seq .u (.seq (.seq .u (.block (.loop ⟨[(0,.c (.pb 0 2 0)),(4,.c (.pb 1 7 0)),(5,.c (.pb 2 7 0)),(6,.c (.int .i64))],[.box (.agg [.rows true .u8,.int .i64]),.box (.agg [.int .i64,.int .i64,.nil,.int .i64,.int .i64,.int .i64,.int .i64]),.box (.agg [.int .i64,.int .i64,.own 3,.int .i64,.int .i64,.int .i64,.int .i64]),.rows true .iop]⟩ (.seq .u (.seq (.block (.seq .u (.seq (.seq (.cut ⟨[(0,.c (.pb 0 2 0)),(4,.c (.pb 1 7 0)),(5,.c (.pb 2 7 0)),(6,.c (.int .i64)),(7,.c (.pb 3 5 0)),(34,.c (.bool))],[.box (.agg [.rows true .u8,.int .i64]),.box (.agg [.int .i64,.int .i64,.nil,.int .i64,.int .i64,.int .i64,.int .i64]),.box (.agg [.int .i64,.int .i64,.own 4,.int .i64,.int .i64,.int .i64,.int .i64]),.box (.sv true .iop),.rows true .iop]⟩ .u) (.cut ⟨[(0,.c (.pb 0 2 0)),(4,.c (.pb 1 7 0)),(5,.c (.pb 2 7 0)),(6,.c (.int .i64)),(7,.c (.pb 3 5 0))],[.box (.agg [.rows true .u8,.int .i64]),.box (.agg [.int .i64,.int .i64,.nil,.int .i64,.int .i64,.int .i64,.int .i64]),.box (.agg [.int .i64,.int .i64,.own 4,.int .i64,.int .i64,.int .i64,.int .i64]),.box (.sv true .iop),.rows true .iop]⟩ (.cond .u .u))) (.seq (.seq .u (.cut ⟨[(0,.c (.pb 0 2 0)),(4,.c (.pb 1 7 0)),(5,.c (.pb 2 7 0)),(6,.c (.int .i64)),(7,.c (.pb 3 5 0))],[.box (.agg [.rows true .u8,.int .i64]),.box (.agg [.int .i64,.int .i64,.nil,.int .i64,.int .i64,.int .i64,.int .i64]),.box (.agg [.int .i64,.int .i64,.own 4,.int .i64,.int .i64,.int .i64,.int .i64]),.box (.sv true .iop),.rows true .iop]⟩ (.cond .u .u))) (.seq .u (.cut ⟨[(0,.c (.pb 0 2 0)),(4,.c (.pb 1 7 0)),(5,.c (.pb 2 7 0)),(6,.c (.int .i64))],[.box (.agg [.rows true .u8,.int .i64]),.box (.agg [.int .i64,.int .i64,.nil,.int .i64,.int .i64,.int .i64,.int .i64]),.box (.agg [.int .i64,.int .i64,.own 3,.int .i64,.int .i64,.int .i64,.int .i64]),.rows true .iop]⟩ (.cond .u .u))))))) .u))))) .u))) FN Tryz.f139 [(78,⟨_,bF⟩),(59,⟨_,gP⟩)] (Sn A bF.pre bF.fn gP.pre gP.fn):=fun _=>by kernel_rfl
theorem ahK (A:Alg) (dG:Ct A.ah gN) (pX:Ct A.ah uG) (jm:Ct A.ah mZ) (bF:Ct A.ah dK) (pY:Ct A.ah uM) (G9:Ct A.ah ET) (Hg:Ct A.ah FN): @Ru aH.z X E A [(3,[(0,([6],[])),(1,([6],[])),(2,([4,13],[1])),(3,([5,14],[]))]),(6,[(0,([6],[])),(1,([0],[])),(2,([6],[])),(3,([20,21],[0])),(4,([4,19],[])),(5,([5,22],[]))]),(8,[(0,([6],[])),(1,([6],[])),(2,([26],[0])),(3,([4,25],[])),(4,([5,27],[]))]),(10,[(0,([6],[])),(1,([0],[])),(2,([6],[])),(3,([31,32],[0])),(4,([33],[0])),(5,([4,30],[])),(6,([5,34],[]))]),(12,[(0,([6],[])),(1,([0],[])),(2,([6],[])),(3,([38,39],[0])),(4,([4,37],[])),(5,([5,40],[]))]),(14,[(0,([6],[])),(1,([0],[])),(2,([6],[])),(3,([45],[0])),(4,([44,46],[0])),(5,([4,43],[])),(6,([5,47],[]))]),(16,[(0,([6],[])),(2,([6],[])),(1,([50],[2])),(3,([4,51],[2])),(4,([5,52],[]))]),(18,[(0,([6],[])),(1,([0],[])),(2,([1],[])),(3,([56,57],[0])),(4,([4,55],[])),(5,([5,58],[]))]),(20,[(0,([6],[])),(1,([6],[])),(2,([62],[0])),(3,([4,61],[])),(4,([5,63],[]))]),(21,[(0,([6],[])),(1,([6],[])),(2,([4,64],[1])),(3,([5,65],[]))])] .u FP Tryz.f79 [(19,⟨_,dG⟩),(25,⟨_,pX⟩),(18,⟨_,jm⟩),(78,⟨_,bF⟩),(112,⟨_,pY⟩),(55,⟨_,G9⟩),(139,⟨_,Hg⟩)] (Sq A dG.pre dG.fn pX.pre pX.fn jm.pre jm.fn bF.pre bF.fn pY.pre pY.fn G9.pre G9.fn Hg.pre Hg.fn):=fun _=>by kernel_rfl
theorem ahL (A:Alg) (Hl:Ct A.ah EU) (Ho:Ct A.ah FP): @Ru aH.z X E A [] .u FQ Tryz.f36 [(56,⟨_,Hl⟩),(79,⟨_,Ho⟩)] (Sr A Hl.pre Hl.fn Ho.pre Ho.fn):=fun _=>by kernel_rfl
theorem aoe (A:Alg) (OJ:Ct A.ah NG) (OL:Ct A.ah M4) (OM:Ct A.ah M5) (Hq:Ct A.ah FQ): @Ru aH.z X E A [] .u adt Tryz.f8 [(22,⟨_,OJ⟩),(16,⟨_,OL⟩),(20,⟨_,OM⟩),(36,⟨_,Hq⟩)] (ZO A OJ.pre OJ.fn OL.pre OL.fn OM.pre OM.fn Hq.pre Hq.fn):=fun _=>by kernel_rfl
end Go.TX.Seat
namespace Go.TX.Seat
open Go Go.AE Go.TX Go.TX.F Go.Proofs
set_option maxRecDepth 100000
end Go.TX.Seat
namespace Go.TX
open Go Go.AE
theorem ahM (x y:Int):bA .lss x y=decide (x<y):=rfl
theorem ahN (x y:Int):bA .leq x y=decide (x≤y):=rfl
theorem ahO (x y:Int):bA .gtr x y=decide (y<x):=rfl
theorem ahP (x y:Int):bA .geq x y=decide (y≤x):=rfl
theorem ahQ (x y:Int):bA .eql x y=decide (x=y):=rfl
theorem ahR (x y:Int):bA .neq x y= !decide (x=y):=rfl
theorem ahS (k:IntKind) (x y:Int):jk .add k x y=k.wrap (x+y):=rfl
theorem ZP (k:IntKind) (x y:Int):jk .sub k x y=k.wrap (x-y):=rfl
theorem ahT (k:IntKind) (x y:Int):jk .mul k x y=k.wrap (x*y):=rfl
theorem ahU (k:IntKind) (x y:Int):jk .quo k x y=k.wrap (x.tdiv y):=rfl
theorem ZQ (k:IntKind) (x y:Int):jk .rem k x y=x.tmod y:=rfl
theorem w64 {x:Int} (h1: -9223372036854775808≤x) (h2:x≤9223372036854775807):IntKind.i64.wrap x=x:=IntWalk.i64_in _ (by omega)
theorem acw (m:aj):jK .mono 0 m=m.fZ:=rfl
theorem acy (m:aj):o9 .mono 1 .i64 m=m.atoms:=rfl
theorem ahV (p:List aj):o9 .poly 0 .mono p=p:=rfl
theorem aof (p:List Atom):o9 .tab 0 .atom p=p:=rfl
theorem ahW (p:List Int):o9 .ints 0 .i64 p=p:=rfl
theorem acz (m:Atom):jK .atom 0 m=m.kind:=rfl
theorem acA (m:Atom):jK .atom 1 m=m.k:=rfl
theorem acB (m:Atom):o9 .atom 2 .mono m=m.x:=rfl
theorem acC (m:Atom):o9 .atom 3 .mono m=m.y:=rfl
theorem aog (n:Int):jK .i64 0 n=n:=rfl
theorem arX (n:Int):jK .u8 0 n=n:=rfl
theorem acD (x):Co.mk .mono x=⟨x.1,x.2.1⟩:=rfl
theorem acE (x):Co.mk .poly x=x.1:=rfl
theorem ahX (x):Co.mk .tab x=x.1:=rfl
theorem acF (x):Co.mk .ints x=x.1:=rfl
theorem Hr (x):Co.mk .i64 x=x.1:=rfl
theorem acG (x):Co.mk .atom x=⟨x.1,x.2.1,x.2.2.1,x.2.2.2.1⟩:=rfl
theorem aA {α ρ:Type} {f:α→(α ⊕ ρ→Prop)→Prop} {x:α} {Q:ρ→Prop} (I:α→Prop) (μ:α→Nat) (h0:I x) (hs:∀y,I y→f y (Cv (fun z _=>I z∧μ z<μ y) Q)):UJ f x Q:=⟨I,μ,h0,hs⟩
theorem ZR {α ρ:Type} (k:α→(ρ→Prop)→Prop) (Q:ρ→Prop) (x:α):Cv k Q (.inl x)=k x Q:=rfl
theorem ZT {α ρ:Type} (k:α→(ρ→Prop)→Prop) (Q:ρ→Prop) (r:ρ):Cv k Q (.inr r)=Q r:=rfl
theorem getD_lt {α:Type} {xs:List α} {d:α} {i:Nat} (h:i<xs.length):xs.getD i d=xs[i]:=by simp [List.getD,h]
theorem lD {α:Type} {xs:List α} {d:α} {i:Int} (h0:0≤i) (h:i<xs.length):xs.getD i.toNat d∈xs:=by
 rw [getD_lt (by omega)];exact List.getElem_mem _
theorem RR:(∀(x y:Int),bA BinOp.lss x y=decide (x<y))∧(∀(x y:Int),bA BinOp.leq x y=decide (x≤y))∧(∀(x y:Int),bA BinOp.gtr x y=decide (y<x))∧(∀(x y:Int),bA BinOp.geq x y=decide (y≤x))∧(∀(x y:Int),bA BinOp.eql x y=decide (x=y))∧(∀(x y:Int),bA BinOp.neq x y= !decide (x=y))∧(∀(k:IntKind) (x y:Int),jk BinOp.add k x y=k.wrap (x+y))∧(∀(k:IntKind) (x y:Int),jk BinOp.sub k x y=k.wrap (x-y))∧(∀(k:IntKind) (x y:Int),jk BinOp.mul k x y=k.wrap (x*y))∧(∀(k:IntKind) (x y:Int),jk BinOp.quo k x y=k.wrap (x.tdiv y))∧(∀(k:IntKind) (x y:Int),jk BinOp.rem k x y=x.tmod y)∧(∀ {x:Int}, -9223372036854775808≤x→x≤9223372036854775807→IntKind.i64.wrap x=x)∧(∀(m:aj),jK Co.mono 0 m=m.fZ)∧(∀(m:aj),o9 Co.mono 1 Co.i64 m=m.atoms)∧(∀(p:List aj),o9 Co.poly 0 Co.mono p=p)∧(∀(p:List Atom),o9 Co.tab 0 Co.atom p=p)∧(∀(p:List Int),o9 Co.ints 0 Co.i64 p=p)∧(∀(m:Atom),jK Co.atom 0 m=m.kind)∧(∀(m:Atom),jK Co.atom 1 m=m.k)∧(∀(m:Atom),o9 Co.atom 2 Co.mono m=m.x)∧(∀(m:Atom),o9 Co.atom 3 Co.mono m=m.y)∧(∀(n:Int),jK Co.i64 0 n=n)∧(∀(n:Int),jK Co.u8 0 n=n)∧(∀(x:ig Co.mono.wK),Co.mono.mk x=aj.mk x.fst x.snd.fst)∧(∀(x:ig Co.poly.wK),Co.poly.mk x=x.fst)∧(∀(x:ig Co.tab.wK),Co.tab.mk x=x.fst)∧(∀(x:ig Co.ints.wK),Co.ints.mk x=x.fst)∧(∀(x:ig Co.i64.wK),Co.i64.mk x=x.fst)∧(∀(x:ig Co.atom.wK),Co.atom.mk x=Atom.mk x.fst x.snd.fst x.snd.snd.fst x.snd.snd.snd.fst)∧(∀ {α ρ:Type} (k:α→(ρ→Prop)→Prop) (Q:ρ→Prop) (x:α),Cv k Q (Sum.inl x)=k x Q)∧(∀ {α ρ:Type} (k:α→(ρ→Prop)→Prop) (Q:ρ→Prop) (r:ρ),Cv k Q (Sum.inr r)=Q r)∧(∀(c f:Bool),(bif c then true else f)=(c || f))∧(∀(c t:Bool),(bif c then t else false)=(c&&t))∧(∀(c f:Bool),(bif c then false else f)=(!c&&f))∧(∀(c t:Bool),(bif c then t else true)=(!c || t))∧(∀(a b:Bool),((a || b)=true)=(a=true∨b=true))∧(∀ {x y:Bool},(x || y)=false↔x=false∧y=false)∧(∀(a b:Bool),((a&&b)=true)=(a=true∧b=true))∧(∀ {p:Prop} [inst:Decidable p],(decide p=true)=p)∧(∀ {p:Prop} {x:Decidable p},decide p=false↔¬p)∧(∀(b:Bool),((!b)=true)=(b=false))∧(∀(b:Bool),((!b)=false)=(b=true))∧(∀(b:Bool),(!!b)=b)∧(∀(p:Prop),(True∧p)=p)∧(∀(p:Prop),(p∧True)=p)∧(∀ {α:Type} [inst:LE α] {x y:α},x≥y↔y≤x)∧(¬True)=False∧(¬False)=True∧(false=true)=False∧(true=false)=False∧(∀(p:Prop),(False→p)=True)∧(∀(p:Prop),(True→p)=p)∧(∀(α:Prop),(α→True)=True)∧(∀(α:Type),(∀(a:α),True)=True)∧(∀(p:Prop),(False∨p)=p)∧(∀(p:Prop),(p∨False)=p)∧(∀(p:Prop),(True∨p)=True)∧(∀(p:Prop),(p∨True)=True)∧(∀ {α:Type} {x:Decidable True} (t e:α),(if True then t else e)=t)∧∀ {α:Type} {x:Decidable False} (t e:α),(if False then t else e)=e:=And.intro (@ahM)<| And.intro (@ahN)<| And.intro (@ahO)<| And.intro (@ahP)<| And.intro (@ahQ)<| And.intro (@ahR)<| And.intro (@ahS)<| And.intro (@ZP)<| And.intro (@ahT)<| And.intro (@ahU)<| And.intro (@ZQ)<| And.intro (@w64)<| And.intro (@acw)<| And.intro (@acy)<| And.intro (@ahV)<| And.intro (@aof)<| And.intro (@ahW)<| And.intro (@acz)<| And.intro (@acA)<| And.intro (@acB)<| And.intro (@acC)<| And.intro (@aog)<| And.intro (@arX)<| And.intro (@acD)<| And.intro (@acE)<| And.intro (@ahX)<| And.intro (@acF)<| And.intro (@Hr)<| And.intro (@acG)<| And.intro (@ZR)<| And.intro (@ZT)<| And.intro (@Bool.cond_true_left)<| And.intro (@Bool.cond_false_right)<| And.intro (@Bool.cond_false_left)<| And.intro (@Bool.cond_true_right)<| And.intro (@Bool.or_eq_true)<| And.intro (@Bool.or_eq_false_iff)<| And.intro (@Bool.and_eq_true)<| And.intro (@decide_eq_true_eq)<| And.intro (@decide_eq_false_iff_not)<| And.intro (@Bool.not_eq_true')<| And.intro (@Bool.not_eq_false')<| And.intro (@Bool.not_not)<| And.intro (@true_and)<| And.intro (@and_true)<| And.intro (@ge_iff_le.{0})<| And.intro (@not_true_eq_false)<| And.intro (@not_false_eq_true)<| And.intro (@Bool.false_eq_true)<| And.intro (@Bool.true_eq_false)<| And.intro (@false_implies)<| And.intro (@true_implies)<| And.intro (@implies_true.{0})<| And.intro (@implies_true.{1})<| And.intro (@false_or)<| And.intro (@or_false)<| And.intro (@true_or)<| And.intro (@or_true)<| And.intro (@if_true.{1})<| @if_false.{1}
end Go.TX
namespace Go.TX.F
open Go Go.AE Go.TX
def inB (a lo hi:Int):Bool:=decide (lo≤a)&&decide (a≤hi)
theorem adB (a b c:Int):Yb (std 0) (a,b,c,()) (fun y=>y=(inB a b c,())):=by
 dsimp only [Yb,Alg.cl,Alg.cg,Alg.rb,Alg.bd,Alg.l1,Tup.q,Tup.o]
 simp (disch:=omega) only [RR]
 rfl
theorem adC {p:Int×Int×Int×Unit→Bool} {f:Int×Int×Int×Unit→Bool×Unit} (hp:∀a b c,p (a,b,c,())=true) (hf:∀a b c,f (a,b,c,())=(inB a b c,())) (a:Int):Yc (std 0) p f (a,()) (fun y=>y=(inB a 0 65535,())):=by
 dsimp only [Yc,Alg.cl,Alg.cg,Alg.rb,Alg.bd,Alg.l1,Tup.q,Tup.o]
 simp (disch:=omega) only [RR,hp,hf]
theorem adD {p:Int×Int×Int×Unit→Bool} {f:Int×Int×Int×Unit→Bool×Unit} (hp:∀a b c,p (a,b,c,())=true) (hf:∀a b c,f (a,b,c,())=(inB a b c,())) (a:Int):Yf (std 0) p f (a,()) (fun y=>y=(inB a 1 5,())):=by
 dsimp only [Yf,Alg.cl,Alg.cg,Alg.rb,Alg.bd,Alg.l1,Tup.q,Tup.o]
 simp (disch:=omega) only [RR,hp,hf]
theorem adE {p:Int×Int×Int×Unit→Bool} {f:Int×Int×Int×Unit→Bool×Unit} (hp:∀a b c,p (a,b,c,())=true) (hf:∀a b c,f (a,b,c,())=(inB a b c,())) (a:Int):Ye (std 0) p f (a,()) (fun y=>y=(inB a 0 3,())):=by
 dsimp only [Ye,Alg.cl,Alg.cg,Alg.rb,Alg.bd,Alg.l1,Tup.q,Tup.o]
 simp (disch:=omega) only [RR,hp,hf]
theorem aoh (a:Int):afJ (std 0) (a,()) (fun y=>y=(false,())):=by
 dsimp only [afJ,Alg.cl,Alg.cg,Alg.rb,Alg.bd,Alg.l1,Tup.q,Tup.o]
 simp (disch:=omega) only [RR]
 simp
def nM (a b:Int):Int:=if a<b then-1 else if b<a then 1 else 0
theorem arY {p:Int×Unit→Bool} {f:Int×Unit→Bool×Unit} (hp:∀a,p (a,())=true) (hf:∀a,f (a,())=(false,())) (a b:Int):afK (std 0) p f (a,b,()) (fun y=>y=(nM a b,())):=by
 dsimp only [afK,Alg.cl,Alg.cg,Alg.rb,Alg.bd,Alg.l1,Tup.q,Tup.o]
 simp (disch:=omega) only [RR,hp,hf]
 unfold nM
 refine⟨fun h=>by simp [h],fun h=>⟨fun h2=>by simp [h,h2],fun h2=>by simp [h,h2]⟩⟩
theorem arZ {p:Int×Unit→Bool} {f:Int×Unit→Bool×Unit} (hp:∀a,p (a,())=true) (hf:∀a,f (a,())=(false,())) (a b:Int):afO (std 0) p f (a,b,()) (fun y=>y=(decide (a<b),())):=by
 dsimp only [afO,Alg.cl,Alg.cg,Alg.rb,Alg.bd,Alg.l1,Tup.q,Tup.o]
 simp (disch:=omega) only [RR,hp,hf]
 simp
def or2 (a b:Int):Int:=if a≠0 then a else b
theorem aoi (a b:Int):afL (std 0) ([a,b],()) (fun y=>y=(or2 a b,())):=by
 dsimp only [afL,Alg.cl,Alg.cg,Alg.rb,Alg.bd,Alg.l1,Tup.q,Tup.o]
 refine aA (fun(y:Int×List Int×Int×Int×Unit)=>y.1=0∧y.2.1=[a,b]∧y.2.2.1=2∧0≤y.2.2.2.1∧y.2.2.2.1≤2∧(0<y.2.2.2.1→a=0)∧(1<y.2.2.2.1→b=0)) (fun y=>(2-y.2.2.2.1).toNat) ⟨rfl,rfl,rfl,by simp,by simp,fun h=>absurd h (by simp),fun h=>absurd h (by simp)⟩ ?_
 rintro⟨(z:Int),(l:List Int),(n:Int),(i:Int),⟨⟩⟩ hI
 dsimp only at hI ⊢
 obtain⟨rfl,rfl,rfl,h1,h2,h3,h4⟩:=hI
 simp (disch:=omega) only [RR]
 have hi:i=0∨i=1∨i=2:=by omega
 rcases hi with rfl | rfl | rfl
 ·by_cases ha:a=0<;>simp [or2,ha]<;>(try omega)
 ·have:=h3 (by omega)
  by_cases hb:b=0<;>simp [or2,this,hb]<;>(try omega)
 ·have:=h3 (by omega)
  have:=h4 (by omega)
  simp [or2, *]
def kL:List Int→List Int→Int
 | [],[]=>0
 | [],_::_=> -1
 | _::_,[]=>1
 | a::az,b::bs=>if nM a b≠0 then nM a b else kL az bs
theorem Jl (a b:List Int) (i:Nat):(h1:i<a.length)→(h2:i<b.length)→kL (a.drop i) (b.drop i)=if nM a[i] b[i]≠0 then nM a[i] b[i]else kL (a.drop (i+1)) (b.drop (i+1)):=by
 intro h1 h2
 rw [List.drop_eq_getElem_cons h1,List.drop_eq_getElem_cons h2];rfl
theorem ZU (l:List Int) (h:l≠ []):kL l []=1:=by cases l<;>simp_all [kL]
theorem aoj {p:Int×Int×Unit→Bool} {f:Int×Int×Unit→Int×Unit} (hp:∀a b,p (a,b,())=true) (hf:∀a b,f (a,b,())=(nM a b,())) (a b:List Int) (ha:a.length<1000000000):
  Yy (std 0) p f (a,b,()) (fun y=>y=(kL a b,())):=by
 dsimp only [Yy,Alg.cl,Alg.cg,Alg.rb,Alg.bd,Alg.l1,Tup.q,Tup.o]
 refine aA (fun(y:List Int×List Int×List Int×Int×Int×Unit)=>y.1=a∧y.2.1=b∧y.2.2.1=a∧y.2.2.2.1=a.length∧0≤y.2.2.2.2.1∧y.2.2.2.2.1≤a.length∧y.2.2.2.2.1≤b.length∧kL a b=kL (a.drop y.2.2.2.2.1.toNat) (b.drop y.2.2.2.2.1.toNat))
  (fun y=>(a.length-y.2.2.2.2.1).toNat) ⟨rfl,rfl,rfl,rfl,by simp,by simp,by simp,by simp⟩ ?_
 rintro⟨(l1:List Int),(l2:List Int),(l3:List Int),(n:Int),(i:Int),⟨⟩⟩ hI
 dsimp only at hI ⊢
 obtain⟨rfl,rfl,rfl,rfl,h1,h2,h3,h4⟩:=hI
 simp (disch:=omega) only [RR,hp,hf]
 refine⟨fun hi=>⟨h1,hi,fun hj=> ?_,fun hj=>⟨h1,by omega,fun hc=> ?_,fun hc=> ?_⟩⟩,fun hi=>⟨fun hj=> ?_,fun hj=> ?_⟩⟩
 ·rw [h4,List.drop_eq_nil_of_le (show l2.length≤i.toNat by omega),ZU _ (by simp;omega)]
 ·rw [h4,Jl l3 l2 i.toNat (by omega) (by omega)]
  rw [getD_lt (by omega),getD_lt (by omega)]at hc
  rw [getD_lt (by omega),getD_lt (by omega),if_pos hc]
 ·rw [getD_lt (by omega),getD_lt (by omega)]at hc
  refine⟨⟨by omega,by omega,by omega,?_⟩,by omega⟩
  rw [h4,Jl l3 l2 i.toNat (by omega) (by omega),if_neg (by simpa using hc),show(i+1).toNat=i.toNat+1 by omega]
 ·rw [h4,List.drop_eq_nil_of_le (show l3.length≤i.toNat by omega)]
  have:∃q r,l2.drop i.toNat=q::r:=by
   cases hq:l2.drop i.toNat with
   | nil=>have:=congrArg List.length hq;simp at this;omega
   | cons q r=>exact⟨q,r,rfl⟩
  obtain⟨q,r,hq⟩:=this
  rw [hq];rfl
 ·rw [h4,List.drop_eq_nil_of_le (show l3.length≤i.toNat by omega),List.drop_eq_nil_of_le (show l2.length≤i.toNat by omega)];rfl
def dZ (a b:List Int):Int:=or2 (nM a.length b.length) (kL a b)
theorem aol {p1:Int×Int×Unit→Bool} {f1:Int×Int×Unit→Int×Unit} (hp1:∀a b,p1 (a,b,())=true) (hf1:∀a b,f1 (a,b,())=(nM a b,()))
  {p2:List Int×List Int×Unit→Bool} {f2:List Int×List Int×Unit→Int×Unit} (hp2:∀a b,a.length<1000000000→p2 (a,b,())=true) (hf2:∀a b,a.length<1000000000→f2 (a,b,())=(kL a b,()))
  {p3:List Int×Unit→Bool} {f3:List Int×Unit→Int×Unit} (hp3:∀a b,p3 ([a,b],())=true) (hf3:∀a b,f3 ([a,b],())=(or2 a b,())) (a b:List Int) (ha:a.length<1000000000):
  Yz (std 0) p3 f3 p1 f1 p2 f2 (a,b,()) (fun y=>y=(dZ a b,())):=by
 dsimp only [Yz,Alg.cl,Alg.cg,Alg.rb,Alg.bd,Alg.l1,Tup.q,Tup.o]
 simp (disch:=omega) only [RR,hp1,hf1,hp2 a b ha,hf2 a b ha,hp3,hf3]
 rfl
end Go.TX.F
namespace Go.TX.F
open Go Go.AE Go.TX
noncomputable def bp (P:Prop):Bool:= @decide P (Classical.propDecidable P)
theorem bO {P:Prop} (h:P):bp P=true:=by simp [bp,h]
theorem iB {P:Prop} (h:¬P):bp P=false:=by simp [bp,h]
theorem bR {P:Prop}:bp P=true↔P:=by simp [bp]
theorem uU {P:Prop}:bp P=false↔¬P:=by simp [bp]
theorem uV {P Q:Prop}:bp (P∧Q)=(bp P&&bp Q):=by by_cases h1:P<;>by_cases h2:Q<;>simp [bp,h1,h2]
theorem uW {P Q:Prop} (h:P↔Q):bp P=bp Q:=by simp [bp,h]
def All (n:Int) (G:Int→Prop):Prop:=∀j,0≤j→j<n→G j
theorem All.zero {G:Int→Prop}:All 0 G:=fun j h1 h2=>absurd h2 (by omega)
theorem All.snoc {n:Int} {G:Int→Prop} (h:All n G) (hi:G n):All (n+1) G:=fun j h1 h2=>by
 by_cases hj:j=n
 ·exact hj▸hi
 ·exact h j h1 (by omega)
theorem All.le {n m:Int} {G:Int→Prop} (h:All n G) (hi:m≤n):All m G:=fun j h1 h2=>h j h1 (by omega)
def Idx (n:Int) (G:Int→Prop) (r:Int):Prop:=(r= -1∧All n (fun j=>¬G j))∨(0≤r∧r<n∧G r∧All r (fun j=>¬G j))
theorem Idx.ge {n:Int} {G:Int→Prop} {r:Int} (h:Idx n G r):(0≤r)↔¬All n (fun j=>¬G j):=by
 rcases h with⟨rfl,h⟩ | ⟨h1,h2,h3,h4⟩
 ·simp [h]
 ·simp only [h1,true_iff];exact fun h=>h r h1 h2 h3
def Srt (l:List Int):Prop:=All (l.length-1) (fun i=>l.getD i.toNat default≤l.getD (i+1).toNat default)
theorem ahY {p:Int×Int×Unit→Bool} {f:Int×Int×Unit→Bool×Unit} (hp:∀a b,p (a,b,())=true) (hf:∀a b,f (a,b,())=(decide (a<b),())) (a:List Int) (ha:a.length<1000000000):
  RV (std 0) p f (a,()) (fun y=>y=(bp (Srt a),())):=by
 dsimp only [RV,Alg.cl,Alg.cg,Alg.rb,Alg.bd,Alg.l1,Tup.q,Tup.o]
 simp (disch:=omega) only [RR,hp,hf]
 refine aA (fun(y:List Int×Int×Unit)=>y.1=a∧ -1≤y.2.1∧y.2.1≤a.length-1∧∀j,y.2.1≤j→0≤j→j< (a.length:Int)-1→a.getD j.toNat default≤a.getD (j+1).toNat default) (fun y=>(y.2.1+1).toNat) ⟨rfl,by simp;omega,by simp,by simp;omega⟩ ?_
 rintro⟨(l:List Int),(i:Int),⟨⟩⟩ hI
 dsimp only at hI ⊢
 obtain⟨rfl,h1,h2,h3⟩:=hI
 simp (disch:=omega) only [RR,hp,hf]
 refine⟨fun h4=>⟨by omega,by omega,by omega,by omega,fun h5=> ?_,fun h5=>⟨⟨by omega,by omega,fun j h6 h7 h8=> ?_⟩,by omega⟩⟩,fun h4=> ?_⟩
 ·rw [iB]
  intro h;have:=h (i-1) (by omega) (by omega)
  dsimp only at this
  rw [show i-1+1=i by omega]at this;omega
 ·by_cases hj:j=i-1
  ·subst hj;rw [show i-1+1=i by omega];omega
  ·exact h3 j (by omega) h7 h8
 ·rw [bO]
  exact fun j h6 h7=>h3 j (by omega) h6 h7
theorem adF (a n:Int):Yu (std 0) (a,n,()) (fun y=>y=(decide (n≤a),n,())):=by
 dsimp only [Yu,Alg.cl,Alg.cg,Alg.rb,Alg.bd,Alg.l1,Tup.q,Tup.o]
 simp (disch:=omega) only [RR]
theorem ahZ {p:Int×Int×Unit→Bool} {f:Int×Int×Unit→Bool×Int×Unit} (hp:∀a b,p (a,b,())=true) (hf:∀a b,f (a,b,())=(decide (b≤a),b,())) (a:List Int) (n:Int) (ha:a.length<1000000000):
  RS (std 0) p f (a,n,()) (fun y=>Idx a.length (fun i=>n≤a.getD i.toNat default) y.1∧y.2.1=n):=by
 dsimp only [RS,Alg.cl,Alg.cg,Alg.rb,Alg.bd,Alg.l1,Tup.q,Tup.o]
 refine aA (fun(y:List Int×Int×Int×Int×Unit)=>y.1=a∧y.2.1=a.length∧y.2.2.2.1=n∧0≤y.2.2.1∧y.2.2.1≤a.length∧All y.2.2.1 (fun i=>¬n≤a.getD i.toNat default)) (fun y=>(a.length-y.2.2.1).toNat) ⟨rfl,rfl,rfl,by simp,by simp,All.zero⟩ ?_
 rintro⟨(l:List Int),(m:Int),(i:Int),(n':Int),⟨⟩⟩ hI
 dsimp only at hI ⊢
 obtain⟨rfl,rfl,rfl,h1,h2,h3⟩:=hI
 simp (disch:=omega) only [RR,hp,hf]
 refine⟨fun h4=>⟨by omega,by omega,fun h5=> ?_,fun h5=>⟨⟨by omega,by omega,h3.snoc h5⟩,by omega⟩⟩,fun h4=> ?_⟩
 ·exact Or.inr ⟨by omega,by omega,h5,h3⟩
 ·exact Or.inl ⟨rfl,h3.le (by omega)⟩
theorem ah0 {p:List Int×Int×Unit→Bool} {f:List Int×Int×Unit→Int×Int×Unit} (hp:∀a b,a.length<1000000000→p (a,b,())=true)
  (hf:∀a n,a.length<1000000000→Idx a.length (fun i=>n≤a.getD i.toNat default) (f (a,n,())).1∧(f (a,n,())).2.1=n) (a:List Int) (n:Int) (ha:a.length<1000000000):
  RU (std 0) p f (a,n,()) (fun y=>y=(bp (¬All a.length (fun i=>¬n≤a.getD i.toNat default)),n,())):=by
 obtain⟨h1,h2⟩:=hf a n ha
 dsimp only [RU,Alg.cl,Alg.cg,Alg.rb,Alg.bd,Alg.l1,Tup.q,Tup.o]
 simp (disch:=omega) only [RR,hp a n ha,h2]
 rw [show decide ((0:Int)≤(f (a,n,())).1)=bp (¬All a.length (fun i=>¬n≤a.getD i.toNat default))from ?_]
 rw [←uW h1.ge];simp [bp]
def Sv (n:Int) (m:aj):Prop:=All m.atoms.length (fun i=>¬n≤m.atoms.getD i.toNat default)
def bg (p:List aj) (n:Int):Prop:=All p.length (fun i=>Sv n (p.getD i.toNat default))
def Sh (p:List aj):Prop:=p.length<1000000000∧∀m∈p,m.atoms.length<1000000000
theorem Sh.at {p:List aj} (h:Sh p) (n:Nat):(p.getD n default).atoms.length<1000000000:=by
 by_cases h1:n<p.length
 ·rw [getD_lt h1];exact h.2 _ (List.getElem_mem _)
 ·simp only [List.getD,List.getElem?_eq_none (by omega:p.length≤n)];decide
theorem aom {p:List Int×Int×Unit→Bool} {f:List Int×Int×Unit→Bool×Int×Unit} (hp:∀a b,a.length<1000000000→p (a,b,())=true)
  (hf:∀a n,a.length<1000000000→f (a,n,())=(bp (¬All a.length (fun i=>¬n≤a.getD i.toNat default)),n,())) (a:List aj) (n:Int) (ha:Sh a):
  Yv (std 0) p f (a,n,()) (fun y=>y=(bp (bg a n),())):=by
 have hlen:=ha.1
 dsimp only [Yv,Alg.cl,Alg.cg,Alg.rb,Alg.bd,Alg.l1,Tup.q,Tup.o]
 refine aA (fun(y:List aj×Int×Int×Int×Unit)=>y.1=a∧y.2.1=a.length∧y.2.2.2.1=n∧0≤y.2.2.1∧y.2.2.1≤a.length∧All y.2.2.1 (fun i=>Sv n (a.getD i.toNat default))) (fun y=>(a.length-y.2.2.1).toNat) ⟨rfl,rfl,rfl,by simp,by simp,All.zero⟩ ?_
 rintro⟨(l:List aj),(m:Int),(i:Int),(n':Int),⟨⟩⟩ hI
 dsimp only at hI ⊢
 obtain⟨rfl,rfl,rfl,h1,h2,h3⟩:=hI
 simp (disch:=omega) only [RR]
 refine⟨fun h4=> ?_,fun h4=> ?_⟩
 ·have h5:=ha.at i.toNat
  rw [hp _ _ h5,hf _ _ h5]
  refine⟨by omega,by omega,rfl,fun h6=> ?_,fun h6=>⟨⟨rfl,by omega,by omega,h3.snoc ?_⟩,by omega⟩⟩
  ·rw [iB (fun h=> ?_)]
   exact bR.1 h6 (h i h1 h4)
  ·exact Classical.byContradiction (fun h=>uU.1 h6 h)
 ·rw [bO (show bg l n' from h3.le (by omega))]
theorem adG (m:aj):YC (std 0) (m,()) (fun y=>y=(bp (0<m.atoms.length∧m.atoms.getD 0 default<0),())):=by
 dsimp only [YC,Alg.cl,Alg.cg,Alg.rb,Alg.bd,Alg.l1,Tup.q,Tup.o]
 simp (disch:=omega) only [RR]
 refine⟨by omega,by omega,?_⟩
 rw [uV]
 by_cases h1:0<m.atoms.length
 ·by_cases h2:m.atoms.getD 0 default<0
  ·rw [bO h1,bO h2,show Int.toNat 0=0 from rfl,decide_eq_true h2,decide_eq_true (by omega)]
  ·rw [bO h1,iB h2,show Int.toNat 0=0 from rfl,decide_eq_false h2,Bool.and_false,Bool.and_false]
 ·rw [iB h1,decide_eq_false (by omega),Bool.false_and,Bool.false_and]
theorem ah1 {p:aj×Unit→Bool} {f:aj×Unit→Bool×Unit} (G:aj→Prop) (hp:∀a,p (a,())=true) (hf:∀a,f (a,())=(bp (G a),())) (a:List aj) (ha:a.length<1000000000):
  RX (std 0) p f (a,()) (fun y=>Idx a.length (fun i=>G (a.getD i.toNat default)) y.1):=by
 dsimp only [RX,Alg.cl,Alg.cg,Alg.rb,Alg.bd,Alg.l1,Tup.q,Tup.o]
 refine aA (fun(y:List aj×Int×Int×Unit)=>y.1=a∧y.2.1=a.length∧0≤y.2.2.1∧y.2.2.1≤a.length∧All y.2.2.1 (fun i=>¬G (a.getD i.toNat default))) (fun y=>(a.length-y.2.2.1).toNat) ⟨rfl,rfl,by simp,by simp,All.zero⟩ ?_
 rintro⟨(l:List aj),(m:Int),(i:Int),⟨⟩⟩ hI
 dsimp only at hI ⊢
 obtain⟨rfl,rfl,h1,h2,h3⟩:=hI
 simp (disch:=omega) only [RR,hp,hf]
 refine⟨fun h4=>⟨by omega,by omega,fun h5=> ?_,fun h5=>⟨⟨by omega,by omega,h3.snoc (uU.1 h5)⟩,by omega⟩⟩,fun h4=> ?_⟩
 ·exact Or.inr ⟨by omega,by omega,bR.1 h5,h3⟩
 ·exact Or.inl ⟨rfl,h3.le (by omega)⟩
theorem ah2 {p:List aj×Unit→Bool} {f:List aj×Unit→Int×Unit} (G:aj→Prop) (hp:∀a,a.length<1000000000→p (a,())=true)
  (hf:∀a,a.length<1000000000→Idx a.length (fun i=>G (a.getD i.toNat default)) (f (a,())).1) (a:List aj) (ha:a.length<1000000000):
  RY (std 0) p f (a,()) (fun y=>y=(bp (¬All a.length (fun i=>¬G (a.getD i.toNat default))),())):=by
 have h1:=hf a ha
 dsimp only [RY,Alg.cl,Alg.cg,Alg.rb,Alg.bd,Alg.l1,Tup.q,Tup.o]
 simp (disch:=omega) only [RR,hp a ha]
 rw [show decide ((0:Int)≤(f (a,())).1)=bp (¬All a.length (fun i=>¬G (a.getD i.toNat default)))from ?_]
 rw [←uW h1.ge];simp [bp]
def mOk (m:aj):Prop:=(1≤m.fZ∧m.fZ≤65535)∧m.atoms.length≤4∧Srt m.atoms
def aO (p:List aj):Prop:=All p.length (fun i=>mOk (p.getD i.toNat default)∧(0<i→dZ (p.getD (i-1).toNat default).atoms (p.getD i.toNat default).atoms<0))∧p.length≤12∧bg p 200
 ∧All p.length (fun i=>¬(0< (p.getD i.toNat default).atoms.length∧(p.getD i.toNat default).atoms.getD 0 default<0))
theorem aon {p1:Int×Int×Int×Unit→Bool} {f1:Int×Int×Int×Unit→Bool×Unit} (hp1:∀a b c,p1 (a,b,c,())=true) (hf1:∀a b c,f1 (a,b,c,())=(inB a b c,()))
  {p2:List aj×Int×Unit→Bool} {f2:List aj×Int×Unit→Bool×Unit} (hp2:∀a n,Sh a→p2 (a,n,())=true) (hf2:∀a n,Sh a→f2 (a,n,())=(bp (bg a n),()))
  {p3:List Int×Unit→Bool} {f3:List Int×Unit→Bool×Unit} (hp3:∀a,a.length<1000000000→p3 (a,())=true) (hf3:∀a,a.length<1000000000→f3 (a,())=(bp (Srt a),()))
  {p4:List Int×List Int×Unit→Bool} {f4:List Int×List Int×Unit→Int×Unit} (hp4:∀a b,a.length<1000000000→p4 (a,b,())=true) (hf4:∀a b,a.length<1000000000→f4 (a,b,())=(dZ a b,()))
  {p5:List aj×Unit→Bool} {f5:List aj×Unit→Bool×Unit} (hp5:∀a,a.length<1000000000→p5 (a,())=true) (hf5:∀a,a.length<1000000000→f5 (a,())=(bp (¬All a.length (fun i=>¬(0< (a.getD i.toNat default).atoms.length∧(a.getD i.toNat default).atoms.getD 0 default<0))),()))
  (a:List aj) (ha:Sh a):YD (std 0) p1 f1 p2 f2 p3 f3 p4 f4 p5 f5 (a,()) (fun y=>y=(bp (aO a),())):=by
 have hlen:=ha.1
 dsimp only [YD,Alg.cl,Alg.cg,Alg.rb,Alg.bd,Alg.l1,Tup.q,Tup.o]
 refine aA (fun(y:List aj×Int×Int×List aj×Unit)=>y.1=a∧y.2.1=a.length∧y.2.2.2.1=a∧0≤y.2.2.1∧y.2.2.1≤a.length∧All y.2.2.1 (fun i=>mOk (a.getD i.toNat default)∧(0<i→dZ (a.getD (i-1).toNat default).atoms (a.getD i.toNat default).atoms<0))) (fun y=>(a.length-y.2.2.1).toNat) ⟨rfl,rfl,rfl,by simp,by simp,All.zero⟩ ?_
 rintro⟨(l:List aj),(m:Int),(i:Int),(l':List aj),⟨⟩⟩ hI
 dsimp only at hI ⊢
 obtain⟨rfl,rfl,rfl,h1,h2,h3⟩:=hI
 simp (disch:=omega) only [RR,hp1,hf1,hp2 l' _ ha,hf2 l' _ ha,hp5 l' hlen,hf5 l' hlen]
 refine⟨fun h4=> ?_,fun h4=> ?_⟩
 ·simp (disch:=omega) only [RR,hp3 _ (ha.at _),hf3 _ (ha.at _),hp4 _ _ (ha.at _),hf4 _ _ (ha.at _),bR,uU,inB]
  refine⟨by omega,by omega,by by_cases h:i≤0<;>simp [h]<;>omega,by omega,fun h5=> ?_,fun h5=>⟨⟨by omega,by omega,h3.snoc ?_⟩,by omega⟩⟩
  ·rw [iB (fun h=> ?_)]
   have:=h.1 i h1 h4
   dsimp only [mOk]at this
   obtain⟨⟨h6,h7,h8⟩,h9⟩:=this
   rcases h5 with((h5 | h5) | h5) | ⟨h5,h10⟩
   ·simp [-List.getD_eq_getElem?_getD]at h5;omega
   ·omega
   ·exact h5 h8
   ·have:=h9 h5;omega
  ·refine⟨⟨by omega,by omega,h5.1.2⟩,fun h6=> ?_⟩
   have:=h5.2;simp only [decide_eq_true h6,Bool.true_and,decide_eq_false_iff_not]at this;omega
 ·unfold aO
  rw [show All (↑l'.length) (fun i=>mOk (l'.getD i.toNat default)∧(0<i→dZ (l'.getD (i-1).toNat default).atoms (l'.getD i.toNat default).atoms<0))=True from eq_true (h3.le (by omega))]
  rw [true_and,uV,uV,Bool.and_assoc]
  refine congrArg (fun b=>(b,())) ?_
  congr 1
  ·by_cases h:l'.length≤12<;>simp [bp,h]<;>omega
  ·congr 1
   simp [bp]
def Ht (a b:aj):Int:=or2 (dZ a.atoms b.atoms) (nM a.fZ b.fZ)
def zB:List aj→List aj→Int
 | a::az,b::bs=>if Ht a b≠0 then Ht a b else zB az bs
 | _,_=>0
def dP (a b:List aj):Int:=if nM a.length b.length≠0 then nM a.length b.length else zB a b
theorem Jm (a b:List aj) (i:Nat):(h1:i<a.length)→(h2:i<b.length)→zB (a.drop i) (b.drop i)=if Ht a[i] b[i]≠0 then Ht a[i] b[i]else zB (a.drop (i+1)) (b.drop (i+1)):=by
 intro h1 h2
 rw [List.drop_eq_getElem_cons h1,List.drop_eq_getElem_cons h2];rfl
theorem aoo {p1:List Int×Unit→Bool} {f1:List Int×Unit→Int×Unit} (hp1:∀a b,p1 ([a,b],())=true) (hf1:∀a b,f1 ([a,b],())=(or2 a b,()))
  {p2:Int×Int×Unit→Bool} {f2:Int×Int×Unit→Int×Unit} (hp2:∀a b,p2 (a,b,())=true) (hf2:∀a b,f2 (a,b,())=(nM a b,()))
  {p4:List Int×List Int×Unit→Bool} {f4:List Int×List Int×Unit→Int×Unit} (hp4:∀a b,a.length<1000000000→p4 (a,b,())=true) (hf4:∀a b,a.length<1000000000→f4 (a,b,())=(dZ a b,()))
  (a b:List aj) (ha:Sh a):YF (std 0) p1 f1 p2 f2 p4 f4 (a,b,()) (fun y=>y=(dP a b,())):=by
 have hlen:=ha.1
 dsimp only [YF,Alg.cl,Alg.cg,Alg.rb,Alg.bd,Alg.l1,Tup.q,Tup.o]
 simp (disch:=omega) only [RR,hp2,hf2]
 refine⟨fun h=>by rw [dP,if_pos h],fun h=> ?_⟩
 have hl:a.length=b.length:=by unfold nM at h;split at h<;>(try split at h)<;>omega
 rw [show dP a b=zB a b by rw [dP,if_neg (by simp [h])]]
 refine aA (fun(y:List aj×Int×Int×List aj×Unit)=>y.1=a∧y.2.1=a.length∧y.2.2.2.1=b∧0≤y.2.2.1∧y.2.2.1≤a.length∧zB a b=zB (a.drop y.2.2.1.toNat) (b.drop y.2.2.1.toNat)) (fun y=>(a.length-y.2.2.1).toNat) ⟨rfl,rfl,rfl,by simp,by simp,by simp⟩ ?_
 rintro⟨(l:List aj),(m:Int),(i:Int),(l':List aj),⟨⟩⟩ hI
 dsimp only at hI ⊢
 obtain⟨rfl,rfl,rfl,h1,h2,h3⟩:=hI
 simp (disch:=omega) only [RR,hp1,hf1,hp4 _ _ (ha.at _),hf4 _ _ (ha.at _)]
 refine⟨fun h4=>⟨by omega,by omega,by omega,by omega,by omega,by omega,fun h5=> ?_,fun h5=>⟨⟨by omega,by omega,?_⟩,by omega⟩⟩,fun h4=> ?_⟩
 ·rw [h3,Jm _ _ _ (by omega) (by omega)]
  rw [getD_lt (by omega),getD_lt (by omega)]at h5 ⊢
  exact((if_pos (c:=Ht l[i.toNat] l'[i.toNat]≠0) h5).trans rfl).symm▸rfl
 ·rw [h3,Jm _ _ _ (by omega) (by omega)]
  rw [getD_lt (by omega),getD_lt (by omega)]at h5
  rw [if_neg (show¬(Ht l[i.toNat] l'[i.toNat]≠0)from fun h=>h h5),show(i+1).toNat=i.toNat+1 by omega]
 ·rw [h3,List.drop_eq_nil_of_le (by omega)];rfl
theorem aop {p1:List aj×List aj×Unit→Bool} {f1:List aj×List aj×Unit→Int×Unit} (hp1:∀a b,Sh a→p1 (a,b,())=true) (hf1:∀a b,Sh a→f1 (a,b,())=(dP a b,())) (a b:List aj) (ha:Sh a):
  YG (std 0) p1 f1 (a,b,()) (fun y=>y=(decide (dP a b=0),())):=by
 dsimp only [YG,Alg.cl,Alg.cg,Alg.rb,Alg.bd,Alg.l1,Tup.q,Tup.o]
 simp (disch:=omega) only [RR,hp1 a b ha,hf1 a b ha]
end Go.TX.F
namespace Go.TX.F
open Go Go.AE Go.TX
theorem Sw (k:IntKind) (x y:Int):jk .and k x y=jY .and k x y:=rfl
theorem Sy (k:IntKind) (x y:Int):jk .xor k x y=jY .xor k x y:=rfl
theorem ZV (x:Int):jY .and .i64 x 65535=x%65536:=by
 unfold jY
 dsimp only
 rw [BitVec.toNat_and,BitVec.toNat_ofInt,BitVec.toNat_ofInt]
 have h1:((65535:Int)% ((2^IntKind.i64.bits:Nat):Int)).toNat=2^16-1:=by decide
 rw [h1,Nat.and_two_pow_sub_one_eq_mod]
 rw [w64 (by omega) (by omega)]
 have h2:((2^IntKind.i64.bits:Nat):Int)=18446744073709551616:=by decide
 rw [h2]
 omega
theorem acH {a b:Int} (ha:0≤a) (ha':a≤65535) (hb:0≤b) (hb':b≤65535):(0≤jY .and .i64 a b∧jY .and .i64 a b≤65535)∧(0≤jY .xor .i64 a b∧jY .xor .i64 a b≤65535):=by
 have h2:((2^IntKind.i64.bits:Nat):Int)=18446744073709551616:=by decide
 have e1:jY .and .i64 a b=((a.toNat&&&b.toNat:Nat):Int):=by
  unfold jY;dsimp only
  rw [BitVec.toNat_and,BitVec.toNat_ofInt,BitVec.toNat_ofInt,h2,show a%18446744073709551616=a by omega,show b%18446744073709551616=b by omega]
  have:=Nat.and_lt_two_pow (a.toNat) (show b.toNat<2^16 by omega)
  rw [w64 (by omega) (by omega)]
 have e2:jY .xor .i64 a b=((a.toNat^^^b.toNat:Nat):Int):=by
  unfold jY;dsimp only
  rw [BitVec.toNat_xor,BitVec.toNat_ofInt,BitVec.toNat_ofInt,h2,show a%18446744073709551616=a by omega,show b%18446744073709551616=b by omega]
  have:=Nat.xor_lt_two_pow (show a.toNat<2^16 by omega) (show b.toNat<2^16 by omega)
  rw [w64 (by omega) (by omega)]
 rw [e1,e2]
 have:=Nat.and_lt_two_pow (a.toNat) (show b.toNat<2^16 by omega)
 have:=Nat.xor_lt_two_pow (show a.toNat<2^16 by omega) (show b.toNat<2^16 by omega)
 omega
theorem adH (a:Int):Ze (std 0) (a,()) (fun y=>y=(a%65536,())):=by
 dsimp only [Ze,Alg.cl,Alg.cg,Alg.rb,Alg.bd,Alg.l1,Tup.q,Tup.o]
 simp (disch:=omega) only [RR,Sw,ZV]
def wdo (op a b:Int):Int:=if(0≤a∧a≤65535)∧(0≤b∧b≤65535)then
 (if op=1 then(a+b)%65536 else if op=2 then(a-b)%65536 else if op=3 then(a*b)%65536 else if op=4 then jY .and .i64 a b else if op=5 then jY .xor .i64 a b else 0)else 0
theorem Vd (op a b:Int):0≤wdo op a b∧wdo op a b≤65535:=by
 unfold wdo
 split
 ·rename_i h
  have:=acH h.1.1 h.1.2 h.2.1 h.2.2
  repeat' split
  all_goals omega
 ·omega
theorem fF {a b c:Int}:inB a b c=true↔(b≤a∧a≤c):=by simp [inB]
theorem sG {a b c:Int}:inB a b c=false↔¬(b≤a∧a≤c):=by rw [←fF,Bool.not_eq_true]
theorem aoq {p1:Int×Unit→Bool} {f1:Int×Unit→Bool×Unit} (hp1:∀a,p1 (a,())=true) (hf1:∀a,f1 (a,())=(inB a 0 65535,()))
  {p2:Int×Unit→Bool} {f2:Int×Unit→Int×Unit} (hp2:∀a,p2 (a,())=true) (hf2:∀a,f2 (a,())=(a%65536,())) (op a b:Int):
  Zf (std 0) p1 f1 p2 f2 (op,a,b,()) (fun y=>y=(wdo op a b,())):=by
 dsimp only [Zf,Alg.cl,Alg.cg,Alg.rb,Alg.bd,Alg.l1,Tup.q,Tup.o]
 simp (disch:=omega) only [RR,hp1,hf1,hp2,hf2,Sw,Sy,fF,sG]
 by_cases ha:(0≤a∧a≤65535)∧(0≤b∧b≤65535)
 ·have hm:0≤a*b∧a*b≤65535*65535:=⟨Int.mul_nonneg ha.1.1 ha.2.1,Int.mul_le_mul ha.1.2 ha.2.2 ha.2.1 (by omega)⟩
  rw [w64 (x:=a+b) (by omega) (by omega),w64 (x:=a-b) (by omega) (by omega),w64 (x:=a*b) (by omega) (by omega)]
  unfold wdo
  rw [if_pos ha]
  refine⟨fun h=>absurd h (by omega),fun _=>⟨fun h=> ?_,fun h=>⟨fun h1=> ?_,fun h1=>⟨fun h2=> ?_,fun h2=>⟨fun h3=> ?_,fun h3=>⟨fun h4=> ?_,fun h4=> ?_⟩⟩⟩⟩⟩⟩<;>(subst_vars;first | rfl | simp only [if_true,if_false, *])
 ·refine⟨fun h=> ?_,fun h=>absurd h ?_⟩
  ·unfold wdo;rw [if_neg ha]
  ·exact ha
def aP (n:Int):List aj:=if 1≤n∧n≤65535 then [⟨n,[]⟩]else []
theorem aor {p1:Int×Int×Int×Unit→Bool} {f1:Int×Int×Int×Unit→Bool×Unit} (hp1:∀a b c,p1 (a,b,c,())=true) (hf1:∀a b c,f1 (a,b,c,())=(inB a b c,())) (a:Int):
  Zd (std 0) p1 f1 (a,()) (fun y=>y=(aP a,())):=by
 dsimp only [Zd,Alg.cl,Alg.cg,Alg.rb,Alg.bd,Alg.l1,Tup.q,Tup.o]
 simp (disch:=omega) only [RR,hp1,hf1,fF,sG]
 unfold aP
 exact⟨fun h=>by rw [if_neg (by omega)],fun h=>by rw [if_pos (by omega)]⟩
def dz (n:Int):List aj:=if 0≤n∧n≤199 then [⟨1,[n]⟩]else []
theorem aos {p1:Int×Int×Int×Unit→Bool} {f1:Int×Int×Int×Unit→Bool×Unit} (hp1:∀a b c,p1 (a,b,c,())=true) (hf1:∀a b c,f1 (a,b,c,())=(inB a b c,())) (a:Int):
  YQ (std 0) p1 f1 (a,()) (fun y=>y=(dz a,())):=by
 dsimp only [YQ,Alg.cl,Alg.cg,Alg.rb,Alg.bd,Alg.l1,Tup.q,Tup.o]
 simp (disch:=omega) only [RR,hp1,hf1,fF,sG]
 unfold dz
 exact⟨fun h=>by rw [if_neg (by omega)],fun h=>by rw [if_pos (by omega)]⟩
noncomputable def dL (p:List aj):Int×Bool:=if bp (aO p)then(if p.length=0 then(0,true)else if p.length=1∧(p.getD 0 default).atoms.length=0 then((p.getD 0 default).fZ,true)else(0,false))else(0,false)
theorem aot {p1:List aj×Unit→Bool} {f1:List aj×Unit→Bool×Unit} (hp1:∀a,Sh a→p1 (a,())=true) (hf1:∀a,Sh a→f1 (a,())=(bp (aO a),())) (a:List aj) (ha:Sh a):
  Zg (std 0) p1 f1 (a,()) (fun y=>y=((dL a).1,(dL a).2,())):=by
 dsimp only [Zg,Alg.cl,Alg.cg,Alg.rb,Alg.bd,Alg.l1,Tup.q,Tup.o]
 simp (disch:=omega) only [RR,hp1 a ha,hf1 a ha]
 unfold dL
 refine⟨fun h=> ?_,fun h=>⟨fun h1=> ?_,fun h1=>⟨by omega,by omega,fun h2=>⟨by omega,by omega,?_⟩,fun h2=> ?_⟩⟩⟩
 ·rw [if_neg (by simpa using h)]
 ·rw [if_pos h,if_pos (by omega)]
 ·have h3:=h2.2;rw [show Int.toNat 0=0 from rfl]at h3
  rw [if_pos h,if_neg (by omega),if_pos (show a.length=1∧(a.getD 0 default).atoms.length=0 by omega)];rfl
 ·rw [if_pos h,if_neg (by omega),if_neg]
  intro h3
  rw [decide_eq_true (by omega),Bool.true_and,decide_eq_false_iff_not]at h2
  apply h2;rw [show Int.toNat 0=0 from rfl];omega
theorem adI (a:List Int) (ha:a.length≤1073741824):YX (std 0) (a,()) (fun y=>y=(a,())):=by
 dsimp only [YX,Alg.cl,Alg.cg,Alg.rb,Alg.bd,Alg.l1,Tup.q,Tup.o]
 simp (disch:=omega) only [RR]
 omega
theorem iR {α:Type} {l:List α} {i:Int} {d x:α} (h0:0≤i) (h:i<l.length) (e:x=l.getD i.toNat d):l.take i.toNat++ [x]=l.take (i+1).toNat:=by
 rw [e,getD_lt (by omega),show(i+1).toNat=i.toNat+1 by omega,List.take_succ_eq_append_getElem (by omega)]
theorem aou {p1:List Int×Unit→Bool} {f1:List Int×Unit→List Int×Unit} (hp1:∀a,a.length≤1073741824→p1 (a,())=true) (hf1:∀a,a.length≤1073741824→f1 (a,())=(a,())) (a:List aj) (ha:Sh a):
  YZ (std 0) p1 f1 (a,()) (fun y=>y=(a,())):=by
 have hlen:=ha.1
 dsimp only [YZ,Alg.cl,Alg.cg,Alg.rb,Alg.bd,Alg.l1,Tup.q,Tup.o]
 refine aA (fun(y:List aj×Int×Int×List aj×Unit)=>y.1=a∧y.2.1=a.length∧y.2.2.2.1=a.take y.2.2.1.toNat∧0≤y.2.2.1∧y.2.2.1≤a.length) (fun y=>(a.length-y.2.2.1).toNat) ⟨rfl,rfl,by simp,by simp,by simp⟩ ?_
 rintro⟨(l:List aj),(m:Int),(i:Int),(o:List aj),⟨⟩⟩ hI
 dsimp only at hI ⊢
 obtain⟨rfl,rfl,rfl,h1,h2⟩:=hI
 simp (disch:=first | omega | (have:=ha.at i.toNat;omega)) only [RR,hp1,hf1]
 have h3:=ha.at i.toNat
 refine⟨fun h4=>⟨by omega,by omega,?_,⟨iR h1 h4 rfl,by omega,by omega⟩,by omega⟩,fun h4=>by rw [List.take_of_length_le (by omega)]⟩
 have:=List.length_take_le' i.toNat l
 simp only [List.length_cons,List.length_nil];omega
def ShA (a:Atom):Prop:=Sh a.x∧Sh a.y
def ShT (t:List Atom):Prop:=t.length<1000000000∧∀a∈t,ShA a
theorem ShT.at {p:List Atom} (h:ShT p) (n:Nat):ShA (p.getD n default):=by
 by_cases h1:n<p.length
 ·rw [getD_lt h1];exact h.2 _ (List.getElem_mem _)
 ·simp only [List.getD,List.getElem?_eq_none (by omega:p.length≤n)]
  refine⟨⟨by decide,fun m hm=> ?_⟩,⟨by decide,fun m hm=> ?_⟩⟩<;>exact absurd hm (by simp [default,instInhabitedAtom.default])
theorem aov {p1:List aj×Unit→Bool} {f1:List aj×Unit→List aj×Unit} (hp1:∀a,Sh a→p1 (a,())=true) (hf1:∀a,Sh a→f1 (a,())=(a,())) (a:List Atom) (ha:ShT a):
  Y4 (std 0) p1 f1 (a,()) (fun y=>y=(a,())):=by
 have hlen:=ha.1
 dsimp only [Y4,Alg.cl,Alg.cg,Alg.rb,Alg.bd,Alg.l1,Tup.q,Tup.o]
 refine aA (fun(y:List Atom×Int×Int×List Atom×Unit)=>y.1=a∧y.2.1=a.length∧y.2.2.2.1=a.take y.2.2.1.toNat∧0≤y.2.2.1∧y.2.2.1≤a.length) (fun y=>(a.length-y.2.2.1).toNat) ⟨rfl,rfl,by simp,by simp,by simp⟩ ?_
 rintro⟨(l:List Atom),(m:Int),(i:Int),(o:List Atom),⟨⟩⟩ hI
 dsimp only at hI ⊢
 obtain⟨rfl,rfl,rfl,h1,h2⟩:=hI
 simp (disch:=omega) only [RR,hp1 _ (ha.at _).1,hf1 _ (ha.at _).1,hp1 _ (ha.at _).2,hf1 _ (ha.at _).2]
 refine⟨fun h4=>⟨by omega,by omega,?_,⟨iR h1 h4 rfl,by omega,by omega⟩,by omega⟩,fun h4=>by rw [List.take_of_length_le (by omega)]⟩
 have:=List.length_take_le' i.toNat l
 simp only [List.length_cons,List.length_nil];omega
theorem aow {p4:List Int×List Int×Unit→Bool} {f4:List Int×List Int×Unit→Int×Unit} (hp4:∀a b,a.length<1000000000→p4 (a,b,())=true) (hf4:∀a b,a.length<1000000000→f4 (a,b,())=(dZ a b,())) (a b:aj) (ha:a.atoms.length<1000000000):
  Zh (std 0) p4 f4 (a,b,()) (fun y=>y=(dZ a.atoms b.atoms,())):=by
 dsimp only [Zh,Alg.cl,Alg.cg,Alg.rb,Alg.bd,Alg.l1,Tup.q,Tup.o]
 simp (disch:=omega) only [RR,hp4 a.atoms b.atoms ha,hf4 a.atoms b.atoms ha]
theorem aox (a:List Atom):YK (std 0) (a,()) (fun y=>y=(a,())):=by
 dsimp only [YK,Alg.cl,Alg.cg,Alg.rb,Alg.bd,Alg.l1,Tup.q,Tup.o]
 simp (disch:=omega) only [RR]
 refine⟨by omega,by omega,by omega,?_⟩
 rw [List.take_of_length_le (by omega)];rfl
def uX (a b:Atom):Bool:=decide (a.kind=b.kind)&&decide (a.k=b.k)&&decide (dP a.x b.x=0)&&decide (dP a.y b.y=0)
theorem aoy {p1:List aj×List aj×Unit→Bool} {f1:List aj×List aj×Unit→Bool×Unit} (hp1:∀a b,Sh a→p1 (a,b,())=true) (hf1:∀a b,Sh a→f1 (a,b,())=(decide (dP a b=0),())) (a b:Atom) (ha:ShA a):
  YH (std 0) p1 f1 (a,b,()) (fun y=>y=(uX a b,())):=by
 dsimp only [YH,Alg.cl,Alg.cg,Alg.rb,Alg.bd,Alg.l1,Tup.q,Tup.o]
 simp (disch:=omega) only [RR,hp1 a.x b.x ha.1,hf1 a.x b.x ha.1,hp1 a.y b.y ha.2,hf1 a.y b.y ha.2]
 rfl
theorem aoz {p1:Atom×Atom×Unit→Bool} {f1:Atom×Atom×Unit→Bool×Unit} (hp1:∀a b,ShA a→p1 (a,b,())=true) (hf1:∀a b,ShA a→f1 (a,b,())=(uX a b,())) (a b:Atom) (hb:ShA b):
  YI (std 0) p1 f1 (a,b,()) (fun y=>y=(uX b a,b,())):=by
 dsimp only [YI,Alg.cl,Alg.cg,Alg.rb,Alg.bd,Alg.l1,Tup.q,Tup.o]
 simp (disch:=omega) only [RR,hp1 b a hb,hf1 b a hb]
noncomputable def idxOf (n:Int) (G:Int→Prop):Int:= @dite _ (∃r,Idx n G r) (Classical.propDecidable _) (fun h=>Classical.choose h) (fun _=> -1)
theorem Idx.uniq {n:Int} {G:Int→Prop} {r s:Int} (h:Idx n G r) (h':Idx n G s):r=s:=by
 rcases h with⟨h1,h2⟩ | ⟨h1,h2,h3,h4⟩<;>rcases h' with⟨g1,g2⟩ | ⟨g1,g2,g3,g4⟩
 ·omega
 ·exact absurd g3 (h2 s g1 g2)
 ·exact absurd h3 (g2 r h1 h2)
 ·by_cases h5:r<s
  ·exact absurd h3 (g4 r h1 h5)
  ·by_cases h6:s<r
   ·exact absurd g3 (h4 s g1 h6)
   ·omega
theorem Idx.eq {n:Int} {G:Int→Prop} {r:Int} (h:Idx n G r):r=idxOf n G:=by
 unfold idxOf
 have he:∃r,Idx n G r:=⟨r,h⟩
 rw [dif_pos he];exact h.uniq (Classical.choose_spec he)
theorem ah3 {p:Atom×Atom×Unit→Bool} {f:Atom×Atom×Unit→Bool×Atom×Unit} (hp:∀a b,ShA b→p (a,b,())=true) (hf:∀a b,ShA b→f (a,b,())=(uX b a,b,())) (a:List Atom) (b:Atom) (ha:a.length<1000000000) (hb:ShA b):
  RZ (std 0) p f (a,b,()) (fun y=>y=(idxOf a.length (fun i=>uX b (a.getD i.toNat default)=true),b,())):=by
 dsimp only [RZ,Alg.cl,Alg.cg,Alg.rb,Alg.bd,Alg.l1,Tup.q,Tup.o]
 refine aA (fun(y:List Atom×Int×Int×Atom×Unit)=>y.1=a∧y.2.1=a.length∧y.2.2.2.1=b∧0≤y.2.2.1∧y.2.2.1≤a.length∧All y.2.2.1 (fun i=>¬uX b (a.getD i.toNat default)=true)) (fun y=>(a.length-y.2.2.1).toNat) ⟨rfl,rfl,rfl,by simp,by simp,All.zero⟩ ?_
 rintro⟨(l:List Atom),(m:Int),(i:Int),(b':Atom),⟨⟩⟩ hI
 dsimp only at hI ⊢
 obtain⟨rfl,rfl,rfl,h1,h2,h3⟩:=hI
 simp (disch:=omega) only [RR,hp _ _ hb,hf _ _ hb]
 refine⟨fun h4=>⟨by omega,by omega,fun h5=> ?_,fun h5=>⟨⟨by omega,by omega,h3.snoc (by simp only [h5];simp)⟩,by omega⟩⟩,fun h4=> ?_⟩
 ·rw [←Idx.eq (Or.inr ⟨by omega,by omega,h5,h3⟩)]
 ·rw [←Idx.eq (Or.inl ⟨rfl,h3.le (by omega)⟩)]
noncomputable def sH (t:List Atom) (a:Atom):Int:=idxOf t.length (fun i=>uX a (t.getD i.toNat default)=true)
theorem aoA {p:List Atom×Atom×Unit→Bool} {f:List Atom×Atom×Unit→Int×Atom×Unit} (hp:∀a b,a.length<1000000000→ShA b→p (a,b,())=true)
  (hf:∀a b,a.length<1000000000→ShA b→f (a,b,())=(idxOf a.length (fun i=>uX b (a.getD i.toNat default)=true),b,())) (a:List Atom) (b:Atom) (ha:a.length<1000000000) (hb:ShA b):
  YJ (std 0) p f (a,b,()) (fun y=>y=(sH a b,())):=by
 dsimp only [YJ,Alg.cl,Alg.cg,Alg.rb,Alg.bd,Alg.l1,Tup.q,Tup.o]
 simp (disch:=omega) only [RR,hp a b ha hb,hf a b ha hb]
 rfl
def gU (a:Atom) (n:Int):Prop:=if a.kind=4 then(1≤a.k∧a.k≤5)∧aO a.x∧aO a.y∧bg a.x n∧bg a.y n else
 (a.x=[]∧a.y=[])∧((a.kind=1∧0≤a.k∧a.k≤3)∨(a.kind=2∨a.kind=3)∧0≤a.k∧a.k≤199)
theorem aoB {p1:Int×Int×Int×Unit→Bool} {f1:Int×Int×Int×Unit→Bool×Unit} (hp1:∀a b c,p1 (a,b,c,())=true) (hf1:∀a b c,f1 (a,b,c,())=(inB a b c,()))
  {p2:Int×Unit→Bool} {f2:Int×Unit→Bool×Unit} (hp2:∀a,p2 (a,())=true) (hf2:∀a,f2 (a,())=(inB a 1 5,()))
  {p3:List aj×Int×Unit→Bool} {f3:List aj×Int×Unit→Bool×Unit} (hp3:∀a n,Sh a→p3 (a,n,())=true) (hf3:∀a n,Sh a→f3 (a,n,())=(bp (bg a n),()))
  {p4:List aj×Unit→Bool} {f4:List aj×Unit→Bool×Unit} (hp4:∀a,Sh a→p4 (a,())=true) (hf4:∀a,Sh a→f4 (a,())=(bp (aO a),()))
  {p5:Int×Unit→Bool} {f5:Int×Unit→Bool×Unit} (hp5:∀a,p5 (a,())=true) (hf5:∀a,f5 (a,())=(inB a 0 3,())) (a:Atom) (n:Int) (ha:ShA a):
  YE (std 0) p1 f1 p2 f2 p3 f3 p4 f4 p5 f5 (a,n,()) (fun y=>y=(bp (gU a n),())):=by
 obtain⟨hx,hy⟩:=ha
 have hx1:=hx.1
 have hy1:=hy.1
 dsimp only [YE,Alg.cl,Alg.cg,Alg.rb,Alg.bd,Alg.l1,Tup.q,Tup.o]
 simp (disch:=omega) only [RR,hp1,hf1,hp2,hf2,hp3 a.x n hx,hf3 a.x n hx,hp3 a.y n hy,hf3 a.y n hy,hp4 a.x hx,hf4 a.x hx,hp4 a.y hy,hf4 a.y hy,hp5,hf5]
 unfold gU
 refine⟨fun h=> ?_,fun h=>⟨fun h1=> ?_,fun h1=> ?_⟩⟩
 ·rw [if_pos h]
  congr 1
  rw [Bool.eq_iff_iff,bR]
  simp only [Bool.and_eq_true,fF,bR,and_assoc]
 ·rw [if_neg h,iB]
  rintro⟨⟨h2,h3⟩, -⟩
  rw [h2,h3]at h1;exact absurd h1 (by simp)
 ·rw [if_neg h]
  have h2:a.x=[]:=List.eq_nil_of_length_eq_zero (by omega)
  have h3:a.y=[]:=List.eq_nil_of_length_eq_zero (by omega)
  congr 1
  rw [Bool.eq_iff_iff,bR]
  simp only [Bool.or_eq_true,Bool.and_eq_true,decide_eq_true_eq,fF,h2,h3,true_and]
def aG (t:List Atom):Prop:=All t.length (fun i=>gU (t.getD i.toNat default) i∧sH t (t.getD i.toNat default)=i)∧t.length≤200
theorem aoC {p1:Atom×Int×Unit→Bool} {f1:Atom×Int×Unit→Bool×Unit} (hp1:∀a n,ShA a→p1 (a,n,())=true) (hf1:∀a n,ShA a→f1 (a,n,())=(bp (gU a n),()))
  {p2:List Atom×Atom×Unit→Bool} {f2:List Atom×Atom×Unit→Int×Unit} (hp2:∀a b,a.length<1000000000→ShA b→p2 (a,b,())=true) (hf2:∀a b,a.length<1000000000→ShA b→f2 (a,b,())=(sH a b,())) (a:List Atom) (ha:ShT a):
  Zb (std 0) p1 f1 p2 f2 (a,()) (fun y=>y=(bp (aG a),())):=by
 have hlen:=ha.1
 dsimp only [Zb,Alg.cl,Alg.cg,Alg.rb,Alg.bd,Alg.l1,Tup.q,Tup.o]
 refine aA (fun(y:List Atom×Int×Int×List Atom×Unit)=>y.1=a∧y.2.1=a.length∧y.2.2.2.1=a∧0≤y.2.2.1∧y.2.2.1≤a.length∧All y.2.2.1 (fun i=>gU (a.getD i.toNat default) i∧sH a (a.getD i.toNat default)=i)) (fun y=>(a.length-y.2.2.1).toNat) ⟨rfl,rfl,rfl,by simp,by simp,All.zero⟩ ?_
 rintro⟨(l:List Atom),(m:Int),(i:Int),(b':List Atom),⟨⟩⟩ hI
 dsimp only at hI ⊢
 obtain⟨rfl,rfl,rfl,h1,h2,h3⟩:=hI
 simp (disch:=omega) only [RR,hp1 _ _ (ha.at _),hf1 _ _ (ha.at _),hp2 _ _ ha.1 (ha.at _),hf2 _ _ ha.1 (ha.at _),bR,uU]
 refine⟨fun h4=>⟨by omega,by omega,fun h5=> ?_,fun h5=>⟨⟨by omega,by omega,h3.snoc h5⟩,by omega⟩⟩,fun h4=> ?_⟩
 ·rw [iB (fun h=> ?_)]
  have:=h.1 i h1 h4
  rcases h5 with h5 | h5
  ·exact h5 this.1
  ·exact h5 this.2
 ·by_cases h5:b'.length≤200
  ·rw [bO (show aG b' from⟨h3.le (by omega),h5⟩),decide_eq_true (by omega)]
  ·rw [iB (show¬aG b' from fun h=>h5 h.2),decide_eq_false (by omega)]
noncomputable def bf (t:List Atom) (a:Atom):List Atom×Int:=if 0≤sH t a then(t,sH t a)else @ite _ (¬gU a t.length∨t.length=200) (Classical.propDecidable _) (t, -1) (t++ [a],(t.length:Int))
theorem aoD {p1:Atom×Int×Unit→Bool} {f1:Atom×Int×Unit→Bool×Unit} (hp1:∀a n,ShA a→p1 (a,n,())=true) (hf1:∀a n,ShA a→f1 (a,n,())=(bp (gU a n),()))
  {p2:List Atom×Atom×Unit→Bool} {f2:List Atom×Atom×Unit→Int×Unit} (hp2:∀a b,a.length<1000000000→ShA b→p2 (a,b,())=true) (hf2:∀a b,a.length<1000000000→ShA b→f2 (a,b,())=(sH a b,()))
  {p3:List Atom×Unit→Bool} {f3:List Atom×Unit→List Atom×Unit} (hp3:∀a,p3 (a,())=true) (hf3:∀a,f3 (a,())=(a,())) (t:List Atom) (a:Atom) (ht:t.length<1000000000) (ha:ShA a):
  YL (std 0) p1 f1 p2 f2 p3 f3 (t,a,()) (fun y=>y=((bf t a).1,(bf t a).2,())):=by
 dsimp only [YL,Alg.cl,Alg.cg,Alg.rb,Alg.bd,Alg.l1,Tup.q,Tup.o]
 simp (disch:=omega) only [RR,hp1 a t.length ha,hf1 a t.length ha,hp2 t a ht ha,hf2 t a ht ha,hp3,hf3,bR,uU]
 unfold bf
 refine⟨fun h=>by rw [if_pos h],fun h=>⟨fun h1=> ?_,fun h1=>⟨?_,?_,?_⟩⟩⟩
 ·rw [if_neg h,if_pos (by rcases h1 with h1 | h1;exact Or.inl h1;exact Or.inr (by omega))]
 ·exact Or.inl (by simp)
 ·simp only [List.length_cons,List.length_nil];omega
 ·rw [if_neg h,if_neg (by rintro(h2 | h2);exact h2 h1.1;exact absurd h2 (by omega))]
end Go.TX.F
namespace Go.TX.F
open Go Go.AE Go.TX
theorem wB (a b:Int):nM b a= -nM a b:=by unfold nM;repeat' split<;>omega
theorem mG {a b:Int}:nM a b=0↔a=b:=by unfold nM;constructor<;>intro h<;>(repeat' split at*)<;>omega
theorem Jo:∀a b:List Int,kL b a= -kL a b
 | [],[]=>rfl | [],_::_=>rfl | _::_,[]=>rfl
 | a::az,b::bs=>by
  simp only [kL,wB a b,Jo az bs]
  split<;>split<;>omega
theorem Jp:∀ {a b:List Int},kL a b=0→a=b
 | [],[],_=>rfl | [],_::_,h=>by simp [kL]at h
 | _::_,[],h=>by simp [kL]at h
 | a::az,b::bs,h=>by
  simp only [kL]at h
  split at h
  ·exact absurd h (by assumption)
  ·rename_i h1
   rw [mG.1 (Classical.not_not.1 h1),Jp h]
theorem Jq:∀a:List Int,kL a a=0
 | []=>rfl
 | a::az=>by simp only [kL,show nM a a=0 from mG.2 rfl];simp [Jq az]
theorem Hu:∀ {a b c:List Int},kL a b≤0→kL b c≤0→kL a c≤0
 | [],_,[],_,_=>by simp [kL]
 | [],_,_::_,_,_=>by simp [kL]
 | _::_,[],_,h,_=>by simp [kL]at h
 | _::_,_::_,[],_,h=>by simp [kL]at h
 | a::az,b::bs,c::cs,h1,h2=>by
  have ih:= @Hu az bs cs
  simp only [kL]at h1 h2 ⊢
  unfold nM at h1 h2 ⊢
  repeat' split at h1
  all_goals (repeat' split at h2)
  all_goals (repeat' split)
  all_goals omega
theorem kM (a b:List Int):dZ b a= -dZ a b:=by
 unfold dZ or2;rw [wB,Jo];repeat' split<;>omega
theorem iD {a b:List Int}:dZ a b=0↔a=b:=by
 constructor
 ·intro h;unfold dZ or2 at h
  split at h
  ·exact absurd h (by assumption)
  ·exact Jp h
 ·rintro rfl;unfold dZ or2;rw [show nM (a.length:Int) a.length=0 from mG.2 rfl,Jq];rfl
theorem yG {a b c:List Int} (h1:dZ a b≤0) (h2:dZ b c≤0):dZ a c≤0:=by
 have ih:= @Hu a b c
 unfold dZ or2 nM at*
 repeat' split at h1
 all_goals (repeat' split at h2)
 all_goals (repeat' split)
 all_goals omega
def le (x y:aj):Prop:=dZ x.atoms y.atoms≤0
theorem le.trans {x y z:aj} (h1:le x y) (h2:le y z):le x z:=yG h1 h2
theorem qK {x y:aj} (h:¬dZ y.atoms x.atoms<0):le x y:=by unfold le;rw [kM];omega
theorem le_of_lt {x y:aj} (h:dZ x.atoms y.atoms<0):le x y:=by unfold le;omega
theorem le_refl (x:aj):le x x:=by unfold le;rw [iD.2 rfl];omega
theorem dA {x y z:aj} (h1:le x y) (h2:dZ y.atoms z.atoms<0):dZ x.atoms z.atoms<0:=by
 have h3:=yG h1 (le_of_lt h2)
 by_cases h:dZ x.atoms z.atoms=0
 ·have e:=iD.1 h
  unfold le at h1;rw [e,kM]at h1;omega
 ·omega
theorem jH {x y z:aj} (h1:dZ x.atoms y.atoms<0) (h2:le y z):dZ x.atoms z.atoms<0:=by
 have h3:=yG (le_of_lt h1) h2
 by_cases h:dZ x.atoms z.atoms=0
 ·have e:=iD.1 h
  unfold le at h2;rw [←e,kM]at h2;omega
 ·omega
theorem KE (g:aj→Int) (x:aj):∀(d:List aj) (n:Nat) (h:n<d.length),((d.set n x).map g).sum=(d.map g).sum-g d[n]+g x
 | [],_,h=>absurd h (by simp)
 | a::d,0,h=>by simp;omega
 | a::d,n+1,h=>by
  have:=KE g x d n (by simpa using h)
  simp only [List.set_cons_succ,List.map_cons,List.sum_cons,List.getElem_cons_succ];omega
structure Sm (d d':List aj):Prop where
 len:d'.length=d.length
 sum:∀g:aj→Int,(d'.map g).sum=(d.map g).sum
theorem Sm.refl (d:List aj):Sm d d:=⟨rfl,fun _=>rfl⟩
theorem Sm.trans {a b c:List aj} (h1:Sm a b) (h2:Sm b c):Sm a c:=⟨h2.1.trans h1.1,fun g=>(h2.2 g).trans (h1.2 g)⟩
theorem Sm.symm {a b:List aj} (h1:Sm a b):Sm b a:=⟨h1.1.symm,fun g=>(h1.2 g).symm⟩
theorem KF (x:aj):∀d:List aj,0≤(d.map (fun y=>if y=x then(1:Int)else 0)).sum∧(0< (d.map (fun y=>if y=x then(1:Int)else 0)).sum↔x∈d)
 | []=>by simp
 | a::d=>by
  have:=KF x d
  simp only [List.map_cons,List.sum_cons,List.mem_cons]
  by_cases h:a=x
  ·rw [if_pos h];refine⟨by omega,⟨fun _=>Or.inl h.symm,fun _=>by omega⟩⟩
  ·rw [if_neg h];refine⟨by omega,⟨fun h2=>Or.inr (this.2.1 (by omega)),fun h2=> ?_⟩⟩
   rcases h2 with h2 | h2
   ·exact absurd h2.symm h
   ·have:=this.2.2 h2;omega
theorem Sm.mem {a b:List aj} (h:Sm a b) {x:aj} (hx:x∈b):x∈a:=by
 rw [←(KF x a).2,←h.2];exact(KF x b).2.2 hx
theorem Sm.sh {a b:List aj} (h:Sm a b) (hs:Sh a):Sh b:=⟨by have:=hs.1;have:=h.1;omega,fun m hm=>hs.2 m (h.mem hm)⟩
def swp (d:List aj) (i j:Int):List aj:=(d.set i.toNat ((d).getD (j).toNat default)).set j.toNat ((d).getD (i).toNat default)
theorem acI (d:List aj) (i j:Int):(swp d i j).length=d.length:=by simp [swp]
theorem at_set {d:List aj} {i j:Int} {x:aj} (h1:0≤i) (h2:i<d.length) (h3:0≤j):((d.set i.toNat x).getD (j).toNat default)=if j=i then x else((d).getD (j).toNat default):=by
 simp only [List.getD]
 by_cases h:j=i
 ·subst h;rw [if_pos rfl,List.getElem?_set_self (by omega)];rfl
 ·rw [if_neg h,List.getElem?_set_ne (by omega)]
theorem uY {d:List aj} {i j k:Int} (h1:0≤i) (h2:i<d.length) (h3:0≤j) (h4:j<d.length) (h5:0≤k):((swp d i j).getD (k).toNat default)=if k=j then((d).getD (i).toNat default)else if k=i then((d).getD (j).toNat default)else((d).getD (k).toNat default):=by
 unfold swp
 rw [at_set h3 (by simp;omega) h5,at_set h1 h2 h5]
theorem KG {d:List aj} {i j:Int} (h1:0≤i) (h2:i<d.length) (h3:0≤j) (h4:j<d.length):Sm d (swp d i j):=by
 refine⟨acI d i j,fun g=> ?_⟩
 unfold swp
 rw [getD_lt (show i.toNat<d.length by omega),getD_lt (show j.toNat<d.length by omega),KE g _ _ _ (by simp;omega),KE g _ _ _ (by omega),List.getElem_set]
 split
 ·rename_i h;have:i=j:=by omega
  subst this;omega
 ·omega
def Swp (d d':List aj) (a b n:Int):Prop:=Sm d d'∧∀k,0≤k→((d').getD (k).toNat default)=if a≤k∧k<a+n then((d).getD (k+(b-a)).toNat default)else if b≤k∧k<b+n then((d).getD (k- (b-a)).toNat default)else((d).getD (k).toNat default)
theorem ZW (a b n:Int) (d:List aj) (hl:d.length<1000000000) (h1:0≤a) (h2:0≤n) (h3:a+n≤b) (h4:b+n≤d.length):
  R4 (std 0) (a,b,n,d,()) (fun y=>Swp d y.1 a b n):=by
 dsimp only [R4,Alg.cl,Alg.cg,Alg.rb,Alg.bd,Alg.l1,Tup.q,Tup.o]
 refine aA (fun(y:Int×Int×Int×Int×List aj×Unit)=>y.1=a∧y.2.1=b∧y.2.2.1=n∧0≤y.2.2.2.1∧y.2.2.2.1≤n∧Swp d y.2.2.2.2.1 a b y.2.2.2.1) (fun y=>(n-y.2.2.2.1).toNat)
  ⟨rfl,rfl,rfl,by simp,by simp;omega,Sm.refl d,fun k hk=>by dsimp only;rw [if_neg (by omega),if_neg (by omega)]⟩ ?_
 rintro⟨(a':Int),(b':Int),(n':Int),(i:Int),(e:List aj),⟨⟩⟩ hI
 dsimp only at hI ⊢
 obtain⟨rfl,rfl,rfl,h5,h6,h7,h8⟩:=hI
 have hle:=h7.1
 simp (disch:=omega) only [RR,List.length_set]
 refine⟨fun h9=> ?_,fun h9=> ?_⟩
 ·have e1:(e.set (a'+i).toNat ((e).getD (b'+i).toNat default)).set (b'+i).toNat ((e).getD (a'+i).toNat default)=swp e (a'+i) (b'+i):=rfl
  rw [e1]
  refine⟨by omega,by omega,by omega,by omega,by omega,by omega,by omega,by omega,by omega,by omega,by omega,by omega,by omega,by omega,by omega,by omega,⟨by omega,by omega,h7.trans (KG (by omega) (by omega) (by omega) (by omega)),fun k hk=> ?_⟩,by omega⟩
  rw [uY (by omega) (by omega) (by omega) (by omega) hk]
  rw [h8 _ (by omega),h8 _ (by omega),h8 _ hk]
  repeat' split
  all_goals first | rfl | (exfalso;omega) | (congr 2;omega)
 ·have:i=n':=by omega
  subst this;exact⟨h7,h8⟩
end Go.TX.F
namespace Go.TX.F
open Go Go.AE Go.TX
def Rot (d d':List aj) (a m b:Int):Prop:=Sm d d'∧∀k,0≤k→((d').getD (k).toNat default)=if a≤k∧k<a+(b-m)then((d).getD (k+(m-a)).toNat default)else if a+(b-m)≤k∧k<b then((d).getD (k- (b-m)).toNat default)else((d).getD (k).toNat default)
theorem ah4 {p:Int×Int×Int×List aj×Unit→Bool} {f:Int×Int×Int×List aj×Unit→List aj×Unit}
  (hp:∀(a b n:Int) (d:List aj),d.length<1000000000→0≤a→0≤n→a+n≤b→b+n≤d.length→p (a,b,n,d,())=true) (hf:∀(a b n:Int) (d:List aj),d.length<1000000000→0≤a→0≤n→a+n≤b→b+n≤d.length→Swp d (f (a,b,n,d,())).1 a b n)
  (a m b:Int) (d:List aj) (hl:d.length<1000000000) (h1:0≤a) (h2:a<m) (h3:m<b) (h4:b≤d.length):
  R5 (std 0) p f (a,m,b,d,()) (fun y=>Rot d y.1 a m b):=by
 dsimp only [R5,Alg.cl,Alg.cg,Alg.rb,Alg.bd,Alg.l1,Tup.q,Tup.o]
 simp (disch:=omega) only [RR]
 refine aA (fun(y:Int×Int×Int×List aj×Unit)=>y.1=m∧0<y.2.1∧0<y.2.2.1∧a≤m-y.2.1∧m+y.2.2.1≤b∧Sm d y.2.2.2.1∧
   ∀k,0≤k→(if a≤k∧k<a+(b-m)then((d).getD (k+(m-a)).toNat default)else if a+(b-m)≤k∧k<b then((d).getD (k- (b-m)).toNat default)else((d).getD (k).toNat default))
    =(if m-y.2.1≤k∧k<m-y.2.1+y.2.2.1 then((y.2.2.2.1).getD (k+y.2.1).toNat default)else if m-y.2.1+y.2.2.1≤k∧k<m+y.2.2.1 then((y.2.2.2.1).getD (k-y.2.2.1).toNat default)else((y.2.2.2.1).getD (k).toNat default))) (fun y=>(y.2.1+y.2.2.1).toNat)
  ⟨rfl,by simp;omega,by simp;omega,by simp;omega,by simp;omega,Sm.refl d,fun k hk=>by
   dsimp only;rw [show m- (m-a)=a by omega,show m+(b-m)=b by omega]⟩ ?_
 rintro⟨(m':Int),(i:Int),(j:Int),(e:List aj),⟨⟩⟩ hI
 dsimp only at hI ⊢
 obtain⟨rfl,h5,h6,h7,h8,h9,h10⟩:=hI
 have hle:=h9.1
 simp (disch:=omega) only [RR]
 refine⟨fun h11=>⟨fun h12=> ?_,fun h12=> ?_⟩,fun h11=> ?_⟩
 ·obtain⟨s1,s2⟩:=hf (m'-i) m' j e (by omega) (by omega) (by omega) (by omega) (by omega)
  refine⟨hp _ _ _ _ (by omega) (by omega) (by omega) (by omega) (by omega),⟨by omega,by omega,by omega,by omega,h9.trans s1,fun k hk=> ?_⟩,by omega⟩
  rw [h10 k hk]
  generalize (f (m'-i,m',j,e,())).1=e' at s1 s2 ⊢
  by_cases c1:m'-i≤k∧k<m'-i+j
  ·rw [if_pos c1,if_neg (by omega),if_neg (by omega),s2 k hk,if_pos c1];congr 2;omega
  ·rw [if_neg c1]
   by_cases c2:m'-i+j≤k∧k<m'+j
   ·rw [if_pos c2]
    by_cases c3:m'- (i-j)≤k∧k<m'- (i-j)+j
    ·rw [if_pos c3,s2 _ (by omega),if_neg (by omega),if_pos (by omega)];congr 2;omega
    ·rw [if_neg c3,if_pos (by omega),s2 _ (by omega),if_neg (by omega),if_neg (by omega)]
   ·rw [if_neg c2,if_neg (by omega),if_neg (by omega),s2 _ hk,if_neg (by omega),if_neg (by omega)]
 ·obtain⟨s1,s2⟩:=hf (m'-i) (m'+j-i) i e (by omega) (by omega) (by omega) (by omega) (by omega)
  refine⟨hp _ _ _ _ (by omega) (by omega) (by omega) (by omega) (by omega),⟨by omega,by omega,by omega,by omega,h9.trans s1,fun k hk=> ?_⟩,by omega⟩
  rw [h10 k hk]
  generalize (f (m'-i,m'+j-i,i,e,())).1=e' at s1 s2 ⊢
  by_cases c1:m'-i≤k∧k<m'-i+j
  ·rw [if_pos c1]
   by_cases c3:k<m'-i+(j-i)
   ·rw [if_pos (by omega),s2 _ (by omega)]
    by_cases c4:k<m'
    ·by_cases c5:k+i<m'+j-i
     ·rw [if_neg (by omega),if_neg (by omega)]
     ·exfalso;omega
    ·by_cases c5:k+i<m'+j-i
     ·rw [if_neg (by omega),if_neg (by omega)]
     ·exfalso;omega
   ·by_cases c6:k<m'
    ·rw [if_neg (by omega),if_pos (by omega),s2 _ (by omega),if_pos (by omega)];congr 2;omega
    ·rw [if_neg (by omega),if_pos (by omega),s2 _ (by omega)]
     by_cases c7:k- (j-i)<m'
     ·rw [if_pos (by omega)];congr 2;omega
     ·exfalso;omega
  ·rw [if_neg c1]
   by_cases c2:m'-i+j≤k∧k<m'+j
   ·rw [if_pos c2,if_neg (by omega),if_neg (by omega),s2 _ hk,if_neg (by omega),if_pos (by omega)];congr 2;omega
   ·rw [if_neg c2,if_neg (by omega),if_neg (by omega),s2 _ hk,if_neg (by omega),if_neg (by omega)]
 ·have hij:i=j:=by omega
  subst hij
  obtain⟨s1,s2⟩:=hf (m'-i) m' i e (by omega) (by omega) (by omega) (by omega) (by omega)
  refine⟨hp _ _ _ _ (by omega) (by omega) (by omega) (by omega) (by omega),h9.trans s1,fun k hk=> ?_⟩
  rw [h10 k hk,s2 k hk]
  repeat' split
  all_goals first | rfl | (exfalso;omega) | (congr 2;omega)
def lT (d:List aj) (a b:Int):Prop:=∀p q,a≤p→p≤q→q<b→le ((d).getD (p).toNat default) ((d).getD (q).toNat default)
def Out (d d':List aj) (a b:Int):Prop:=∀k,0≤k→(k<a∨b≤k)→((d').getD (k).toNat default)=((d).getD (k).toNat default)
theorem ah5 {p:aj×aj×Unit→Bool} {f:aj×aj×Unit→Int×Unit} (hp:∀x y,x.atoms.length<1000000000→p (x,y,())=true) (hf:∀x y,x.atoms.length<1000000000→f (x,y,())=(dZ x.atoms y.atoms,()))
  (a b:Int) (d:List aj) (hd:Sh d) (h1:0≤a) (h2:a≤b) (h3:b≤d.length):
  R3 (std 0) p f (a,b,d,()) (fun y=>Sm d y.1∧Out d y.1 a b∧lT y.1 a b):=by
 have hlen:=hd.1
 dsimp only [R3,Alg.cl,Alg.cg,Alg.rb,Alg.bd,Alg.l1,Tup.q,Tup.o]
 simp (disch:=omega) only [RR]
 refine aA (fun(y:Int×Int×Int×List aj×Unit)=>y.1=a∧y.2.1=b∧a+1≤y.2.2.1∧(y.2.2.1≤b∨y.2.2.1=a+1)∧Sm d y.2.2.2.1∧Out d y.2.2.2.1 a b∧lT y.2.2.2.1 a y.2.2.1) (fun y=>(b-y.2.2.1).toNat)
  ⟨rfl,rfl,by simp,Or.inr rfl,Sm.refl d,fun k _ _=>rfl,fun p q h1 h2 h3=>by dsimp only at h3;rw [show p=q by omega];exact le_refl _⟩ ?_
 rintro⟨(a':Int),(b':Int),(i:Int),(e:List aj),⟨⟩⟩ hI
 dsimp only at hI ⊢
 obtain⟨rfl,rfl,h4,h5,h6,h7,h8⟩:=hI
 have hle:=h6.1
 simp (disch:=omega) only [RR]
 refine⟨fun h9=> ?_,fun h9=>⟨h6,h7,fun p q g1 g2 g3=>h8 p q g1 g2 (by omega)⟩⟩
 refine aA (fun(y:Int×Int×Int×Int×List aj×Unit)=>y.1=a'∧y.2.1=b'∧y.2.2.1=i∧a'≤y.2.2.2.1∧y.2.2.2.1≤i∧Sm d y.2.2.2.2.1∧Out d y.2.2.2.2.1 a' b'
   ∧(∀p q,a'≤p→p≤q→q≤i→p≠y.2.2.2.1→q≠y.2.2.2.1→le ((y.2.2.2.2.1).getD (p).toNat default) ((y.2.2.2.2.1).getD (q).toNat default))∧(∀q,y.2.2.2.1<q→q≤i→le ((y.2.2.2.2.1).getD (y.2.2.2.1).toNat default) ((y.2.2.2.2.1).getD (q).toNat default))) (fun y=>y.2.2.2.1.toNat)
  ⟨rfl,rfl,rfl,by simp;omega,by simp,h6,h7,fun p q g1 g2 g3 g4 g5=>h8 p q g1 g2 (by dsimp only at g3 g5;omega),fun q g1 g2=>by dsimp only at g1;omega⟩ ?_
 rintro⟨(a'':Int),(b'':Int),(i':Int),(j:Int),(e':List aj),⟨⟩⟩ hI
 dsimp only at hI ⊢
 obtain⟨rfl,rfl,rfl,h10,h11,h12,h13,h14,h15⟩:=hI
 have hle':=h12.1
 have hs:=h12.sh hd
 simp (disch:=omega) only [RR,List.length_set,hp _ _ (hs.at _),hf _ _ (hs.at _)]
 have e1:(e'.set j.toNat ((e').getD (j-1).toNat default)).set (j-1).toNat ((e').getD (j).toNat default)=swp e' j (j-1):=rfl
 rw [e1]
 repeat' (refine And.intro ?_ ?_)
 all_goals try omega
 ·intro ⟨g1,g2⟩
  repeat' (refine And.intro ?_ ?_)
  all_goals try omega
  ·exact h12.trans (KG (by omega) (by omega) (by omega) (by omega))
  ·intro k hk hk2
   rw [uY (by omega) (by omega) (by omega) (by omega) hk,if_neg (by omega),if_neg (by omega)]
   exact h13 k hk hk2
  ·intro p q k1 k2 k3 k4 k5
   rw [uY (by omega) (by omega) (by omega) (by omega) (by omega),if_neg k4,uY (by omega) (by omega) (by omega) (by omega) (by omega),if_neg k5]
   by_cases c1:p=j
   ·rw [if_pos c1]
    by_cases c2:q=j
    ·rw [if_pos c2];exact le_refl _
    ·rw [if_neg c2];exact h14 _ _ (by omega) (by omega) (by omega) (by omega) (by omega)
   ·rw [if_neg c1]
    by_cases c2:q=j
    ·rw [if_pos c2];exact h14 _ _ (by omega) (by omega) (by omega) (by omega) (by omega)
    ·rw [if_neg c2];exact h14 _ _ (by omega) (by omega) (by omega) (by omega) (by omega)
  ·intro q k1 k2
   rw [uY (by omega) (by omega) (by omega) (by omega) (by omega),if_pos rfl,uY (by omega) (by omega) (by omega) (by omega) (by omega),if_neg (by omega)]
   by_cases c2:q=j
   ·rw [if_pos c2];exact le_of_lt g2
   ·rw [if_neg c2];exact h15 q (by omega) k2
 ·intro g
  refine⟨⟨by omega,by omega,h12,h13,?_⟩,by omega⟩
  have hj:a''<j→le ((e').getD (j-1).toNat default) ((e').getD (j).toNat default):=fun c=>qK (by
   simp only [decide_eq_true c,Bool.true_and,decide_eq_false_iff_not]at g;exact g)
  intro p q k1 k2 k3
  by_cases c1:p=j
  ·subst c1
   by_cases c2:q=p
   ·rw [c2];exact le_refl _
   ·exact h15 q (by omega) (by omega)
  ·by_cases c2:q=j
   ·subst c2
    by_cases c3:p=q-1
    ·rw [c3];exact hj (by omega)
    ·exact(h14 p (q-1) k1 (by omega) (by omega) c1 (by omega)).trans (hj (by omega))
   ·exact h14 p q k1 k2 (by omega) c1 c2
end Go.TX.F
namespace Go.TX.F
open Go Go.AE Go.TX
theorem half {x:Int} (h1:0≤x) (h2:x≤4000000000):IntKind.i64.wrap (jk .shr .u64 (IntKind.u64.wrap x) 1)=x/2:=by
 have e1:IntKind.u64.wrap x=x:=by simp [IntKind.wrap,IntKind.bits,IntKind.signed];omega
 have e2:jk .shr .u64 x 1=x/2:=by
  show x.fdiv (2^ (min (Int.toNat 1) IntKind.u64.bits))=x/2
  rw [show(2:Int)^ (min (Int.toNat 1) IntKind.u64.bits)=2 by decide,Int.fdiv_eq_ediv_of_nonneg _ (by omega)]
 rw [e1,e2,w64 (by omega) (by omega)]
structure Mrg (d d':List aj) (a b:Int):Prop where
 sm:Sm d d'
 out:Out d d' a b
 ins:∀k,a≤k→k<b→∃j,a≤j∧j<b∧((d').getD (k).toNat default)=((d).getD (j).toNat default)
 srt:lT d' a b
structure AU (a m b:Int) (d:List aj):Prop where
 sh:Sh d
 h1:0≤a
 h2:a<m
 h3:m<b
 h4:b≤d.length
 s1:lT d a m
 s2:lT d m b
theorem AV {P Q:Prop} [Decidable P] [Decidable Q]:((decide P&&decide Q)=false)↔¬(P∧Q):=by by_cases h1:P<;>by_cases h2:Q<;>simp [h1,h2]
theorem OO {p2:Int×Int×Int×List aj×Unit→Bool} {f2:Int×Int×Int×List aj×Unit→List aj×Unit}
    (hp2:∀(a m b:Int) (d:List aj),d.length<1000000000→0≤a→a<m→m<b→b≤d.length→p2 (a,m,b,d,())=true) (hf2:∀(a m b:Int) (d:List aj),d.length<1000000000→0≤a→a<m→m<b→b≤d.length→Rot d (f2 (a,m,b,d,())).1 a m b)
    {p3:Int×Int×Int×List aj×Unit→Bool} {f3:Int×Int×Int×List aj×Unit→List aj×Unit}
    (K:Int) (hp3:∀(a m b:Int) (d:List aj),AU a m b d→b-a<K→p3 (a,m,b,d,())=true) (hf3:∀(a m b:Int) (d:List aj),AU a m b d→b-a<K→Mrg d (f3 (a,m,b,d,())).1 a b)
    (a m b mid i E:Int) (d:List aj) (hd:AU a m b d) (hK:b-a≤K) (hmid:mid=(a+b)/2) (hE:E=mid+m-i)
    (b1:a≤i) (b2:i≤m) (b3:m≤E) (b4:E≤b) (b5:a<mid) (b6:mid<b)
    (fA:i=a∨E=b∨le ((d).getD (i-1).toNat default) ((d).getD (E).toNat default)) (fB:E=m∨i=m∨le ((d).getD (E-1).toNat default) ((d).getD (i).toNat default)):
      (i<m∧m<E→
          p2 (i,m,E,d,())=true∧
            (a<i∧i<mid→
                p3 (a,i,mid,(f2 (i,m,E,d,())).fst,())=true∧
                  (mid<E∧E<b→
                      p3 (mid,E,b,(f3 (a,i,mid,(f2 (i,m,E,d,())).fst,())).fst,())=true∧
                        Mrg d (f3 (mid,E,b,(f3 (a,i,mid,(f2 (i,m,E,d,())).fst,())).fst,())).fst
                          a b)∧
                    ((decide (mid<E)&&decide (E<b))=false→
                      Mrg d (f3 (a,i,mid,(f2 (i,m,E,d,())).fst,())).fst a b))∧
              ((decide (a<i)&&decide (i<mid))=false→
                (mid<E∧E<b→
                    p3 (mid,E,b,(f2 (i,m,E,d,())).fst,())=true∧
                      Mrg d (f3 (mid,E,b,(f2 (i,m,E,d,())).fst,())).fst a b)∧
                  ((decide (mid<E)&&decide (E<b))=false→
                    Mrg d (f2 (i,m,E,d,())).fst a b)))∧
        ((decide (i<m)&&decide (m<E))=false→
          (a<i∧i<mid→
              p3 (a,i,mid,d,())=true∧
                (mid<E∧E<b→
                    p3 (mid,E,b,(f3 (a,i,mid,d,())).fst,())=true∧
                      Mrg d (f3 (mid,E,b,(f3 (a,i,mid,d,())).fst,())).fst a b)∧
                  ((decide (mid<E)&&decide (E<b))=false→
                    Mrg d (f3 (a,i,mid,d,())).fst a b))∧
            ((decide (a<i)&&decide (i<mid))=false→
              (mid<E∧E<b→
                  p3 (mid,E,b,d,())=true∧Mrg d (f3 (mid,E,b,d,())).fst a b)∧
                ((decide (mid<E)&&decide (E<b))=false→Mrg d d a b))):=by
  obtain⟨hs,h1,h2,h3,h4,hA,hB⟩:=hd
  have hlen:=hs.1
  have cross:∀x y,((a≤x∧x<i)∨(m≤x∧x<E))→((i≤y∧y<m)∨(E≤y∧y<b))→le ((d).getD (x).toNat default) ((d).getD (y).toNat default):=by
    rintro x y (hx | hx) (hy | hy)
    · exact hA x y hx.1 (by omega) hy.2
    · rcases fA with fA | fA | fA
      · omega
      · omega
      · exact((hA x (i-1) hx.1 (by omega) (by omega)).trans fA).trans (hB E y b3 hy.1 hy.2)
    · rcases fB with fB | fB | fB
      · omega
      · omega
      · exact((hB x (E-1) hx.1 (by omega) (by omega)).trans fB).trans (hA i y b1 hy.1 hy.2)
    · exact hB x y hx.1 (by omega) hy.2
  have aoE : ∀ e, Rot d e i m E → ∀ R : Prop, R = Mrg d e a b → (a < i ∧ i < mid →
              p3 (a,i,mid,e,())=true∧
                (mid<E∧E<b→
                    p3 (mid,E,b,(f3 (a,i,mid,e,())).fst,())=true∧
                      Mrg d (f3 (mid,E,b,(f3 (a,i,mid,e,())).fst,())).fst a b)∧
                  ((decide (mid<E)&&decide (E<b))=false→
                    Mrg d (f3 (a,i,mid,e,())).fst a b))∧
            ((decide (a<i)&&decide (i<mid))=false→
              (mid<E∧E<b→
                  p3 (mid,E,b,e,())=true∧Mrg d (f3 (mid,E,b,e,())).fst a b)∧
                ((decide (mid<E)&&decide (E<b))=false→R)):=by
    rintro e ⟨r1,r2⟩ R rfl
    have hle:=r1.1
    have hes:=r1.sh hs
    have lo:∀k,a≤k→k<mid→∃x,((a≤x∧x<i)∨(m≤x∧x<E))∧((e).getD (k).toNat default)=((d).getD (x).toNat default):=by
      intro k k1 k2
      rw [r2 k (by omega)]
      by_cases c1:i≤k∧k<i+(E-m)
      · rw [if_pos c1];exact⟨k+(m-i),by omega,rfl⟩
      · rw [if_neg c1,if_neg (by omega)];exact⟨k,by omega,rfl⟩
    have hi:∀k,mid≤k→k<b→∃x,((i≤x∧x<m)∨(E≤x∧x<b))∧((e).getD (k).toNat default)=((d).getD (x).toNat default):=by
      intro k k1 k2
      rw [r2 k (by omega),if_neg (by omega)]
      by_cases c1:i+(E-m)≤k∧k<E
      · rw [if_pos c1];exact⟨k- (E-m),by omega,rfl⟩
      · rw [if_neg c1];exact⟨k,by omega,rfl⟩
    have S1:lT e a i:=by
      intro p q q1 q2 q3
      rw [r2 p (by omega),r2 q (by omega),if_neg (by omega),if_neg (by omega),if_neg (by omega),if_neg (by omega)]
      exact hA p q q1 q2 (by omega)
    have S2:lT e i mid:=by
      intro p q q1 q2 q3
      rw [r2 p (by omega),r2 q (by omega),if_pos (by omega),if_pos (by omega)]
      exact hB _ _ (by omega) (by omega) (by omega)
    have S3:lT e mid E:=by
      intro p q q1 q2 q3
      rw [r2 p (by omega),r2 q (by omega),if_neg (by omega),if_pos (by omega),if_neg (by omega),if_pos (by omega)]
      exact hA _ _ (by omega) (by omega) (by omega)
    have S4:lT e E b:=by
      intro p q q1 q2 q3
      rw [r2 p (by omega),r2 q (by omega),if_neg (by omega),if_neg (by omega),if_neg (by omega),if_neg (by omega)]
      exact hB _ _ (by omega) (by omega) (by omega)
    have fin:∀e1 e2,Mrg e e1 a mid→Mrg e1 e2 mid b→Mrg d e2 a b:=by
      intro e1 e2 m1 m2
      refine⟨(r1.trans m1.sm).trans m2.sm,fun k k1 k2=> ?_,fun k k1 k2=> ?_,fun p q q1 q2 q3=> ?_⟩
      · rw [m2.out k k1 (by omega),m1.out k k1 (by omega),r2 k k1,if_neg (by omega),if_neg (by omega)]
      · by_cases c:k<mid
        · rw [m2.out k (by omega) (by omega)]
          obtain⟨j,j1,j2,j3⟩:=m1.ins k k1 c
          obtain⟨x,x1,x2⟩:=lo j j1 j2
          rw [j3,x2];exact⟨x,by omega,by omega,rfl⟩
        · obtain⟨j,j1,j2,j3⟩:=m2.ins k (by omega) k2
          rw [j3,m1.out j (by omega) (by omega)]
          obtain⟨x,x1,x2⟩:=hi j j1 j2
          rw [x2];exact⟨x,by omega,by omega,rfl⟩
      · by_cases c:q<mid
        · rw [m2.out p (by omega) (by omega),m2.out q (by omega) (by omega)];exact m1.srt p q q1 q2 c
        · by_cases c2:mid≤p
          · exact m2.srt p q c2 q2 q3
          · rw [m2.out p (by omega) (by omega)]
            obtain⟨j,j1,j2,j3⟩:=m1.ins p q1 (by omega)
            obtain⟨x,x1,x2⟩:=lo j j1 j2
            obtain⟨j',j1',j2',j3'⟩:=m2.ins q (by omega) q3
            obtain⟨x',x1',x2'⟩:=hi j' j1' j2'
            rw [j3,x2,j3',m1.out j' (by omega) (by omega),x2']
            exact cross x x' x1 x1'
    have triv:∀e' a' b',lT e' a' b'→Mrg e' e' a' b':=fun e' a' b' h=>⟨Sm.refl _,fun _ _ _=>rfl,fun k k1 k2=>⟨k,k1,k2,rfl⟩,h⟩
    have last : ∀ e1, Mrg e e1 a mid → (mid < E ∧ E < b →
                    p3 (mid,E,b,e1,())=true∧
                      Mrg d (f3 (mid,E,b,e1,())).fst a b)∧
                  ((decide (mid<E)&&decide (E<b))=false→
                    Mrg d e1 a b):=by
      intro e1 m1
      have hle1:=m1.sm.1
      have O:∀a' b',mid≤a'→b'≤b→lT e a' b'→lT e1 a' b':=fun a' b' g1 g2 g p q q1 q2 q3=>by
        rw [m1.out p (by omega) (by omega),m1.out q (by omega) (by omega)];exact g p q q1 q2 q3
      refine⟨fun c=> ?_,fun c=> ?_⟩
      · have pre:AU mid E b e1:=⟨m1.sm.sh hes,by omega,c.1,c.2,by omega,O _ _ (by omega) (by omega) S3,O _ _ (by omega) (by omega) S4⟩
        exact⟨hp3 _ _ _ _ pre (by omega),fin _ _ m1 (hf3 _ _ _ _ pre (by omega))⟩
      · rw [AV]at c
        refine fin _ _ m1 (triv _ _ _ ?_)
        by_cases c2:mid<E
        · have:E=b:=by omega
          subst this;exact O _ _ (by omega) (by omega) S3
        · have:E=mid:=by omega
          rw [this]at S4;exact O _ _ (by omega) (by omega) S4
    refine⟨fun c=> ?_,fun c=> ?_⟩
    · have pre:AU a i mid e:=⟨hes,by omega,c.1,c.2,by omega,S1,S2⟩
      exact⟨hp3 _ _ _ _ pre (by omega),last _ (hf3 _ _ _ _ pre (by omega))⟩
    · rw [AV]at c
      refine last e (triv _ _ _ ?_)
      by_cases c2:a<i
      · have:i=mid:=by omega
        rw [←this];exact S1
      · have:i=a:=by omega
        rw [this]at S2;exact S2
  refine⟨fun c=>⟨hp2 _ _ _ _ hlen (by omega) c.1 c.2 (by omega),aoE _ (hf2 _ _ _ _ hlen (by omega) c.1 c.2 (by omega)) _ rfl⟩,fun c=>aoE d ?_ _ rfl⟩
  rw [AV]at c
  refine⟨Sm.refl _,fun k k1=> ?_⟩
  repeat' split
  all_goals first | rfl | (exfalso;omega) | (congr 2;omega)
theorem ah6 {p:aj×aj×Unit→Bool} {f:aj×aj×Unit→Int×Unit} (hp:∀x y,x.atoms.length<1000000000→p (x,y,())=true) (hf:∀x y,x.atoms.length<1000000000→f (x,y,())=(dZ x.atoms y.atoms,()))
  {p2:Int×Int×Int×List aj×Unit→Bool} {f2:Int×Int×Int×List aj×Unit→List aj×Unit}
  (hp2:∀(a m b:Int) (d:List aj),d.length<1000000000→0≤a→a<m→m<b→b≤d.length→p2 (a,m,b,d,())=true) (hf2:∀(a m b:Int) (d:List aj),d.length<1000000000→0≤a→a<m→m<b→b≤d.length→Rot d (f2 (a,m,b,d,())).1 a m b)
  {p3:Int×Int×Int×List aj×Unit→Bool} {f3:Int×Int×Int×List aj×Unit→List aj×Unit}
  (K:Int) (hp3:∀(a m b:Int) (d:List aj),AU a m b d→b-a<K→p3 (a,m,b,d,())=true) (hf3:∀(a m b:Int) (d:List aj),AU a m b d→b-a<K→Mrg d (f3 (a,m,b,d,())).1 a b)
  (a m b:Int) (d:List aj) (hd:AU a m b d) (hK:b-a≤K):
  F3 (std 0) p f p2 f2 p3 f3 (a,m,b,d,()) (fun y=>Mrg d y.1 a b):=by
 obtain⟨hs,h1,h2,h3,h4,hA,hB⟩:=hd
 have hlen:=hs.1
 dsimp only [F3,Alg.cl,Alg.cg,Alg.rb,Alg.bd,Alg.l1,Tup.q,Tup.o]
 simp (disch:=omega) only [RR]
 refine⟨fun h5=> ?_,fun h5=>⟨fun h6=> ?_,fun h6=> ?_⟩⟩
 ·
  have hm:m=a+1:=by omega
  subst hm
  refine aA (fun(y:Int×Int×Int×List aj×Unit)=>y.1=a∧y.2.2.2.1=d∧a+1≤y.2.1∧y.2.1≤y.2.2.1∧y.2.2.1≤b∧(∀q,a+1≤q→q<y.2.1→dZ ((d).getD (q).toNat default).atoms ((d).getD (a).toNat default).atoms<0)∧(∀q,y.2.2.1≤q→q<b→¬dZ ((d).getD (q).toNat default).atoms ((d).getD (a).toNat default).atoms<0)) (fun y=>(y.2.2.1-y.2.1).toNat)
   ⟨rfl,rfl,by simp,by simp;omega,by simp,fun q g1 g2=>by dsimp only at g2;omega,fun q g1 g2=>by dsimp only at g1;omega⟩ ?_
  rintro⟨(a':Int),(i:Int),(j:Int),(d':List aj),⟨⟩⟩ hI
  dsimp only at hI ⊢
  obtain⟨rfl,rfl,g1,g2,g3,g4,g5⟩:=hI
  simp (disch:=omega) only [RR,half,hp _ _ (hs.at _),hf _ _ (hs.at _)]
  refine⟨fun g6=>⟨by omega,by omega,by omega,by omega,by omega,by omega,by omega,by omega,by omega,fun g7=>⟨⟨by omega,by omega,by omega,fun q k1 k2=> ?_,g5⟩,by omega⟩,fun g7=>⟨⟨by omega,by omega,by omega,g4,fun q k1 k2=> ?_⟩,by omega⟩⟩,fun g6=> ?_⟩
  ·exact dA (hB q ((i+j)/2) k1 (by omega) (by omega)) g7
  ·intro g8;exact g7 (dA (hB ((i+j)/2) q (by omega) (by omega) k2) g8)
  have hij:i=j:=by omega
  subst hij
  refine aA (fun(y:Int×Int×List aj×Unit)=>y.1=i∧a'≤y.2.1∧y.2.1≤i-1∧Sm d' y.2.2.1∧(∀k,0≤k→((y.2.2.1).getD (k).toNat default)=if a'≤k∧k<y.2.1 then((d').getD (k+1).toNat default)else if k=y.2.1 then((d').getD (a').toNat default)else((d').getD (k).toNat default))) (fun y=>(i-y.2.1).toNat)
   ⟨rfl,by simp,by simp;omega,Sm.refl _,fun k hk=>by dsimp only;rw [if_neg (by omega)];split;(· congr 2);(· rfl)⟩ ?_
  rintro⟨(i':Int),(k:Int),(e:List aj),⟨⟩⟩ hI
  dsimp only at hI ⊢
  obtain⟨rfl,k1,k2,k3,k4⟩:=hI
  have hle:=k3.1
  simp (disch:=omega) only [RR,List.length_set]
  have e1:(e.set k.toNat ((e).getD (k+1).toNat default)).set (k+1).toNat ((e).getD (k).toNat default)=swp e k (k+1):=rfl
  rw [e1]
  refine⟨fun g7=>⟨by omega,by omega,by omega,by omega,by omega,by omega,by omega,by omega,by omega,by omega,by omega,by omega,by omega,by omega,by omega,by omega,⟨by omega,by omega,k3.trans (KG (by omega) (by omega) (by omega) (by omega)),fun q hq=> ?_⟩,by omega⟩,fun g7=> ?_⟩
  ·rw [uY (by omega) (by omega) (by omega) (by omega) hq,k4 _ (by omega),k4 _ (by omega),k4 _ hq]
   repeat' split
   all_goals first | rfl | (exfalso;omega) | (congr 2;omega)
  ·have hk:k=i'-1:=by omega
   subst hk
   refine⟨k3,fun q hq hq2=> ?_,fun q hq hq2=> ?_,fun q r q1 q2 q3=> ?_⟩
   ·rw [k4 q hq,if_neg (by omega),if_neg (by omega)]
   ·rw [k4 q (by omega)]
    repeat' split
    ·exact⟨q+1,by omega,by omega,rfl⟩
    ·exact⟨a',by omega,by omega,rfl⟩
    ·exact⟨q,by omega,by omega,rfl⟩
   ·rw [k4 q (by omega),k4 r (by omega)]
    by_cases c1:a'≤q∧q<i'-1
    ·rw [if_pos c1]
     by_cases c2:a'≤r∧r<i'-1
     ·rw [if_pos c2];exact hB _ _ (by omega) (by omega) (by omega)
     ·rw [if_neg c2]
      by_cases c3:r=i'-1
      ·rw [if_pos c3];exact le_of_lt (g4 _ (by omega) (by omega))
      ·rw [if_neg c3];exact hB _ _ (by omega) (by omega) (by omega)
    ·rw [if_neg c1,if_neg (by omega:¬(a'≤r∧r<i'-1))]
     by_cases c3:q=i'-1
     ·rw [if_pos c3]
      by_cases c4:r=i'-1
      ·rw [if_pos c4];exact le_refl _
      ·rw [if_neg c4];exact qK (g5 r (by omega) (by omega))
     ·rw [if_neg c3,if_neg (by omega)];exact hB _ _ (by omega) (by omega) (by omega)
 ·
  have hm:b=m+1:=by omega
  subst hm
  refine aA (fun(y:Int×Int×Int×List aj×Unit)=>y.1=m∧y.2.2.2.1=d∧a≤y.2.1∧y.2.1≤y.2.2.1∧y.2.2.1≤m∧(∀q,a≤q→q<y.2.1→¬dZ ((d).getD (m).toNat default).atoms ((d).getD (q).toNat default).atoms<0)∧(∀q,y.2.2.1≤q→q<m→dZ ((d).getD (m).toNat default).atoms ((d).getD (q).toNat default).atoms<0)) (fun y=>(y.2.2.1-y.2.1).toNat)
   ⟨rfl,rfl,by simp,by simp;omega,by simp,fun q g1 g2=>by dsimp only at g2;omega,fun q g1 g2=>by dsimp only at g1;omega⟩ ?_
  rintro⟨(m':Int),(i:Int),(j:Int),(d':List aj),⟨⟩⟩ hI
  dsimp only at hI ⊢
  obtain⟨rfl,rfl,g1,g2,g3,g4,g5⟩:=hI
  simp (disch:=omega) only [RR,half,hp _ _ (hs.at _),hf _ _ (hs.at _)]
  refine⟨fun g6=>⟨by omega,by omega,by omega,by omega,by omega,by omega,by omega,by omega,by omega,fun g7=>⟨⟨by omega,by omega,by omega,fun q k1 k2=> ?_,g5⟩,by omega⟩,fun g7=>⟨⟨by omega,by omega,by omega,g4,fun q k1 k2=> ?_⟩,by omega⟩⟩,fun g6=> ?_⟩
  ·intro g8
   have:=hA q ((i+j)/2) k1 (by omega) (by omega)
   apply g7
   have h7:=jH g8 this
   exact h7
  ·exact jH g7 (hA ((i+j)/2) q (by omega) (by omega) k2)
  have hij:i=j:=by omega
  subst hij
  refine aA (fun(y:Int×Int×List aj×Unit)=>y.1=i∧i≤y.2.1∧y.2.1≤m'∧Sm d' y.2.2.1∧(∀k,0≤k→((y.2.2.1).getD (k).toNat default)=if y.2.1<k∧k≤m' then((d').getD (k-1).toNat default)else if k=y.2.1 then((d').getD (m').toNat default)else((d').getD (k).toNat default))) (fun y=>(y.2.1-i).toNat)
   ⟨rfl,by simp;omega,by simp,Sm.refl _,fun k hk=>by dsimp only;rw [if_neg (by omega)];split;(· congr 2);(· rfl)⟩ ?_
  rintro⟨(i':Int),(k:Int),(e:List aj),⟨⟩⟩ hI
  dsimp only at hI ⊢
  obtain⟨rfl,k1,k2,k3,k4⟩:=hI
  have hle:=k3.1
  simp (disch:=omega) only [RR,List.length_set]
  have e1:(e.set k.toNat ((e).getD (k-1).toNat default)).set (k-1).toNat ((e).getD (k).toNat default)=swp e k (k-1):=rfl
  rw [e1]
  refine⟨fun g7=>⟨by omega,by omega,by omega,by omega,by omega,by omega,by omega,by omega,by omega,by omega,by omega,by omega,by omega,by omega,by omega,by omega,⟨by omega,by omega,k3.trans (KG (by omega) (by omega) (by omega) (by omega)),fun q hq=> ?_⟩,by omega⟩,fun g7=> ?_⟩
  ·rw [uY (by omega) (by omega) (by omega) (by omega) hq,k4 _ (by omega),k4 _ (by omega),k4 _ hq]
   repeat' split
   all_goals first | rfl | (exfalso;omega) | (congr 2;omega)
  ·have hk:k=i':=by omega
   subst hk
   refine⟨k3,fun q hq hq2=> ?_,fun q hq hq2=> ?_,fun q r q1 q2 q3=> ?_⟩
   ·rw [k4 q hq,if_neg (by omega),if_neg (by omega)]
   ·rw [k4 q (by omega)]
    repeat' split
    ·exact⟨q-1,by omega,by omega,rfl⟩
    ·exact⟨m',by omega,by omega,rfl⟩
    ·exact⟨q,by omega,by omega,rfl⟩
   ·rw [k4 q (by omega),k4 r (by omega)]
    by_cases c1:k<q∧q≤m'
    ·rw [if_pos c1,if_pos (by omega)];exact hA _ _ (by omega) (by omega) (by omega)
    ·rw [if_neg c1]
     by_cases c3:q=k
     ·rw [if_pos c3]
      by_cases c2:k<r∧r≤m'
      ·rw [if_pos c2];exact le_of_lt (g5 _ (by omega) (by omega))
      ·rw [if_neg c2,if_pos (by omega)];exact le_refl _
     ·rw [if_neg c3]
      by_cases c2:k<r∧r≤m'
      ·rw [if_pos c2];exact hA _ _ (by omega) (by omega) (by omega)
      ·rw [if_neg c2]
       by_cases c4:r=k
       ·rw [if_pos c4];exact qK (g4 _ (by omega) (by omega))
       ·rw [if_neg c4];exact hA _ _ (by omega) (by omega) (by omega)
 ·
  simp (disch:=omega) only [RR,half]
  refine⟨by omega,fun h7=> ?_,fun h7=> ?_⟩
  ·refine aA (fun(y:Int×Int×Int×Int×Int×Int×Int×Int×List aj×Unit)=>y.1=a∧y.2.1=m∧y.2.2.1=b∧y.2.2.2.1=(a+b)/2∧y.2.2.2.2.1=(a+b)/2+m∧y.2.2.2.2.2.2.2.1=(a+b)/2+m-1∧y.2.2.2.2.2.2.2.2.1=d∧(a+b)/2+m-b≤y.2.2.2.2.2.1∧y.2.2.2.2.2.1≤y.2.2.2.2.2.2.1∧y.2.2.2.2.2.2.1≤(a+b)/2
     ∧(∀q,(a+b)/2+m-b≤q→q<y.2.2.2.2.2.1→¬dZ ((d).getD ((a+b)/2+m-1-q).toNat default).atoms ((d).getD (q).toNat default).atoms<0)∧(∀q,y.2.2.2.2.2.2.1≤q→q< (a+b)/2→dZ ((d).getD ((a+b)/2+m-1-q).toNat default).atoms ((d).getD (q).toNat default).atoms<0)) (fun y=>(y.2.2.2.2.2.2.1-y.2.2.2.2.2.1).toNat)
    ⟨rfl,rfl,rfl,rfl,rfl,rfl,rfl,by simp,by simp;omega,by simp,fun q g1 g2=>by dsimp only at g2;omega,fun q g1 g2=>by dsimp only at g1;omega⟩ ?_
   rintro⟨(a':Int),(m':Int),(b':Int),(mid:Int),(n:Int),(i:Int),(j:Int),(r:Int),(d':List aj),⟨⟩⟩ hI
   dsimp only at hI ⊢
   obtain⟨rfl,rfl,rfl,hmid,hn,hr,rfl,g1,g2,g3,g4,g5⟩:=hI
   rw [←hmid]at g1 g3 g4 g5 h7
   simp (disch:=omega) only [RR,half,hp _ _ (hs.at _),hf _ _ (hs.at _)]
   refine⟨fun g6=>⟨by omega,by omega,by omega,by omega,by omega,by omega,by omega,by omega,by omega,fun g7=>⟨⟨hmid,hn,hr,by omega,by omega,by omega,fun q k1 k2=> ?_,by rw [←hmid];exact g5⟩,by omega⟩,fun g7=>⟨⟨hmid,hn,hr,by omega,by omega,by omega,by rw [←hmid];exact g4,fun q k1 k2=> ?_⟩,by omega⟩⟩,fun g6=> ?_⟩
   ·rw [←hmid]at k1 ⊢
    intro g8
    apply g7
    rw [hr,←hmid]
    exact dA (hB _ _ (by omega) (by omega) (by omega)) (jH g8 (hA _ _ (by omega) (by omega) (by omega)))
   ·rw [←hmid]at k2 ⊢
    rw [hr,←hmid]at g7
    exact dA (hB _ _ (by omega) (by omega) (by omega)) (jH g7 (hA _ _ (by omega) (by omega) (by omega)))
   ·have hij:i=j:=by omega
    subst hij
    refine OO hp2 hf2 K hp3 hf3 a' m' b' mid i (n-i) d' ⟨hs,h1,h2,h3,h4,hA,hB⟩ hK hmid (by omega) (by omega) (by omega) (by omega) (by omega) (by omega) (by omega) ?_ ?_
    ·by_cases c:i=mid+m'-b'
     ·first | exact Or.inl (by omega) | exact Or.inr (Or.inl (by omega))
     ·refine Or.inr (Or.inr ?_)
      have:=g4 (i-1) (by omega) (by omega)
      rw [show mid+m'-1- (i-1)=n-i by omega]at this
      exact qK this
    ·by_cases c:i=mid
     ·first | exact Or.inl (by omega) | exact Or.inr (Or.inl (by omega))
     ·refine Or.inr (Or.inr ?_)
      have:=g5 i (by omega) (by omega)
      rw [show mid+m'-1-i=n-i-1 by omega]at this
      exact le_of_lt this
  ·refine aA (fun(y:Int×Int×Int×Int×Int×Int×Int×Int×List aj×Unit)=>y.1=a∧y.2.1=m∧y.2.2.1=b∧y.2.2.2.1=(a+b)/2∧y.2.2.2.2.1=(a+b)/2+m∧y.2.2.2.2.2.2.2.1=(a+b)/2+m-1∧y.2.2.2.2.2.2.2.2.1=d∧a≤y.2.2.2.2.2.1∧y.2.2.2.2.2.1≤y.2.2.2.2.2.2.1∧y.2.2.2.2.2.2.1≤m
     ∧(∀q,a≤q→q<y.2.2.2.2.2.1→¬dZ ((d).getD ((a+b)/2+m-1-q).toNat default).atoms ((d).getD (q).toNat default).atoms<0)∧(∀q,y.2.2.2.2.2.2.1≤q→q<m→dZ ((d).getD ((a+b)/2+m-1-q).toNat default).atoms ((d).getD (q).toNat default).atoms<0)) (fun y=>(y.2.2.2.2.2.2.1-y.2.2.2.2.2.1).toNat)
    ⟨rfl,rfl,rfl,rfl,rfl,rfl,rfl,by simp,by simp;omega,by simp,fun q g1 g2=>by dsimp only at g2;omega,fun q g1 g2=>by dsimp only at g1;omega⟩ ?_
   rintro⟨(a':Int),(m':Int),(b':Int),(mid:Int),(n:Int),(i:Int),(j:Int),(r:Int),(d':List aj),⟨⟩⟩ hI
   dsimp only at hI ⊢
   obtain⟨rfl,rfl,rfl,hmid,hn,hr,rfl,g1,g2,g3,g4,g5⟩:=hI
   rw [←hmid]at g4 g5 h7
   simp (disch:=omega) only [RR,half,hp _ _ (hs.at _),hf _ _ (hs.at _)]
   refine⟨fun g6=>⟨by omega,by omega,by omega,by omega,by omega,by omega,by omega,by omega,by omega,fun g7=>⟨⟨hmid,hn,hr,by omega,by omega,by omega,fun q k1 k2=> ?_,by rw [←hmid];exact g5⟩,by omega⟩,fun g7=>⟨⟨hmid,hn,hr,by omega,by omega,by omega,by rw [←hmid];exact g4,fun q k1 k2=> ?_⟩,by omega⟩⟩,fun g6=> ?_⟩
   ·rw [←hmid]
    intro g8
    apply g7
    rw [hr,←hmid]
    exact dA (hB _ _ (by omega) (by omega) (by omega)) (jH g8 (hA _ _ (by omega) (by omega) (by omega)))
   ·rw [←hmid]
    rw [hr,←hmid]at g7
    exact dA (hB _ _ (by omega) (by omega) (by omega)) (jH g7 (hA _ _ (by omega) (by omega) (by omega)))
   ·have hij:i=j:=by omega
    subst hij
    refine OO hp2 hf2 K hp3 hf3 a' m' b' mid i (n-i) d' ⟨hs,h1,h2,h3,h4,hA,hB⟩ hK hmid (by omega) (by omega) (by omega) (by omega) (by omega) (by omega) (by omega) ?_ ?_
    ·by_cases c:i=a'
     ·first | exact Or.inl (by omega) | exact Or.inr (Or.inl (by omega))
     ·refine Or.inr (Or.inr ?_)
      have:=g4 (i-1) (by omega) (by omega)
      rw [show mid+m'-1- (i-1)=n-i by omega]at this
      exact qK this
    ·by_cases c:i=m'
     ·first | exact Or.inl (by omega) | exact Or.inr (Or.inl (by omega))
     ·refine Or.inr (Or.inr ?_)
      have:=g5 i (by omega) (by omega)
      rw [show mid+m'-1-i=n-i-1 by omega]at this
      exact le_of_lt this
end Go.TX.F
namespace Go.TX.F
open Go Go.AE Go.TX
theorem wC {s a x:Int} (h:s ∣ a) (h1:a<x) (h2:x<a+s):¬s ∣ x:=fun h3=>by
 have:=Int.le_of_dvd (by omega) (Int.dvd_sub h3 h);omega
theorem lT.adj {d:List aj} {a b:Int} (h:∀p,a≤p→p+1<b→le ((d).getD (p).toNat default) ((d).getD (p+1).toNat default)):lT d a b:=by
 intro p q h1 h2 h3
 obtain⟨n,hn⟩:∃n:Nat,q=p+n:=⟨(q-p).toNat,by omega⟩
 subst hn
 clear h2
 induction n with
 | zero=>rw [show p+((0:Nat):Int)=p by omega];exact le_refl _
 | succ n ih=>
  have:=h (p+n) (by omega) (by omega)
  rw [show p+((n+1:Nat):Int)=p+n+1 by omega]
  exact(ih (by omega)).trans this
theorem lT.at1 {d:List aj} {a b p:Int} (h:lT d a b) (h1:a≤p) (h2:p+1<b):le ((d).getD (p).toNat default) ((d).getD (p+1).toNat default):=h p (p+1) h1 (by omega) h2
def Bl (d:List aj) (s n:Int):Prop:=∀p,0≤p→p+1<n→¬s ∣ p+1→le ((d).getD (p).toNat default) ((d).getD (p+1).toNat default)
theorem ah7 {p:Int×Int×List aj×Unit→Bool} {f:Int×Int×List aj×Unit→List aj×Unit}
  (hp:∀(a b:Int) (d:List aj),Sh d→0≤a→a≤b→b≤d.length→p (a,b,d,())=true) (hf:∀(a b:Int) (d:List aj),Sh d→0≤a→a≤b→b≤d.length→Sm d (f (a,b,d,())).1∧Out d (f (a,b,d,())).1 a b∧lT (f (a,b,d,())).1 a b)
  {p3:Int×Int×Int×List aj×Unit→Bool} {f3:Int×Int×Int×List aj×Unit→List aj×Unit}
  (hp3:∀(a m b:Int) (d:List aj),AU a m b d→p3 (a,m,b,d,())=true) (hf3:∀(a m b:Int) (d:List aj),AU a m b d→Mrg d (f3 (a,m,b,d,())).1 a b)
  (n:Int) (d:List aj) (hd:Sh d) (hn:n=d.length):
  R8 (std 0) p f p3 f3 (n,d,()) (fun y=>Sm d y.1∧lT y.1 0 n):=by
 have hlen:=hd.1
 dsimp only [R8,Alg.cl,Alg.cg,Alg.rb,Alg.bd,Alg.l1,Tup.q,Tup.o]
 simp (disch:=omega) only [RR]
 refine aA (fun(y:Int×Int×Int×Int×List aj×Unit)=>y.1=n∧y.2.1=20∧0≤y.2.2.1∧y.2.2.1≤n∧(20:Int) ∣ y.2.2.1∧y.2.2.2.1=y.2.2.1+20∧Sm d y.2.2.2.2.1∧Bl y.2.2.2.2.1 20 y.2.2.1) (fun y=>(n+20-y.2.2.2.1).toNat)
  ⟨rfl,rfl,by simp,by simp;omega,⟨0,by simp⟩,rfl,Sm.refl _,fun p h1 h2=>by dsimp only at h2;omega⟩ ?_
 rintro⟨(n':Int),(s:Int),(a:Int),(b:Int),(e:List aj),⟨⟩⟩ hI
 dsimp only at hI ⊢
 obtain⟨rfl,rfl,h1,h2,h3,rfl,h5,h6⟩:=hI
 have hle:=h5.1
 have hs:=h5.sh hd
 simp (disch:=omega) only [RR]
 have bl:∀a c (e e':List aj),0≤a→(20:Int) ∣ a→c≤a+20→Bl e 20 a→Out e e' a c→lT e' a c→Bl e' 20 c:=by
  intro a c e e' c0 c1 c2 c3 c4 c5 q q1 q2 q3
  by_cases k1:q+1<a
  ·rw [c4 q q1 (by omega),c4 (q+1) (by omega) (by omega)];exact c3 q q1 k1 q3
  ·exact c5.at1 (by omega) q2
 refine⟨fun h7=> ?_,fun h7=> ?_⟩
 ·obtain⟨t1,t2,t3⟩:=hf a (a+20) e hs h1 (by omega) (by omega)
  exact⟨hp a (a+20) e hs h1 (by omega) (by omega),⟨by omega,by omega,by omega,h5.trans t1,bl a (a+20) _ _ h1 h3 (by omega) h6 t2 t3⟩,by omega⟩
 obtain⟨t1,t2,t3⟩:=hf a n' e hs h1 (by omega) (by omega)
 refine⟨hp a n' e hs h1 (by omega) (by omega),?_⟩
 have t4:=bl a n' _ _ h1 h3 (by omega) h6 t2 t3
 generalize (f (a,n',e,())).1=e2 at t1 t2 t3 t4 ⊢
 have u1:=h5.trans t1
 clear t1 t2 t3 h5 h6
 refine aA (fun(y:Int×Int×List aj×Unit)=>y.1=n'∧0<y.2.1∧(y.2.1≤20∨y.2.1≤2*n')∧Sm d y.2.2.1∧Bl y.2.2.1 y.2.1 n') (fun y=>(n'-y.2.1).toNat)
  ⟨rfl,by simp,Or.inl (by simp),u1,t4⟩ ?_
 rintro⟨(n:Int),(s:Int),(e3:List aj),⟨⟩⟩ hI
 dsimp only at hI ⊢
 obtain⟨rfl,g1,g2,g3,g4⟩:=hI
 simp (disch:=omega) only [RR]
 refine⟨fun g5=> ?_,fun g5=>⟨g3,lT.adj fun q q1 q2=>g4 q q1 q2 (wC (a:=0) ⟨0,by simp⟩ (by omega) (by omega))⟩⟩
 refine aA (fun(y:Int×Int×Int×Int×List aj×Unit)=>y.1=n∧y.2.1=s∧0≤y.2.2.1∧y.2.2.1≤n∧(2*s) ∣ y.2.2.1∧y.2.2.2.1=y.2.2.1+2*s∧Sm d y.2.2.2.2.1
   ∧∀p,0≤p→p+1<n→¬(2*s) ∣ p+1→(p+1<y.2.2.1∨¬s ∣ p+1)→le ((y.2.2.2.2.1).getD (p).toNat default) ((y.2.2.2.2.1).getD (p+1).toNat default)) (fun y=>(n+2*s-y.2.2.2.1).toNat)
  ⟨rfl,rfl,by simp,by simp;omega,⟨0,by simp⟩,by simp,g3,fun q q1 q2 q3 q4=>g4 q q1 q2 (by dsimp only at q4;rcases q4 with q4 | q4;(· omega);(· exact q4))⟩ ?_
 rintro⟨(n':Int),(s':Int),(a:Int),(b:Int),(e4:List aj),⟨⟩⟩ hI
 dsimp only at hI ⊢
 obtain⟨rfl,rfl,k1,k2,k3,rfl,k5,k6⟩:=hI
 have hle:=k5.1
 have hs:=k5.sh hd
 have ks:s' ∣ a:=Int.dvd_trans ⟨2,by omega⟩ k3
 simp (disch:=omega) only [RR]
 have blk:∀x,x≤n'→a+s'<x→x≤a+2*s'→AU a (a+s') x e4:=fun x x1 x2 x3=>
  ⟨hs,k1,by omega,x2,by omega,lT.adj fun q q1 q2=>by
   refine k6 q (by omega) (by omega) (wC k3 (by omega) (by omega)) (Or.inr (wC ks (by omega) (by omega))),
   lT.adj fun q q1 q2=>by
   refine k6 q (by omega) (by omega) (wC k3 (by omega) (by omega)) (Or.inr (wC (Int.dvd_add ks (Int.dvd_refl s')) (by omega) (by omega)))⟩
 have stp:∀x e5,x≤n'→(x=a+2*s'∨x=n')→x≤a+2*s'→Mrg e4 e5 a x→∀p,0≤p→p+1<n'→¬(2*s') ∣ p+1→(p+1<x∨¬s' ∣ p+1)→le ((e5).getD (p).toNat default) ((e5).getD (p+1).toNat default):=by
  intro x e5 x1 x2 x3 m1 q q1 q2 q3 q4
  by_cases c1:q+1<a
  ·rw [m1.out q q1 (by omega),m1.out (q+1) (by omega) (by omega)];exact k6 q q1 q2 q3 (Or.inl c1)
  ·by_cases c2:q+1=a
   ·rw [c2]at q3;exact absurd k3 q3
   ·by_cases c3:q+1<x
    ·exact m1.srt.at1 (by omega) c3
    ·by_cases c4:q+1=x
     ·exfalso
      rcases x2 with x2 | x2
      ·rw [c4,x2]at q3;exact q3 (Int.dvd_add k3 (Int.dvd_refl _))
      ·omega
     ·rw [m1.out q q1 (by omega),m1.out (q+1) (by omega) (by omega)]
      refine k6 q q1 q2 q3 (Or.inr ?_)
      rcases q4 with q4 | q4
      ·omega
      ·exact q4
 refine⟨fun k7=> ?_,fun k7=>⟨fun k8=> ?_,fun k8=> ?_⟩⟩
 ·have pre:=blk (a+2*s') k7 (by omega) (by omega)
  have m1:=hf3 _ _ _ _ pre
  exact⟨hp3 _ _ _ _ pre,⟨by omega,by omega,Int.dvd_add k3 (Int.dvd_refl _),k5.trans m1.sm,stp _ _ k7 (Or.inl rfl) (by omega) m1⟩,by omega⟩
 ·have pre:=blk n' (by omega) k8 (by omega)
  have m1:=hf3 _ _ _ _ pre
  refine⟨hp3 _ _ _ _ pre,⟨by omega,Or.inr (by omega),k5.trans m1.sm,fun q q1 q2 q3=> ?_⟩,by omega⟩
  exact stp _ _ (by omega) (Or.inr rfl) (by omega) m1 q q1 q2 (by rw [Int.mul_comm];exact q3) (Or.inl q2)
 ·refine⟨⟨by omega,Or.inr (by omega),k5,fun q q1 q2 q3=> ?_⟩,by omega⟩
  rw [Int.mul_comm]at q3
  by_cases c1:q+1<a
  ·exact k6 q q1 q2 q3 (Or.inl c1)
  ·by_cases c2:q+1=a
   ·rw [c2]at q3;exact absurd k3 q3
   ·exact k6 q q1 q2 q3 (Or.inr (wC ks (by omega) (by omega)))
theorem ah8 {p:Int×List aj×Unit→Bool} {f:Int×List aj×Unit→List aj×Unit} (hp:∀(n:Int) (d:List aj),Sh d→n=d.length→p (n,d,())=true)
  (hf:∀(n:Int) (d:List aj),Sh d→n=d.length→Sm d (f (n,d,())).1∧lT (f (n,d,())).1 0 n) (d:List aj) (hd:Sh d):
  R9 (std 0) p f (d,()) (fun y=>Sm d y.1∧lT y.1 0 d.length):=by
 have:=hf _ d hd rfl
 dsimp only [R9,Alg.cl,Alg.cg,Alg.rb,Alg.bd,Alg.l1,Tup.q,Tup.o]
 exact⟨hp _ d hd rfl,this⟩
end Go.TX.F
namespace Go.TX.F
open Go Go.AE Go.TX
def cf (l:List aj) (k:List Int):Int:=(l.map fun m=>if m.atoms=k then m.fZ else 0).sum
theorem jo (k:List Int):cf [] k=0:=rfl
theorem bE (m:aj) (l:List aj) (k:List Int):cf (m::l) k=(if m.atoms=k then m.fZ else 0)+cf l k:=by simp [cf]
theorem mH (a b:List aj) (k:List Int):cf (a++b) k=cf a k+cf b k:=by simp [cf]
theorem gJ {k:List Int}:∀ {l:List aj},(∀m∈l,m.atoms≠k)→cf l k=0
 | [],_=>rfl
 | m::l,h=>by rw [bE,if_neg (h m (by simp)),gJ (fun m hm=>h m (by simp [hm]))];rfl
theorem Sm.cf {a b:List aj} (h:Sm a b) (k:List Int):cf b k=cf a k:=h.sum _
def lt (a b:aj):Prop:=dZ a.atoms b.atoms<0
theorem lt.ne {a b:aj} (h:lt a b):a.atoms≠b.atoms:=fun e=>by unfold lt at h;rw [e,iD.2 rfl]at h;omega
structure Nf (o:List aj):Prop where
 ss:o.Pairwise lt
 co:∀m∈o,1≤m.fZ∧m.fZ≤65535
theorem Ve:∀ {o1 o2:List aj},Nf o1→Nf o2→(∀k,cf o1 k=cf o2 k)→o1=o2
 | [],[],_,_,_=>rfl
 | [],m::o,_,h2,h=>by
  have:=h m.atoms
  rw [bE,if_pos rfl,gJ (fun m' hm'=>((List.rel_of_pairwise_cons h2.ss hm').ne).symm),jo]at this
  have:=(h2.co m (by simp));omega
 | m::o,[],h1,_,h=>by
  have:=h m.atoms
  rw [bE,if_pos rfl,gJ (fun m' hm'=>((List.rel_of_pairwise_cons h1.ss hm').ne).symm),jo]at this
  have:=(h1.co m (by simp));omega
 | m1::o1,m2::o2,h1,h2,h=>by
  have c1:=h1.co m1 (by simp)
  have c2:=h2.co m2 (by simp)
  have z1:cf o1 m1.atoms=0:=gJ fun m' hm'=>((List.rel_of_pairwise_cons h1.ss hm').ne).symm
  have z2:cf o2 m2.atoms=0:=gJ fun m' hm'=>((List.rel_of_pairwise_cons h2.ss hm').ne).symm
  have tr:∀ {a b c:aj},lt a b→lt b c→lt a c:=fun g1 g2=>dA (le_of_lt g1) g2
  have e:m1.atoms=m2.atoms:=by
   by_cases g1:lt m1 m2
   ·have:=h m1.atoms
    rw [bE,if_pos rfl,z1,bE,if_neg (fun e=>g1.ne e.symm),gJ (fun m' hm'=>((tr g1 (List.rel_of_pairwise_cons h2.ss hm')).ne).symm)]at this
    omega
   ·by_cases g2:lt m2 m1
    ·have:=h m2.atoms
     rw [bE,if_neg (fun e=>g2.ne e.symm),gJ (fun m' hm'=>((tr g2 (List.rel_of_pairwise_cons h1.ss hm')).ne).symm),bE,if_pos rfl,z2]at this
     omega
    ·unfold lt at g1 g2
     rw [kM]at g2
     exact iD.1 (by omega)
  have ec:m1.fZ=m2.fZ:=by
   have:=h m1.atoms
   rw [bE,if_pos rfl,z1,bE,if_pos e.symm,e,z2]at this;omega
  have em:m1=m2:=by cases m1;cases m2;simp_all
  subst em
  refine congrArg _ (Ve ⟨h1.ss.tail,fun m hm=>h1.co m (by simp [hm])⟩ ⟨h2.ss.tail,fun m hm=>h2.co m (by simp [hm])⟩ (fun k=>by
   have:=h k;rw [bE,bE]at this;omega))
noncomputable def nf (l:List aj):List aj:= @dite _ (∃o,Nf o∧∀k,cf o k=cf l k%65536) (Classical.propDecidable _) (fun h=>Classical.choose h) (fun _=> [])
theorem Jr {l o:List aj} (h:Nf o) (h2:∀k,cf o k=cf l k%65536):nf l=o:=by
 have he:∃o,Nf o∧∀k,cf o k=cf l k%65536:=⟨o,h,h2⟩
 unfold nf;rw [dif_pos he]
 have:=Classical.choose_spec he
 exact Ve this.1 h (fun k=>(this.2 k).trans (h2 k).symm)
theorem OP {l l':List aj} (h:∀k,cf l k%65536=cf l' k%65536):nf l=nf l':=by
 unfold nf
 have:(fun o=>Nf o∧∀k,cf o k=cf l k%65536)=(fun o=>Nf o∧∀k,cf o k=cf l' k%65536):=by funext o;simp only [h]
 have e:(∃o,Nf o∧∀k,cf o k=cf l k%65536)=(∃o,Nf o∧∀k,cf o k=cf l' k%65536):=congrArg Exists this
 by_cases h1:∃o,Nf o∧∀k,cf o k=cf l k%65536
 ·rw [dif_pos h1,dif_pos (e▸h1)];congr 1
 ·rw [dif_neg h1,dif_neg (e▸h1)]
noncomputable def jZ (l:List aj):Bool×List aj:=(bp (aO (nf l)),if bp (aO (nf l))then nf l else [])
def Cb (l:List aj):Prop:=∀m∈l,0≤m.fZ∧m.fZ≤65535
theorem aoF {p1:List Int×List Int×Unit→Bool} {f1:List Int×List Int×Unit→Int×Unit} (hp1:∀a b,a.length<1000000000→p1 (a,b,())=true) (hf1:∀a b,a.length<1000000000→f1 (a,b,())=(dZ a b,()))
  {p2:List aj×Unit→Bool} {f2:List aj×Unit→Bool×Unit} (hp2:∀a,Sh a→p2 (a,())=true) (hf2:∀a,Sh a→f2 (a,())=(bp (aO a),()))
  {p3:Int×Unit→Bool} {f3:Int×Unit→Int×Unit} (hp3:∀a,p3 (a,())=true) (hf3:∀a,f3 (a,())=(a%65536,()))
  {p4:List Int×Unit→Bool} {f4:List Int×Unit→List Int×Unit} (hp4:∀a,a.length≤1073741824→p4 (a,())=true) (hf4:∀a,a.length≤1073741824→f4 (a,())=(a,()))
  {p5:List aj×Unit→Bool} {f5:List aj×Unit→List aj×Unit} (hp5:∀d,Sh d→p5 (d,())=true) (hf5:∀d,Sh d→Sm d (f5 (d,())).1∧lT (f5 (d,())).1 0 d.length)
  (l:List aj) (hl:Sh l) (hc:Cb l):Zk (std 0) p1 f1 p2 f2 p3 f3 p4 f4 p5 f5 (l,()) (fun y=>y.1=(jZ l).1∧y.2.2.1=(jZ l).2):=by
 obtain⟨s1,s2⟩:=hf5 l hl
 dsimp only [Zk,Alg.cl,Alg.cg,Alg.rb,Alg.bd,Alg.l1,Tup.q,Tup.o]
 simp (disch:=omega) only [RR,hp5 l hl]
 generalize (f5 (l,())).1=d at s1 s2 ⊢
 have hle:=s1.1
 have hs:=s1.sh hl
 have hlen:=hs.1
 have hcd:Cb d:=fun m hm=>hc m (s1.mem hm)
 refine aA (fun(y:Int×List aj×List aj×Unit)=>0≤y.1∧y.1≤d.length∧y.2.1=d∧Nf y.2.2.1∧y.2.2.1.length≤y.1∧(∀k,cf y.2.2.1 k=cf (d.take y.1.toNat) k%65536)∧(∀m∈y.2.2.1,m∈y.2.2.1→m.atoms.length<1000000000)
   ∧(y.1<d.length→(∀m∈y.2.2.1,lt m ((d).getD (y.1).toNat default))∧(∀m∈d.take y.1.toNat,lt m ((d).getD (y.1).toNat default)))) (fun y=>(d.length-y.1).toNat)
  ⟨by simp,by simp,rfl,⟨List.Pairwise.nil,fun m hm=>absurd hm (by simp)⟩,by simp,fun k=>by simp [cf],fun m hm=>absurd hm (by simp),fun _=>⟨fun m hm=>absurd hm (by simp),fun m hm=>absurd hm (by simp)⟩⟩ ?_
 rintro⟨(i:Int),(d':List aj),(o:List aj),⟨⟩⟩ hI
 dsimp only at hI ⊢
 obtain⟨h1,h2,rfl,h4,h5,h6,h7,h8⟩:=hI
 have ho:Sh o:=⟨by omega,fun m hm=>h7 m hm hm⟩
 simp (disch:=omega) only [RR,hp2 o ho,hf2 o ho]
 refine⟨fun h9=>⟨by omega,by omega,by omega,by omega,?_⟩,fun h9=> ?_⟩
 ·obtain⟨g1,g2⟩:=h8 h9
  have z:cf (d'.take i.toNat) ((d').getD (i).toNat default).atoms=0:=gJ fun m hm=>(g2 m hm).ne
  refine aA (fun(y:Int×Int×List aj×aj×List aj×Unit)=>i≤y.1∧y.1≤d'.length∧y.2.2.1=d'∧y.2.2.2.1=((d').getD (i).toNat default)∧y.2.2.2.2.1=o∧y.2.1=cf (d'.take y.1.toNat) ((d').getD (i).toNat default).atoms%65536
    ∧(∀k,k≠((d').getD (i).toNat default).atoms→cf (d'.take y.1.toNat) k=cf (d'.take i.toNat) k)∧(∀m∈d'.take y.1.toNat,lt m ((d').getD (i).toNat default)∨m.atoms=((d').getD (i).toNat default).atoms)) (fun y=>(d'.length-y.1).toNat)
   ⟨by simp,by simp;omega,rfl,rfl,rfl,by rw [z];rfl,fun k _=>rfl,fun m hm=>Or.inl (g2 m hm)⟩ ?_
  rintro⟨(j:Int),(c:Int),(d'':List aj),(fi:aj),(o':List aj),⟨⟩⟩ hI
  dsimp only at hI ⊢
  obtain⟨k1,k2,rfl,rfl,rfl,k6,k7,k8⟩:=hI
  have hc0:0≤c∧c<65536:=by omega
  have hcj:j<d''.length→0≤((d'').getD (j).toNat default).fZ∧((d'').getD (j).toNat default).fZ≤65535:=fun h=>hcd _ (lD (by omega) h)
  simp (disch:=omega) only [RR,hp1 _ _ (hs.at _),hf1 _ _ (hs.at _),hp3,hf3,hp4 _ (Nat.le_trans (Nat.le_of_lt (hs.at _)) (by omega)),hf4 _ (Nat.le_trans (Nat.le_of_lt (hs.at _)) (by omega))]
  refine⟨by omega,by omega,by omega,by omega,fun⟨m1,m2⟩=> ?_,fun m1=>⟨fun m2=>⟨?_,?_,?_⟩,fun m2=>⟨?_,?_⟩⟩⟩
  ·have e:=iD.1 m2
   have:=hcj m1
   rw [w64 (by omega) (by omega)]
   have ts:d''.take (j+1).toNat=d''.take j.toNat++ [((d'').getD (j).toNat default)]:=(iR (by omega) m1 rfl).symm
   refine⟨by omega,by omega,by omega,by omega,⟨by omega,by omega,?_,fun k hk=> ?_,fun m hm=> ?_⟩,by omega⟩
   ·rw [ts,mH,bE,if_pos e.symm,jo,k6];omega
   ·rw [ts,mH,bE,if_neg (fun h=>hk (by rw [e,h])),jo,k7 k hk];omega
   ·rw [ts,List.mem_append,List.mem_singleton]at hm
    rcases hm with hm | hm
    ·exact k8 m hm
    ·right;rw [hm,e]
  all_goals
   have hb:j<d''.length→lt ((d'').getD (i).toNat default) ((d'').getD (j).toNat default):=fun hj=>by
    rw [decide_eq_true hj,Bool.true_and,decide_eq_false_iff_not]at m1
    have:=s2 i j h1 k1 (by omega)
    unfold le at this;unfold lt;omega
   have hij:i<j:=by
    by_cases hj:j<d''.length
    ·by_cases e:i=j
     ·have:=(hb hj).ne;rw [e]at this;exact absurd rfl this
     ·omega
    ·omega
  ·simp only [List.length_append,List.length_cons,List.length_nil];omega
  ·have co:∀k,cf (o'++ [⟨c,((d'').getD (i).toNat default).atoms⟩]) k=cf (d''.take j.toNat) k%65536:=fun k=>by
    rw [mH,bE,jo]
    dsimp only
    by_cases hk:((d'').getD (i).toNat default).atoms=k
    ·subst hk
     rw [if_pos rfl,gJ (fun m hm=>(g1 m hm).ne),k6];omega
    ·rw [if_neg hk,k7 k (fun e=>hk e.symm),h6 k];omega
   refine⟨by omega,by omega,⟨?_,?_⟩,?_,co,?_,fun hj=>⟨?_,?_⟩⟩
   ·rw [List.pairwise_append]
    exact⟨h4.ss,List.pairwise_singleton _ _,fun a ha b hb=>by rw [List.mem_singleton]at hb;subst hb;exact g1 a ha⟩
   ·intro m hm
    rw [List.mem_append,List.mem_singleton]at hm
    rcases hm with hm | rfl
    ·exact h4.co m hm
    ·dsimp only;omega
   ·simp only [List.length_append,List.length_cons,List.length_nil];omega
   ·intro m hm _
    rw [List.mem_append,List.mem_singleton]at hm
    rcases hm with hm | rfl
    ·exact h7 m hm hm
    ·exact hs.at _
   ·intro m hm
    rw [List.mem_append,List.mem_singleton]at hm
    rcases hm with hm | rfl
    ·exact dA (le_of_lt (g1 m hm)) (hb hj)
    ·exact hb hj
   ·intro m hm
    rcases k8 m hm with k | k
    ·exact dA (le_of_lt k) (hb hj)
    ·have:=hb hj;unfold lt at this ⊢;rw [k];exact this
  ·omega
  ·refine⟨by omega,by omega,h4,by omega,fun k=> ?_,h7,fun hj=>⟨?_,?_⟩⟩
   ·by_cases hk:((d'').getD (i).toNat default).atoms=k
    ·subst hk
     rw [gJ (fun m hm=>(g1 m hm).ne)];omega
    ·rw [k7 k (fun e=>hk e.symm),h6 k]
   ·intro m hm
    exact dA (le_of_lt (g1 m hm)) (hb hj)
   ·intro m hm
    rcases k8 m hm with k | k
    ·exact dA (le_of_lt k) (hb hj)
    ·have:=hb hj;unfold lt at this ⊢;rw [k];exact this
  ·omega
 ·have e:nf l=o:=Jr h4 (fun k=>by rw [h6 k,List.take_of_length_le (by omega),s1.cf k])
  unfold jZ
  rw [e]
  refine⟨fun h=> ?_,fun h=> ?_⟩
  ·rw [h];exact⟨rfl,by simp⟩
  ·rw [h];exact⟨rfl,by simp⟩
end Go.TX.F
namespace Go.TX.F
open Go Go.AE Go.TX
theorem ah9 (n:Int) (h1:0≤n) (h2:n≤1073741824):Sb (std 0) (n,()) (fun y=>y=([],())):=by
 dsimp only [Sb,Alg.cl,Alg.cg,Alg.rb,Alg.bd,Alg.l1,Tup.q,Tup.o]
 simp (disch:=omega) only [RR]
 refine⟨fun h=>by omega,fun _ h=>⟨by omega,by omega,by rw [List.length_replicate];omega,by omega,by omega,by omega,by omega,by omega,?_⟩⟩
 rfl
theorem aoG {p:Int×Unit→Bool} {f:Int×Unit→List aj×Unit} (hp:∀n:Int,0≤n→n≤1073741824→p (n,())=true) (hf:∀n:Int,0≤n→n≤1073741824→f (n,())=([],()))
  (a b:List aj) (ha:a.length≤100000000) (hb:b.length≤100000000):Zl (std 0) p f ([a,b],()) (fun y=>y=(a++b,())):=by
 dsimp only [Zl,Alg.cl,Alg.cg,Alg.rb,Alg.bd,Alg.l1,Tup.q,Tup.o]
 refine aA (fun(y:List (List aj)×Int×List (List aj)×Int×Int×Unit)=>y.1=[a,b]∧y.2.2.1=[a,b]∧y.2.2.2.1=2∧((y.2.2.2.2.1=0∧y.2.1=0)∨(y.2.2.2.2.1=1∧y.2.1=a.length)∨(y.2.2.2.2.1=2∧y.2.1=a.length+b.length))) (fun y=>(2-y.2.2.2.2.1).toNat)
  ⟨rfl,rfl,rfl,Or.inl ⟨rfl,rfl⟩⟩ ?_
 rintro⟨(l:List (List aj)),(s:Int),(l2:List (List aj)),(n:Int),(i:Int),⟨⟩⟩ hI
 dsimp only at hI ⊢
 obtain⟨rfl,rfl,rfl,h⟩:=hI
 simp (disch:=omega) only [RR]
 have g0: [a,b].getD (Int.toNat 0) default=a:=rfl
 have g1: [a,b].getD (Int.toNat 1) default=b:=rfl
 have gl:([a,b].length:Int)=2:=rfl
 refine⟨fun hi=> ?_,fun hi=> ?_⟩
 ·rcases h with⟨rfl,rfl⟩ | ⟨rfl,rfl⟩ | ⟨rfl,rfl⟩
  ·rw [g0,w64 (by omega) (by omega)]
   exact⟨by omega,by omega,fun h=>by omega,fun h=>⟨Or.inr (Or.inl ⟨by omega,by omega⟩),by omega⟩⟩
  ·rw [g1,w64 (by omega) (by omega)]
   exact⟨by omega,by omega,fun h=>by omega,fun h=>⟨Or.inr (Or.inr ⟨by omega,by omega⟩),by omega⟩⟩
  ·omega
 ·have hs:0≤s∧s≤200000000:=by omega
  refine⟨hp s (by omega) (by omega),?_⟩
  rw [hf s (by omega) (by omega)]
  refine aA (fun(y:List (List aj)×Int×Int×List aj×Unit)=>y.1=[a,b]∧y.2.1=2∧((y.2.2.1=0∧y.2.2.2.1=[])∨(y.2.2.1=1∧y.2.2.2.1=a)∨(y.2.2.1=2∧y.2.2.2.1=a++b))) (fun y=>(2-y.2.2.1).toNat)
   ⟨rfl,rfl,Or.inl ⟨rfl,rfl⟩⟩ ?_
  rintro⟨(l:List (List aj)),(n:Int),(j:Int),(o:List aj),⟨⟩⟩ hI
  dsimp only at hI ⊢
  obtain⟨rfl,rfl,h3⟩:=hI
  simp (disch:=omega) only [RR]
  refine⟨fun hj=> ?_,fun hj=> ?_⟩
  ·rcases h3 with⟨rfl,rfl⟩ | ⟨rfl,rfl⟩ | ⟨rfl,rfl⟩
   ·rw [g0]
    exact⟨by omega,by omega,by simp only [List.length_nil];omega,Or.inr (Or.inl ⟨by omega,rfl⟩),by omega⟩
   ·rw [g1]
    exact⟨by omega,by omega,by omega,Or.inr (Or.inr ⟨by omega,rfl⟩),by omega⟩
   ·omega
  ·rcases h3 with⟨rfl,rfl⟩ | ⟨rfl,rfl⟩ | ⟨rfl,rfl⟩
   ·omega
   ·omega
   ·rfl
theorem ZX (n:Int) (h1:0≤n) (h2:n≤1073741824):Sc (std 0) (n,()) (fun y=>y=([],())):=by
 dsimp only [Sc,Alg.cl,Alg.cg,Alg.rb,Alg.bd,Alg.l1,Tup.q,Tup.o]
 simp (disch:=omega) only [RR]
 refine⟨fun h=>by omega,fun _ h=>⟨by omega,by omega,by rw [List.length_replicate];omega,by omega,by omega,by omega,by omega,by omega,?_⟩⟩
 rfl
theorem aia {p:Int×Unit→Bool} {f:Int×Unit→List Int×Unit} (hp:∀n:Int,0≤n→n≤1073741824→p (n,())=true) (hf:∀n:Int,0≤n→n≤1073741824→f (n,())=([],()))
  (a b:List Int) (ha:a.length≤100000000) (hb:b.length≤100000000):Sd (std 0) p f ([a,b],()) (fun y=>y=(a++b,())):=by
 dsimp only [Sd,Alg.cl,Alg.cg,Alg.rb,Alg.bd,Alg.l1,Tup.q,Tup.o]
 refine aA (fun(y:List (List Int)×Int×List (List Int)×Int×Int×Unit)=>y.1=[a,b]∧y.2.2.1=[a,b]∧y.2.2.2.1=2∧((y.2.2.2.2.1=0∧y.2.1=0)∨(y.2.2.2.2.1=1∧y.2.1=a.length)∨(y.2.2.2.2.1=2∧y.2.1=a.length+b.length))) (fun y=>(2-y.2.2.2.2.1).toNat)
  ⟨rfl,rfl,rfl,Or.inl ⟨rfl,rfl⟩⟩ ?_
 rintro⟨(l:List (List Int)),(s:Int),(l2:List (List Int)),(n:Int),(i:Int),⟨⟩⟩ hI
 dsimp only at hI ⊢
 obtain⟨rfl,rfl,rfl,h⟩:=hI
 simp (disch:=omega) only [RR]
 have g0: [a,b].getD (Int.toNat 0) default=a:=rfl
 have g1: [a,b].getD (Int.toNat 1) default=b:=rfl
 have gl:([a,b].length:Int)=2:=rfl
 refine⟨fun hi=> ?_,fun hi=> ?_⟩
 ·rcases h with⟨rfl,rfl⟩ | ⟨rfl,rfl⟩ | ⟨rfl,rfl⟩
  ·rw [g0,w64 (by omega) (by omega)]
   exact⟨by omega,by omega,fun h=>by omega,fun h=>⟨Or.inr (Or.inl ⟨by omega,by omega⟩),by omega⟩⟩
  ·rw [g1,w64 (by omega) (by omega)]
   exact⟨by omega,by omega,fun h=>by omega,fun h=>⟨Or.inr (Or.inr ⟨by omega,by omega⟩),by omega⟩⟩
  ·omega
 ·have hs:0≤s∧s≤200000000:=by omega
  refine⟨hp s (by omega) (by omega),?_⟩
  rw [hf s (by omega) (by omega)]
  refine aA (fun(y:List (List Int)×Int×Int×List Int×Unit)=>y.1=[a,b]∧y.2.1=2∧((y.2.2.1=0∧y.2.2.2.1=[])∨(y.2.2.1=1∧y.2.2.2.1=a)∨(y.2.2.1=2∧y.2.2.2.1=a++b))) (fun y=>(2-y.2.2.1).toNat)
   ⟨rfl,rfl,Or.inl ⟨rfl,rfl⟩⟩ ?_
  rintro⟨(l:List (List Int)),(n:Int),(j:Int),(o:List Int),⟨⟩⟩ hI
  dsimp only at hI ⊢
  obtain⟨rfl,rfl,h3⟩:=hI
  simp (disch:=omega) only [RR]
  refine⟨fun hj=> ?_,fun hj=> ?_⟩
  ·rcases h3 with⟨rfl,rfl⟩ | ⟨rfl,rfl⟩ | ⟨rfl,rfl⟩
   ·rw [g0]
    exact⟨by omega,by omega,by simp only [List.length_nil];omega,Or.inr (Or.inl ⟨by omega,rfl⟩),by omega⟩
   ·rw [g1]
    exact⟨by omega,by omega,by omega,Or.inr (Or.inr ⟨by omega,rfl⟩),by omega⟩
   ·omega
  ·rcases h3 with⟨rfl,rfl⟩ | ⟨rfl,rfl⟩ | ⟨rfl,rfl⟩
   ·omega
   ·omega
   ·rfl
theorem mOk.le {m:aj} (h:mOk m):m.atoms.length≤4:=h.2.1
theorem aO.at {p:List aj} (h:aO p) {m:aj} (hm:m∈p):mOk m:=by
 obtain⟨i,hi,rfl⟩:=List.getElem_of_mem hm
 have:=(h.1 i (by omega) (by omega)).1
 rw [show(i:Int).toNat=i from rfl,getD_lt hi]at this;exact this
theorem aO.len {p:List aj} (h:aO p):p.length≤12:=h.2.1
noncomputable def og (a b:List aj):Bool×List aj:=if bp (aO a)&&bp (aO b)then jZ (a++b)else(false,[])
theorem aoH {p1:List aj×Unit→Bool} {f1:List aj×Unit→Bool×Unit} (hp1:∀a,Sh a→p1 (a,())=true) (hf1:∀a,Sh a→f1 (a,())=(bp (aO a),()))
  {p2:List aj×Unit→Bool} {f2:List aj×Unit→Bool×List aj×List aj×Unit} (hp2:∀a,Sh a→Cb a→p2 (a,())=true) (hf2:∀a,Sh a→Cb a→(f2 (a,())).1=(jZ a).1∧(f2 (a,())).2.2.1=(jZ a).2)
  {p3:List (List aj)×Unit→Bool} {f3:List (List aj)×Unit→List aj×Unit} (hp3:∀a b:List aj,a.length≤100000000→b.length≤100000000→p3 ([a,b],())=true) (hf3:∀a b:List aj,a.length≤100000000→b.length≤100000000→f3 ([a,b],())=(a++b,()))
  (a b:List aj) (ha:Sh a) (hb:Sh b):Zm (std 0) p1 f1 p2 f2 p3 f3 (a,b,()) (fun y=>y=((og a b).1,(og a b).2,())):=by
 dsimp only [Zm,Alg.cl,Alg.cg,Alg.rb,Alg.bd,Alg.l1,Tup.q,Tup.o]
 simp (disch:=omega) only [RR,hp1 a ha,hf1 a ha,hp1 b hb,hf1 b hb,bR,uU]
 unfold og
 refine⟨fun h=> ?_,fun⟨h1,h2⟩=> ?_⟩
 ·rw [if_neg]
  rw [Bool.and_eq_true,bR,bR];rintro⟨g1,g2⟩
  rcases h with h | h
  ·exact h g1
  ·exact h g2
 ·have l1:=h1.len
  have l2:=h2.len
  rw [hp3 a b (by omega) (by omega),hf3 a b (by omega) (by omega)]
  have hs:Sh (a++b):=⟨by rw [List.length_append];omega,fun m hm=>by
   rw [List.mem_append]at hm
   rcases hm with hm | hm
   ·exact ha.2 m hm
   ·exact hb.2 m hm⟩
  have hc:Cb (a++b):=fun m hm=>by
   rw [List.mem_append]at hm
   rcases hm with hm | hm
   ·have:=(h1.at hm).1;omega
   ·have:=(h2.at hm).1;omega
  obtain⟨g1,g2⟩:=hf2 _ hs hc
  refine⟨rfl,hp2 _ hs hc,?_⟩
  rw [if_pos (by rw [bO h1,bO h2];rfl),g1,g2]
def dJ (l:List Int):List Int:=l.mergeSort fun x y=>decide (x≤y)
theorem wD (l:List Int):(dJ l).length=l.length:=List.length_mergeSort l
def mulM (m n:aj):aj:=⟨m.fZ*n.fZ%65536,dJ (m.atoms++n.atoms)⟩
def prods (a b:List aj):List aj:=a.flatMap fun m=>b.map (mulM m)
theorem Sz (a b:List aj) (m:aj):prods (a++ [m]) b=prods a b++b.map (mulM m):=by simp [prods]
noncomputable def lF (a b:List aj):Bool×List aj:=if bp (aO a)&&bp (aO b)then jZ (prods a b)else(false,[])
theorem Vf {a b:Int} (h1:0≤a) (h2:a≤65535) (h3:0≤b) (h4:b≤65535):0≤a*b∧a*b≤65535*65535:=⟨Int.mul_nonneg h1 h3,Int.mul_le_mul h2 h4 h3 (by omega)⟩
theorem aoI {p1:List aj×Unit→Bool} {f1:List aj×Unit→Bool×Unit} (hp1:∀a,Sh a→p1 (a,())=true) (hf1:∀a,Sh a→f1 (a,())=(bp (aO a),()))
  {p0:Int×Unit→Bool} {f0:Int×Unit→Int×Unit} (hp0:∀a,p0 (a,())=true) (hf0:∀a,f0 (a,())=(a%65536,()))
  {p2:List aj×Unit→Bool} {f2:List aj×Unit→Bool×List aj×List aj×Unit} (hp2:∀a,Sh a→Cb a→p2 (a,())=true) (hf2:∀a,Sh a→Cb a→(f2 (a,())).1=(jZ a).1∧(f2 (a,())).2.2.1=(jZ a).2)
  {p3:List (List Int)×Unit→Bool} {f3:List (List Int)×Unit→List Int×Unit} (hp3:∀a b:List Int,a.length≤100000000→b.length≤100000000→p3 ([a,b],())=true) (hf3:∀a b:List Int,a.length≤100000000→b.length≤100000000→f3 ([a,b],())=(a++b,()))
  {p4:List Int×Unit→Bool} {f4:List Int×Unit→List Int×Unit} (hp4:∀a:List Int,a.length≤8→p4 (a,())=true) (hf4:∀a:List Int,a.length≤8→f4 (a,())=(dJ a,()))
  (a b:List aj) (ha:Sh a) (hb:Sh b):Zp (std 0) p1 f1 p0 f0 p2 f2 p3 f3 p4 f4 (a,b,()) (fun y=>y=((lF a b).1,(lF a b).2,())):=by
 dsimp only [Zp,Alg.cl,Alg.cg,Alg.rb,Alg.bd,Alg.l1,Tup.q,Tup.o]
 simp (disch:=omega) only [RR,hp1 a ha,hf1 a ha,hp1 b hb,hf1 b hb,bR,uU]
 unfold lF
 refine⟨fun h=> ?_,fun⟨h1,h2⟩=> ?_⟩
 ·rw [if_neg]
  rw [Bool.and_eq_true,bR,bR];rintro⟨g1,g2⟩
  rcases h with h | h
  ·exact h g1
  ·exact h g2
 have l1:=h1.len
 have l2:=h2.len
 rw [if_pos (by rw [bO h1,bO h2];rfl)]
 have mm:∀i j:Int,0≤i→i<a.length→0≤j→j<b.length→mOk ((a).getD (i).toNat default)∧mOk ((b).getD (j).toNat default):=fun i j i1 i2 j1 j2=>⟨h1.at (lD i1 i2),h2.at (lD j1 j2)⟩
 refine aA (fun(y:List aj×Int×Int×List aj×List aj×Unit)=>y.1=a∧y.2.1=a.length∧0≤y.2.2.1∧y.2.2.1≤a.length∧y.2.2.2.1=b∧y.2.2.2.2.1=prods (a.take y.2.2.1.toNat) b∧y.2.2.2.2.1.length≤12*y.2.2.1∧Sh y.2.2.2.2.1∧Cb y.2.2.2.2.1) (fun y=>(a.length-y.2.2.1).toNat)
  ⟨rfl,rfl,by simp,by simp,rfl,rfl,by simp,⟨by simp,fun m hm=>absurd hm (by simp)⟩,fun m hm=>absurd hm (by simp)⟩ ?_
 rintro⟨(a':List aj),(n:Int),(i:Int),(b':List aj),(o:List aj),⟨⟩⟩ hI
 dsimp only at hI ⊢
 obtain⟨rfl,rfl,h3,h4,rfl,h5,h6,h7,h8⟩:=hI
 simp (disch:=omega) only [RR]
 refine⟨fun h9=>⟨by omega,by omega,?_⟩,fun h9=> ?_⟩
 ·refine aA (fun(y:List aj×Int×Int×List aj×Int×Int×List aj×List aj×aj×Unit)=>y.1=a'∧y.2.1=a'.length∧y.2.2.1=i∧y.2.2.2.1=b'∧y.2.2.2.2.1=b'.length∧0≤y.2.2.2.2.2.1∧y.2.2.2.2.2.1≤b'.length∧y.2.2.2.2.2.2.1=b'∧y.2.2.2.2.2.2.2.2.1=((a').getD (i).toNat default)
    ∧y.2.2.2.2.2.2.2.1=o++(b'.take y.2.2.2.2.2.1.toNat).map (mulM ((a').getD (i).toNat default))∧Sh y.2.2.2.2.2.2.2.1∧Cb y.2.2.2.2.2.2.2.1) (fun y=>(b'.length-y.2.2.2.2.2.1).toNat)
   ⟨rfl,rfl,rfl,rfl,rfl,by simp,by simp,rfl,rfl,by simp,h7,h8⟩ ?_
  rintro⟨(a'':List aj),(n:Int),(i':Int),(b'':List aj),(nb:Int),(j:Int),(b3:List aj),(o':List aj),(m:aj),⟨⟩⟩ hI
  dsimp only at hI ⊢
  obtain⟨rfl,rfl,rfl,rfl,rfl,k1,k2,rfl,rfl,k3,k4,k5⟩:=hI
  have lo:(o'.length:Int)≤12*i'+j:=by
   rw [k3,List.length_append,List.length_map];have:=List.length_take_le j.toNat b3;omega
  by_cases hj:j<b3.length
  ·obtain⟨m1,m2⟩:=mm i' j h3 h9 k1 hj
   have e1:=m1.le
   have e2:=m2.le
   have la:(((a'').getD (i').toNat default).atoms++((b3).getD (j).toNat default).atoms).length≤8:=by rw [List.length_append];omega
   have hm:=Vf (show 0≤((a'').getD (i').toNat default).fZ by have:=m1.1;omega) (by have:=m1.1;omega) (show 0≤((b3).getD (j).toNat default).fZ by have:=m2.1;omega) (by have:=m2.1;omega)
   simp (disch:=omega) only [RR,hp3 ((a'').getD (i').toNat default).atoms ((b3).getD (j).toNat default).atoms (by omega) (by omega),hf3 ((a'').getD (i').toNat default).atoms ((b3).getD (j).toNat default).atoms (by omega) (by omega),hp4 _ la,hf4 _ la,hp0,hf0]
   refine⟨fun _=>⟨by omega,by omega,by simp only [List.length_cons,List.length_nil];omega,⟨by omega,by omega,?_,⟨?_,?_⟩,?_⟩,by omega⟩,fun h=>by omega⟩
   ·rw [←iR (d:=default) k1 hj rfl,List.map_append,k3,List.append_assoc];rfl
   ·rw [List.length_append];simp only [List.length_cons,List.length_nil];omega
   ·intro m hm
    rw [List.mem_append,List.mem_singleton]at hm
    rcases hm with hm | rfl
    ·exact k4.2 m hm
    ·dsimp only;rw [wD];omega
   ·intro m hm
    rw [List.mem_append,List.mem_singleton]at hm
    rcases hm with hm | rfl
    ·exact k5 m hm
    ·dsimp only;omega
  ·simp (disch:=omega) only [RR]
   refine⟨fun h=>absurd h hj,fun _=>⟨⟨by omega,by omega,?_,by omega,k4,k5⟩,by omega⟩⟩
   rw [←iR (d:=default) h3 h9 rfl,Sz,←h5,k3,List.take_of_length_le (by omega)]
 ·obtain⟨g1,g2⟩:=hf2 _ h7 h8
  refine⟨hp2 _ h7 h8,?_⟩
  rw [g1,g2,h5,List.take_of_length_le (by omega)]
noncomputable def iM (a:List aj) (n:Int):List aj:=if bp (aO a)&&inB n 0 65535 then(lF a (aP n)).2 else []
theorem Js (n:Int):Sh (aP n):=by
 unfold aP;split
 ·exact⟨by simp,fun m hm=>by rw [List.mem_singleton]at hm;subst hm;simp⟩
 ·exact⟨by simp,fun m hm=>absurd hm (by simp)⟩
theorem aoJ {p1:List aj×Unit→Bool} {f1:List aj×Unit→Bool×Unit} (hp1:∀a,Sh a→p1 (a,())=true) (hf1:∀a,Sh a→f1 (a,())=(bp (aO a),()))
  {p2:Int×Unit→Bool} {f2:Int×Unit→List aj×Unit} (hp2:∀n,p2 (n,())=true) (hf2:∀n,f2 (n,())=(aP n,()))
  {p3:Int×Unit→Bool} {f3:Int×Unit→Bool×Unit} (hp3:∀a,p3 (a,())=true) (hf3:∀a,f3 (a,())=(inB a 0 65535,()))
  {p4:List aj×List aj×Unit→Bool} {f4:List aj×List aj×Unit→Bool×List aj×Unit} (hp4:∀a b,Sh a→Sh b→p4 (a,b,())=true) (hf4:∀a b,Sh a→Sh b→f4 (a,b,())=((lF a b).1,(lF a b).2,()))
  (a:List aj) (n:Int) (ha:Sh a):Zq (std 0) p1 f1 p2 f2 p3 f3 p4 f4 (a,n,()) (fun y=>y=(iM a n,())):=by
 dsimp only [Zq,Alg.cl,Alg.cg,Alg.rb,Alg.bd,Alg.l1,Tup.q,Tup.o]
 simp (disch:=omega) only [RR,hp1 a ha,hf1 a ha,hp2,hf2,hp3,hf3,hp4 a _ ha (Js n),hf4 a _ ha (Js n)]
 unfold iM
 refine⟨fun h=> ?_,fun⟨h1,h2⟩=> ?_⟩
 ·rw [if_neg];rw [Bool.and_eq_true];rintro⟨g1,g2⟩
  rcases h with h | h
  ·rw [g1]at h;cases h
  ·rw [g2]at h;cases h
 ·rw [h1,h2];rfl
end Go.TX.F
namespace Go.TX.F
open Go Go.AE Go.TX
noncomputable def Cw (op:Int) (x y:List aj):List aj×Bool:=
 if(dL x).2&& (dL y).2 then(aP (wdo op (dL x).1 (dL y).1),true)
 else if dP x y=0∧op=4 then(x,true)
 else if dP x y=0 then([],true)
 else if(dL x).2 then
  (if op=4∧(dL x).1=0 then([],true)else if(op=4∧(dL x).1=65535)∨(op=5∧(dL x).1=0)then(y,true)else([],false))
 else if(dL y).2 then
  (if op=4∧(dL y).1=0 then([],true)else if(op=4∧(dL y).1=65535)∨(op=5∧(dL y).1=0)then(x,true)else([],false))
 else([],false)
noncomputable def fP (op:Int) (x y:List aj):List aj×Bool:=
 if op=1 then((og x y).2,(og x y).1)else if op=2 then((og x (iM y 65535)).2,(og x (iM y 65535)).1)else if op=3 then((lF x y).2,(lF x y).1)else Cw op x y
theorem aO.sh {l:List aj}:aO l→Sh l:=fun h=>⟨by have:=h.len;omega,fun m hm=>by have:=(h.at hm).le;omega⟩
theorem acJ (l:List aj):Sh (jZ l).2:=by
 unfold jZ
 by_cases h:aO (nf l)
 ·rw [bO h];exact h.sh
 ·rw [iB h];exact⟨by simp,fun m hm=>absurd hm (by simp)⟩
theorem nN:Sh []:=⟨by simp,fun m hm=>absurd hm (by simp)⟩
theorem acK (a b:List aj):Sh (lF a b).2:=by unfold lF;split;exact acJ _;exact nN
theorem Jt (a:List aj) (n:Int):Sh (iM a n):=by unfold iM;split;exact acK _ _;exact nN
theorem aoK {p1:List aj×List aj×Unit→Bool} {f1:List aj×List aj×Unit→Bool×Unit} (hp1:∀a b,Sh a→p1 (a,b,())=true) (hf1:∀a b,Sh a→f1 (a,b,())=(decide (dP a b=0),()))
  {p2:Int×Unit→Bool} {f2:Int×Unit→List aj×Unit} (hp2:∀n,p2 (n,())=true) (hf2:∀n,f2 (n,())=(aP n,()))
  {p3:Int×Int×Int×Unit→Bool} {f3:Int×Int×Int×Unit→Int×Unit} (hp3:∀op a b,p3 (op,a,b,())=true) (hf3:∀op a b,f3 (op,a,b,())=(wdo op a b,()))
  {p4:List aj×List aj×Unit→Bool} {f4:List aj×List aj×Unit→Bool×List aj×Unit} (hp4:∀a b,Sh a→Sh b→p4 (a,b,())=true) (hf4:∀a b,Sh a→Sh b→f4 (a,b,())=((og a b).1,(og a b).2,()))
  {p5:List aj×List aj×Unit→Bool} {f5:List aj×List aj×Unit→Bool×List aj×Unit} (hp5:∀a b,Sh a→Sh b→p5 (a,b,())=true) (hf5:∀a b,Sh a→Sh b→f5 (a,b,())=((lF a b).1,(lF a b).2,()))
  {p6:List aj×Int×Unit→Bool} {f6:List aj×Int×Unit→List aj×Unit} (hp6:∀a n,Sh a→p6 (a,n,())=true) (hf6:∀a n,Sh a→f6 (a,n,())=(iM a n,()))
  {p7:List aj×Unit→Bool} {f7:List aj×Unit→Int×Bool×Unit} (hp7:∀a,Sh a→p7 (a,())=true) (hf7:∀a,Sh a→f7 (a,())=((dL a).1,(dL a).2,()))
  (op:Int) (x y:List aj) (hx:Sh x) (hy:Sh y):Zu (std 0) p1 f1 p2 f2 p3 f3 p4 f4 p5 f5 p6 f6 p7 f7 (op,x,y,()) (fun z=>z=((fP op x y).1,(fP op x y).2,())):=by
 dsimp only [Zu,Alg.cl,Alg.cg,Alg.rb,Alg.bd,Alg.l1,Tup.q,Tup.o]
 simp (disch:=omega) only [RR,hp1 x y hx,hf1 x y hx,hp2,hf2,hp3,hf3,hp4 x y hx hy,hf4 x y hx hy,hp4 x _ hx (Jt y 65535),hf4 x _ hx (Jt y 65535),hp5 x y hx hy,hf5 x y hx hy,hp6 y _ hy,hf6 y _ hy,hp7 x hx,hf7 x hx,hp7 y hy,hf7 y hy]
 unfold fP
 refine⟨fun h=>by rw [if_pos h],fun h=>⟨fun h1=>by rw [if_neg h,if_pos h1],fun h1=>⟨fun h2=>by rw [if_neg h,if_neg h1,if_pos h2],fun h2=> ?_⟩⟩⟩
 rw [if_neg h,if_neg h1,if_neg h2]
 unfold Cw
 generalize dL x=nx
 generalize dL y=ny
 obtain⟨n,bn⟩:=nx
 obtain⟨m,bm⟩:=ny
 dsimp only
 by_cases e:dP x y=0<;>by_cases o4:op=4<;>cases bn<;>cases bm<;>simp [e,o4]
 ·by_cases c:m=0<;>by_cases c2:m=65535<;>simp [c,c2]
 ·by_cases c:n=0<;>by_cases c2:n=65535<;>simp [c,c2]
 ·by_cases c:op=5<;>by_cases c2:m=0<;>simp [c,c2]
 ·by_cases c:op=5<;>by_cases c2:n=0<;>simp [c,c2]
noncomputable def tDo (t:List Atom) (op:Int) (x y:List aj):List Atom×List aj:=
 if(fP op x y).2 then(t,(fP op x y).1)else
 if op≠2∧0<dP x y then(if(bf t ⟨4,op,y,x⟩).2<0 then([],[])else((bf t ⟨4,op,y,x⟩).1,dz (bf t ⟨4,op,y,x⟩).2))
 else(if(bf t ⟨4,op,x,y⟩).2<0 then([],[])else((bf t ⟨4,op,x,y⟩).1,dz (bf t ⟨4,op,x,y⟩).2))
noncomputable def tOk (t:List Atom) (op:Int) (x y:List aj):Bool:=(fP op x y).2 || !decide ((if op≠2∧0<dP x y then(bf t ⟨4,op,y,x⟩).2 else(bf t ⟨4,op,x,y⟩).2)<0)
theorem aoL {p1:List aj×List aj×Unit→Bool} {f1:List aj×List aj×Unit→Int×Unit} (hp1:∀a b,Sh a→p1 (a,b,())=true) (hf1:∀a b,Sh a→f1 (a,b,())=(dP a b,()))
  {p2:Int×List aj×List aj×Unit→Bool} {f2:Int×List aj×List aj×Unit→List aj×Bool×Unit} (hp2:∀op x y,Sh x→Sh y→p2 (op,x,y,())=true) (hf2:∀op x y,Sh x→Sh y→f2 (op,x,y,())=((fP op x y).1,(fP op x y).2,()))
  {p3:List Atom×Atom×Unit→Bool} {f3:List Atom×Atom×Unit→List Atom×Int×Unit} (hp3:∀t a,t.length<1000000000→ShA a→p3 (t,a,())=true) (hf3:∀t a,t.length<1000000000→ShA a→f3 (t,a,())=((bf t a).1,(bf t a).2,()))
  {p4:Int×Unit→Bool} {f4:Int×Unit→List aj×Unit} (hp4:∀n,p4 (n,())=true) (hf4:∀n,f4 (n,())=(dz n,()))
  (t:List Atom) (op:Int) (x y:List aj) (ht:t.length<1000000000) (hx:Sh x) (hy:Sh y):Zv (std 0) p1 f1 p2 f2 p3 f3 p4 f4 (t,op,x,y,()) (fun z=>z.1=(tDo t op x y).1∧z.2.1=(tDo t op x y).2∧z.2.2.1=tOk t op x y):=by
 have s1:ShA ⟨4,op,x,y⟩:=⟨hx,hy⟩
 have s2:ShA ⟨4,op,y,x⟩:=⟨hy,hx⟩
 dsimp only [Zv,Alg.cl,Alg.cg,Alg.rb,Alg.bd,Alg.l1,Tup.q,Tup.o]
 simp (disch:=omega) only [RR,hp1 x y hx,hf1 x y hx,hp2 op x y hx hy,hf2 op x y hx hy,hp3 t _ ht s1,hf3 t _ ht s1,hp3 t _ ht s2,hf3 t _ ht s2,hp4,hf4]
 unfold tDo tOk
 refine⟨fun h=>by rw [if_pos h,h];exact⟨rfl,rfl,rfl⟩,fun h=> ?_⟩
 rw [if_neg (by rw [h];simp),h,Bool.false_or]
 generalize bf t ⟨4,op,y,x⟩=r1
 generalize bf t ⟨4,op,x,y⟩=r2
 generalize dP x y=o
 by_cases c1:op=2<;>by_cases c2:0<o<;>by_cases c3:r1.2<0<;>by_cases c4:r2.2<0<;>simp [c1,c2,c3,c4]
theorem acL:ShT []:=⟨by simp,fun m hm=>absurd hm (by simp)⟩
theorem aoM {p1:Int×Unit→Bool} {f1:Int×Unit→Bool×Unit} (hp1:∀a,p1 (a,())=true) (hf1:∀a,f1 (a,())=(inB a 0 65535,())):Yr (std 0) p1 f1 () (fun z=>z=(true,())):=by
 dsimp only [Yr,Alg.cl,Alg.cg,Alg.rb,Alg.bd,Alg.l1,Tup.q,Tup.o]
 simp (disch:=omega) only [RR,hp1,hf1]
 rfl
theorem KH {α:Type} {d:α} {a b:List α} (h:a.length=b.length) (h2:All a.length (fun i=>a.getD i.toNat d=b.getD i.toNat d)):a=b:=by
 refine List.ext_getElem h fun i h3 h4=> ?_
 have:=h2 i (by omega) (by omega)
 dsimp only at this
 rw [show(i:Int).toNat=i from rfl,getD_lt h3,getD_lt h4]at this;exact this
end Go.TX.F
namespace Go.TX.F
open Go Go.AE Go.TX
theorem ZY {a b:Int}:or2 a b=0↔a=0∧b=0:=by unfold or2;split<;>omega
theorem Ju {a b:aj}:Ht a b=0↔a=b:=by
 unfold Ht;rw [ZY,iD,mG]
 constructor
 ·rintro⟨h1,h2⟩;cases a;cases b;simp_all
 ·rintro rfl;exact⟨rfl,rfl⟩
theorem WJ (a b:aj):Ht b a= -Ht a b:=by
 unfold Ht or2;rw [kM,wB];repeat' split<;>omega
theorem Jv:∀a b:List aj,zB b a= -zB a b
 | [],[]=>rfl | [],_::_=>rfl | _::_,[]=>rfl
 | a::az,b::bs=>by
  simp only [zB,WJ a b,Jv az bs]
  split<;>split<;>omega
theorem Jw:∀ {a b:List aj},a.length=b.length→zB a b=0→a=b
 | [],[],_,_=>rfl | [],_::_,h,_=>by simp at h
 | _::_,[],h,_=>by simp at h
 | a::az,b::bs,hl,h=>by
  simp only [zB]at h
  split at h
  ·exact absurd h (by assumption)
  ·rename_i h1
   rw [Ju.1 (Classical.not_not.1 h1),Jw (by simpa using hl) h]
theorem Jy:∀a:List aj,zB a a=0
 | []=>rfl
 | a::az=>by simp only [zB,Ju.2 rfl];simp [Jy az]
theorem mI (a b:List aj):dP b a= -dP a b:=by
 unfold dP;rw [wB,Jv];repeat' split<;>omega
theorem gT {a b:List aj}:dP a b=0↔a=b:=by
 unfold dP
 constructor
 ·intro h
  split at h
  ·exact absurd h (by assumption)
  ·rename_i h1
   have:=mG.1 (Classical.not_not.1 h1)
   exact Jw (by omega) h
 ·rintro rfl;rw [if_neg (by rw [mG.2 rfl];simp),Jy]
theorem Jz {a b:Atom}:uX a b=true↔a=b:=by
 unfold uX
 rw [Bool.and_eq_true,Bool.and_eq_true,Bool.and_eq_true,decide_eq_true_eq,decide_eq_true_eq,decide_eq_true_eq,decide_eq_true_eq,gT,gT]
 constructor
 ·rintro⟨⟨⟨h1,h2⟩,h3⟩,h4⟩;cases a;cases b;simp_all
 ·rintro rfl;exact⟨⟨⟨rfl,rfl⟩,rfl⟩,rfl⟩
theorem zC {α:Type} {d:α} {l:List α} {G:α→Prop}:All l.length (fun i=>G (l.getD i.toNat d))↔∀m∈l,G m:=by
 constructor
 ·intro h m hm
  obtain⟨i,hi,rfl⟩:=List.getElem_of_mem hm
  have:=h i (by omega) (by omega)
  dsimp only at this
  rw [show(i:Int).toNat=i from rfl,getD_lt hi]at this;exact this
 ·intro h i h1 h2
  exact h _ (lD h1 h2)
theorem bP {p:List aj} {n:Int}:bg p n↔∀m∈p,∀k∈m.atoms,k<n:=by
 unfold bg Sv
 rw [zC (d:=default) (G:=fun m:aj=>All m.atoms.length (fun i=>¬n≤m.atoms.getD i.toNat default))]
 refine forall_congr' fun m=>forall_congr' fun _=> ?_
 rw [zC (d:=default) (G:=fun k:Int=>¬n≤k)]
 exact forall_congr' fun k=>forall_congr' fun _=>by omega
theorem mF {α:Type} {d:α} {R:α→α→Prop} (tr:∀ {a b c},R a b→R b c→R a c) {l:List α}:l.Pairwise R↔∀i:Int,0<i→i<l.length→R (l.getD (i-1).toNat d) (l.getD i.toNat d):=by
 rw [List.pairwise_iff_getElem]
 constructor
 ·intro h i h1 h2
  rw [getD_lt (by omega),getD_lt (by omega)]
  exact h _ _ (by omega) (by omega) (by omega)
 ·intro h i j hi hj hij
  obtain⟨n,rfl⟩:∃n,j=i+1+n:=⟨j-i-1,by omega⟩
  clear hij
  induction n with
  | zero=>
   have:=h (i+1:Nat) (by omega) (by omega)
   rw [show(((i+1:Nat):Int)-1).toNat=i by omega,show(((i+1:Nat):Int)).toNat=i+1 by omega,getD_lt hi,getD_lt (by omega)]at this
   exact this
  | succ n ih=>
   have h1:=ih (by omega)
   have:=h (i+1+n+1:Nat) (by omega) (by omega)
   rw [show(((i+1+n+1:Nat):Int)-1).toNat=i+1+n by omega,show(((i+1+n+1:Nat):Int)).toNat=i+1+n+1 by omega,getD_lt (by omega),getD_lt (by omega)]at this
   exact tr h1 this
theorem KJ {l:List Int}:Srt l↔l.Pairwise (· ≤ ·):=by
 rw [mF (d:=default) (R:=fun a b:Int=>a≤b) (fun h1 h2=>Int.le_trans h1 h2)]
 unfold Srt
 constructor
 ·intro h i h1 h2
  have:=h (i-1) (by omega) (by omega)
  dsimp only at this
  rw [show i-1+1=i by omega]at this;exact this
 ·intro h i h1 h2
  have:=h (i+1) (by omega) (by omega)
  rw [show i+1-1=i by omega]at this;exact this
theorem AX {a b c:aj} (h1:lt a b) (h2:lt b c):lt a c:=dA (le_of_lt h1) h2
def aok (l:List Int):Prop:=l.Pairwise (· ≤ ·)∧∀k∈l,0≤k∧k≤199
theorem iE {p:List aj}:aO p↔Nf p∧p.length≤12∧∀m∈p,m.atoms.length≤4∧aok m.atoms:=by
 constructor
 ·rintro⟨h1,h2,h3,h4⟩
  have h1':∀m∈p,mOk m:=zC (d:=default) (G:=mOk).1 (fun i g1 g2=>(h1 i g1 g2).1)
  have h4':∀m∈p,¬(0<m.atoms.length∧m.atoms.getD 0 default<0):=zC (d:=default) (G:=fun m:aj=>¬(0<m.atoms.length∧m.atoms.getD 0 default<0)).1 h4
  refine⟨⟨(mF (d:=default) (R:=lt) AX).2 fun i g1 g2=>(h1 i (by omega) g2).2 g1,fun m hm=>(h1' m hm).1⟩,h2,fun m hm=>⟨(h1' m hm).2.1,KJ.1 (h1' m hm).2.2,fun k hk=>⟨?_,by have:=bP.1 h3 m hm k hk;omega⟩⟩⟩
  have hs:=KJ.1 (h1' m hm).2.2
  have hn:=h4' m hm
  cases ha:m.atoms with
  | nil=>rw [ha]at hk;exact absurd hk (by simp)
  | cons b l=>
   rw [ha]at hk hs hn
   simp at hn
   rcases List.mem_cons.1 hk with rfl | hk
   ·exact hn
   ·have:=List.rel_of_pairwise_cons hs hk;omega
 ·rintro⟨h1,h2,h3⟩
  refine⟨fun i g1 g2=>⟨⟨h1.co _ (lD g1 g2),(h3 _ (lD g1 g2)).1,KJ.2 (h3 _ (lD g1 g2)).2.1⟩,fun g3=>(mF (d:=default) (R:=lt) AX).1 h1.ss i g3 g2⟩,h2,bP.2 fun m hm k hk=>by have:=((h3 m hm).2.2 k hk);omega,?_⟩
  refine zC (d:=default) (G:=fun m:aj=>¬(0<m.atoms.length∧m.atoms.getD 0 default<0)).2 fun m hm=> ?_
  rintro⟨g1,g2⟩
  have:=(h3 m hm).2.2 _ (lD (i:=0) (d:=default) (xs:=m.atoms) (by omega) (by omega))
  rw [show Int.toNat 0=0 from rfl]at this;omega
theorem Z0 {l:List aj} {k:List Int} (h:cf l k≠0):∃m∈l,m.atoms=k:=Classical.byContradiction fun h2=>h (gJ fun m hm e=>h2 ⟨m,hm,e⟩)
theorem Nf.cf {o:List aj} (h:Nf o) {m:aj} (hm:m∈o):cf o m.atoms=m.fZ:=by
 induction o with
 | nil=>exact absurd hm (by simp)
 | cons a o ih=>
  rw [bE]
  rcases List.mem_cons.1 hm with rfl | hm
  ·rw [if_pos rfl,gJ (fun m' hm'=>((List.rel_of_pairwise_cons h.ss hm').ne).symm)];omega
  ·rw [if_neg (List.rel_of_pairwise_cons h.ss hm).ne,ih ⟨h.ss.tail,fun m hm=>h.co m (by simp [hm])⟩ hm];omega
theorem Nf.from {o l:List aj} (h:Nf o) (h2:∀k,F.cf o k=F.cf l k%65536) {m:aj} (hm:m∈o):∃m'∈l,m'.atoms=m.atoms:=by
 refine Z0 fun e=> ?_
 have:=h2 m.atoms
 rw [h.cf hm,e]at this
 have:=h.co m hm;omega
theorem Nf.bnd {o:List aj} (h:Nf o) (k:List Int):0≤F.cf o k∧F.cf o k≤65535:=by
 by_cases e:F.cf o k=0
 ·omega
 ·obtain⟨m,hm,rfl⟩:=Z0 e
  rw [h.cf hm];have:=h.co m hm;omega
theorem wE {o:List aj} (h:Nf o):nf o=o:=Jr h fun k=>by have:=h.bnd k;omega
end Go.TX.F
namespace Go.TX.F
open Go Go.AE Go.TX
theorem Z4 (a b c:Int):QD (std 0) (a,b,c,()) (fun y=>y=(inB a b c,())):=by
 dsimp only [QD,Alg.cl,Alg.cg,Alg.rb,Alg.bd,Alg.l1,Tup.q,Tup.o]
 simp (disch:=omega) only [RR]
 rfl
theorem Z5 (a:Int):QE (std 0) (a,()) (fun y=>y=(inB a 0 65535,())):=by
 dsimp only [QE,Alg.cl,Alg.cg,Alg.rb,Alg.bd,Alg.l1,Tup.q,Tup.o]
 simp (disch:=omega) only [RR]
 refine congrArg (fun b=>(b,())) ?_
 rw [Bool.eq_iff_iff,fF,Bool.and_eq_true,decide_eq_true_eq,decide_eq_true_eq];omega
theorem Z6 (a:Int):a.tmod 65536=if 0≤a then a%65536 else- (-a%65536):=by
 split
 ·rw [Int.tmod_eq_emod_of_nonneg (by omega)]
 ·have:=Int.neg_tmod (-a) 65536
  rw [Int.neg_neg]at this;rw [this,Int.tmod_eq_emod_of_nonneg (by omega)]
theorem Z7 (a:Int):Q0 (std 0) (a,()) (fun y=>y=(a%65536,())):=by
 dsimp only [Q0,Alg.cl,Alg.cg,Alg.rb,Alg.bd,Alg.l1,Tup.q,Tup.o]
 simp only [ZQ]
 by_cases h:0≤a
 ·rw [show a.tmod 65536=a%65536 by rw [Z6,if_pos h]]
  simp (disch:=omega) only [RR]
  refine⟨by omega,fun h2=> ?_⟩
  exfalso;omega
 ·rw [show a.tmod 65536= - (-a%65536) by rw [Z6,if_neg h]]
  simp (disch:=omega) only [RR]
  refine⟨by omega,fun h2=> ?_,fun h2=> ?_⟩
  ·rw [show-(-a%65536)+65536=a%65536 by omega]
  ·rw [show-(-a%65536)=a%65536 by omega]
end Go.TX.F
namespace Go.TX.F
open Go Go.AE Go.TX
theorem Z8 (G:Int→Prop):∀n:Nat,∃r,Idx n G r
 | 0=>⟨-1,Or.inl ⟨rfl,All.zero⟩⟩
 | n+1=>by
  obtain⟨r,h⟩:=Z8 G n
  rcases h with⟨h1,h2⟩ | ⟨h1,h2,h3,h4⟩
  ·by_cases g:G n
   ·exact⟨n,Or.inr ⟨by omega,by omega,g,h2⟩⟩
   ·exact⟨-1,Or.inl ⟨rfl,by have:=h2.snoc g;exact this.le (by omega)⟩⟩
  ·exact⟨r,Or.inr ⟨h1,by omega,h3,h4⟩⟩
theorem SA (G:Int→Prop) (n:Nat):Idx n G (idxOf n G):=by
 obtain⟨r,h⟩:=Z8 G n
 rw [←h.eq];exact h
theorem kN (t:List Atom) (a:Atom):Idx t.length (fun i=>a=t.getD i.toNat default) (sH t a):=by
 have:=SA (fun i=>uX a (t.getD i.toNat default)=true) t.length
 simp only [Jz]at this
 unfold sH;simp only [Jz];exact this
theorem jI {t:List Atom}:aG t↔All t.length (fun i=>gU (t.getD i.toNat default) i∧All i (fun j=>¬t.getD i.toNat default=t.getD j.toNat default))∧t.length≤200:=by
 unfold aG
 refine and_congr ⟨fun h i h1 h2=>⟨(h i h1 h2).1,?_⟩,fun h i h1 h2=>⟨(h i h1 h2).1,?_⟩⟩ Iff.rfl
 ·have:=kN t (t.getD i.toNat default)
  rw [(h i h1 h2).2]at this
  rcases this with⟨g1,_⟩ | ⟨_,_,_,g⟩
  ·omega
  ·exact g
 ·exact((kN t (t.getD i.toNat default)).uniq (Or.inr ⟨h1,h2,rfl,(h i h1 h2).2⟩))
theorem aib {p1:Int×Unit→Bool} {f1:Int×Unit→Bool×Unit} (hp1:∀a,p1 (a,())=true) (hf1:∀a,f1 (a,())=(inB a 0 65535,()))
  {p2:Int×Unit→Bool} {f2:Int×Unit→Int×Unit} (hp2:∀a,p2 (a,())=true) (hf2:∀a,f2 (a,())=(a%65536,())) (op a b:Int):
  Q5 (std 0) p2 f2 p1 f1 (op,a,b,()) (fun y=>y=(wdo op a b,())):=by
 dsimp only [Q5,Alg.cl,Alg.cg,Alg.rb,Alg.bd,Alg.l1,Tup.q,Tup.o]
 simp (disch:=omega) only [RR,hp1,hf1,hp2,hf2,Sw,Sy,fF,sG]
 by_cases ha:(0≤a∧a≤65535)∧(0≤b∧b≤65535)
 ·have hm:0≤a*b∧a*b≤65535*65535:=⟨Int.mul_nonneg ha.1.1 ha.2.1,Int.mul_le_mul ha.1.2 ha.2.2 ha.2.1 (by omega)⟩
  rw [w64 (x:=a+b) (by omega) (by omega),w64 (x:=a-b) (by omega) (by omega),w64 (x:=a*b) (by omega) (by omega)]
  unfold wdo
  rw [if_pos ha]
  refine⟨fun h=>absurd h (by omega),fun _=>⟨fun h=> ?_,fun h=>⟨fun h1=> ?_,fun h1=>⟨fun h2=> ?_,fun h2=>⟨fun h3=> ?_,fun h3=>⟨fun h4=> ?_,fun h4=> ?_⟩⟩⟩⟩⟩⟩<;>(subst_vars;first | rfl | simp only [if_true,if_false, *])
 ·refine⟨fun h=> ?_,fun h=>absurd h ?_⟩
  ·unfold wdo;rw [if_neg ha]
  ·exact ha
end Go.TX.F
namespace Go.TX.F
open Go Go.AE Go.TX
theorem JA {p:List aj} {n m:Int} (h:bg p n) (h2:n≤m):bg p m:=bP.2 fun a ha k hk=>by have:=bP.1 h a ha k hk;omega
def Z9 (op n:Int) (y:List aj):List aj×Bool:=if op=4∧n=0 then([],true)else if(op=4∧n=65535)∨(op=5∧n=0)then(y,true)else([],false)
theorem acM (op:Int) (x y:List aj):Cw op x y=if(dL x).2&& (dL y).2 then(aP (wdo op (dL x).1 (dL y).1),true)
  else if dP x y=0 then(if op=4 then(x,true)else([],true))else if(dL x).2 then Z9 op (dL x).1 y else if(dL y).2 then Z9 op (dL y).1 x else([],false):=by
 unfold Cw Z9
 by_cases c1:dP x y=0<;>by_cases c2:op=4<;>simp [c1,c2]
end Go.TX.F
namespace Go.TX.F
open Go Go.AE Go.TX
structure Plus (l:List aj) (m:aj) (o:List aj):Prop where
 nf:Nf o
 cf:∀k,cf o k=F.cf (l++ [m]) k%65536
 len:o.length≤l.length+1
end Go.TX.F
namespace Go.TX.F
open Go Go.AE Go.TX
theorem rO {a o:List Int} (h:o.Pairwise (· ≤ ·)) (hp:o.Perm a):o=dJ a:=by
 refine List.Perm.eq_of_pairwise (le:=fun x y:Int=>x≤y) (fun a b _ _ h1 h2=>Int.le_antisymm h1 h2) h ?_ (hp.trans (List.mergeSort_perm a _).symm)
 have:=List.pairwise_mergeSort (le:=fun x y:Int=>decide (x≤y)) (fun a b c h1 h2=>by simp at*;omega) (fun a b=>by simp;omega) a
 exact this.imp (fun h=>by simpa using h)
end Go.TX.F
namespace Go.TX.F
open Go Go.AE Go.TX
theorem aO.nf {p:List aj} (h:aO p):Nf p:=(iE.1 h).1
theorem aO.aok {p:List aj} (h:aO p) {m:aj} (hm:m∈p):m.atoms.length≤4∧F.aok m.atoms:=(iE.1 h).2.2 m hm
end Go.TX.F
namespace Go.TX.F
open Go Go.AE Go.TX
theorem OQ {m:aj} (n:Int) (h:aok m.atoms):mulM m ⟨n,[]⟩=⟨m.fZ*n%65536,m.atoms⟩:=by
 unfold mulM
 rw [←rO (a:=m.atoms++ []) (o:=m.atoms) h.1 (by simp)]
theorem JB (a:List aj) (n:aj):prods a [n]=a.map (fun m=>mulM m n):=by
 induction a with
 | nil=>rfl
 | cons x a ih=>simp only [prods,List.flatMap_cons,List.map_cons,List.map_nil]at ih ⊢;rw [ih];rfl
theorem bS:aO []:=iE.2 ⟨⟨List.Pairwise.nil,fun m hm=>absurd hm (by simp)⟩,by simp,fun m hm=>absurd hm (by simp)⟩
theorem bW (n:Int):aO (aP n):=by
 unfold aP;split
 ·refine iE.2 ⟨⟨List.pairwise_singleton _ _,fun m hm=> ?_⟩,by simp,fun m hm=> ?_⟩
  ·rw [List.mem_singleton]at hm;subst hm;assumption
  ·rw [List.mem_singleton]at hm;subst hm;exact⟨by simp,List.Pairwise.nil,fun k hk=>absurd hk (by simp)⟩
 ·exact bS
theorem kP (n:Int):aO (dz n):=by
 unfold dz;split
 ·refine iE.2 ⟨⟨List.pairwise_singleton _ _,fun m hm=> ?_⟩,by simp,fun m hm=> ?_⟩
  ·rw [List.mem_singleton]at hm;subst hm;dsimp only;omega
  ·rw [List.mem_singleton]at hm;subst hm;exact⟨by simp,List.pairwise_singleton _ _,fun k hk=>by rw [List.mem_singleton]at hk;omega⟩
 ·exact bS
theorem aac (l:List aj):(Nf (nf l)∧∀k,cf (nf l) k=cf l k%65536)∨nf l=[]:=by
 by_cases he:∃o,Nf o∧∀k,cf o k=cf l k%65536
 ·obtain⟨o,h1,h2⟩:=he
  rw [Jr h1 h2];exact Or.inl ⟨h1,h2⟩
 ·right;unfold nf;rw [dif_neg he]
theorem aad {l:List aj} {n:Int} (h:bg l n):bg (nf l) n:=by
 rcases aac l with⟨h1,h2⟩ | h1
 ·refine bP.2 fun m hm k hk=> ?_
  obtain⟨m',g1,g2⟩:=h1.from h2 hm
  exact bP.1 h m' g1 k (g2▸hk)
 ·rw [h1];exact bP.2 fun m hm=>absurd hm (by simp)
theorem iT (n:Int):bg [] n:=bP.2 fun m hm=>absurd hm (by simp)
theorem Vg (l:List aj):aO (jZ l).2:=by
 unfold jZ
 by_cases h:aO (nf l)
 ·rw [bO h];exact h
 ·rw [iB h];exact bS
theorem Hw {l:List aj} {n:Int} (h:bg l n):bg (jZ l).2 n:=by
 unfold jZ
 dsimp only
 split
 ·exact aad h
 ·exact iT n
theorem WK {a b:List aj} {n:Int} (h1:bg a n) (h2:bg b n):bg (a++b) n:=bP.2 fun m hm k hk=>by
 rw [List.mem_append]at hm
 rcases hm with hm | hm
 ·exact bP.1 h1 m hm k hk
 ·exact bP.1 h2 m hm k hk
theorem OT {a b:List aj} {n:Int} (h1:bg a n) (h2:bg b n):bg (prods a b) n:=bP.2 fun m hm k hk=>by
 unfold prods at hm
 rw [List.mem_flatMap]at hm
 obtain⟨x,hx,hm⟩:=hm
 rw [List.mem_map]at hm
 obtain⟨y,hy,rfl⟩:=hm
 have:k∈x.atoms++y.atoms:=List.mem_mergeSort.1 hk
 rw [List.mem_append]at this
 rcases this with hk | hk
 ·exact bP.1 h1 x hx k hk
 ·exact bP.1 h2 y hy k hk
theorem Vh (a b:List aj):aO (og a b).2:=by unfold og;split;exact Vg _;exact bS
theorem acN (a b:List aj):aO (lF a b).2:=by unfold lF;split;exact Vg _;exact bS
theorem Hy {a b:List aj} {n:Int} (h1:bg a n) (h2:bg b n):bg (og a b).2 n:=by unfold og;split;exact Hw (WK h1 h2);exact iT n
theorem Hz {a b:List aj} {n:Int} (h1:bg a n) (h2:bg b n):bg (lF a b).2 n:=by unfold lF;split;exact Hw (OT h1 h2);exact iT n
theorem uZ (c n:Int):bg (aP c) n:=bP.2 fun m hm k hk=>by
 unfold aP at hm;split at hm
 ·rw [List.mem_singleton]at hm;subst hm;exact absurd hk (by simp)
 ·exact absurd hm (by simp)
theorem rP {k n:Int} (h:k<n):bg (dz k) n:=bP.2 fun m hm j hj=>by
 unfold dz at hm;split at hm
 ·rw [List.mem_singleton]at hm;subst hm;rw [List.mem_singleton]at hj;omega
 ·exact absurd hm (by simp)
theorem aG.sh {t:List Atom} (h:aG t):ShT t:=⟨by have:=h.2;omega,fun a ha=>by
 obtain⟨i,hi,rfl⟩:=List.getElem_of_mem ha
 have:=(h.1 i (by omega) (by omega)).1
 rw [show(i:Int).toNat=i from rfl,getD_lt hi]at this
 unfold gU at this
 split at this
 ·exact⟨this.2.1.sh,this.2.2.1.sh⟩
 ·rw [ShA,this.1.1,this.1.2];exact⟨nN,nN⟩⟩
theorem zD {t:List Atom} {a:Atom} (h:aG t) (h2:t.length<200):aG (bf t a).1∧t.length≤(bf t a).1.length∧(bf t a).1.length≤t.length+1∧(gU a t.length→0≤(bf t a).2):=by
 have hsp:=kN t a
 unfold bf
 split
 ·rename_i h3;exact⟨h,Nat.le_refl _,Nat.le_succ _,fun _=>h3⟩
 ·rename_i h3
  split
  ·rename_i h4;exact⟨h,Nat.le_refl _,Nat.le_succ _,fun h5=>by rcases h4 with h4 | h4;exact absurd h5 h4;omega⟩
  ·rename_i h4
   have h5:gU a t.length:=Classical.byContradiction fun h5=>h4 (Or.inl h5)
   refine⟨jI.2 ⟨?_,by rw [List.length_append];simp only [List.length_cons,List.length_nil];omega⟩,by rw [List.length_append];exact Nat.le_add_right _ _,by rw [List.length_append];exact Nat.le_refl _,fun _=>by dsimp only;omega⟩
   have hl:((t++ [a]).length:Int)=t.length+1:=by rw [List.length_append];rfl
   have g1:∀i:Int,0≤i→i<t.length→(t++ [a]).getD i.toNat default=t.getD i.toNat default:=fun i i1 i2=>by
    rw [getD_lt (show i.toNat< (t++ [a]).length by omega),getD_lt (show i.toNat<t.length by omega),List.getElem_append_left]
   have g2:(t++ [a]).getD ((t.length:Int)).toNat default=a:=by
    rw [getD_lt (show((t.length:Int)).toNat< (t++ [a]).length by omega)];simp
   rw [hl]
   intro i i1 i2
   dsimp only
   by_cases i3:i<t.length
   ·rw [g1 i i1 i3]
    have:=(jI.1 h).1 i i1 i3
    exact⟨this.1,fun j j1 j2=>by dsimp only;rw [g1 j j1 (by omega)];exact this.2 j j1 j2⟩
   ·have:i=t.length:=by omega
    subst this
    rw [g2]
    refine⟨h5,fun j j1 j2=> ?_⟩
    dsimp only;rw [g1 j j1 j2]
    rcases hsp with⟨_,g⟩ | ⟨g,_⟩
    ·exact g j j1 j2
    ·exact absurd g h3
end Go.TX.F
namespace Go.TX.F
open Go Go.AE Go.TX
def By (b:List Int):Prop:=∀z∈b,0≤z∧z≤255
structure Bt (b:List Int):Prop where
 len:b.length≤2000
 rng:By b
theorem By.at {b:List Int} (h:By b) (n:Nat):0≤b.getD n default∧b.getD n default≤255:=by
 by_cases h1:n<b.length
 ·rw [getD_lt h1];exact h _ (List.getElem_mem _)
 ·simp only [List.getD,List.getElem?_eq_none (by omega:b.length≤n)];decide
theorem aae (b:List Int) (hb:By b) (hl:b.length<1000000000):RO (std 0) (b,()) (fun y=>Bt y.1∧y.2.1=0):=by
 dsimp only [RO,Alg.cl,Alg.cg,Alg.rb,Alg.bd,Alg.l1,Tup.q,Tup.o]
 simp (disch:=omega) only [RR]
 refine⟨fun h=>⟨by omega,by omega,by omega,⟨?_,?_⟩⟩,fun h=>⟨by omega,hb⟩⟩
 ·rw [List.length_drop,List.length_take];omega
 ·intro z hz;exact hb z (List.mem_of_mem_take (List.mem_of_mem_drop hz))
theorem aic {a b:Int} (h1:0≤a) (h2:a<4611686018427387904) (h3:0≤b) (h4:b<4611686018427387904):0≤jY .xor .i64 a b∧jY .xor .i64 a b<4611686018427387904:=by
 have e:((2^IntKind.i64.bits:Nat):Int)=18446744073709551616:=by decide
 have e2:jY .xor .i64 a b=((a.toNat^^^b.toNat:Nat):Int):=by
  unfold jY;dsimp only
  rw [BitVec.toNat_xor,BitVec.toNat_ofInt,BitVec.toNat_ofInt,e,show a%18446744073709551616=a by omega,show b%18446744073709551616=b by omega]
  have:=Nat.xor_lt_two_pow (show a.toNat<2^62 by omega) (show b.toNat<2^62 by omega)
  rw [w64 (by omega) (by omega)]
 rw [e2]
 have:=Nat.xor_lt_two_pow (show a.toNat<2^62 by omega) (show b.toNat<2^62 by omega)
 omega
theorem CK {a b:Int} (h:0≤a):a.tmod b=a%b:=Int.tmod_eq_emod_of_nonneg h
theorem Vi {a b:Int} (h:0≤a):a.tdiv b=a/b:=Int.tdiv_eq_ediv_of_nonneg h
def Pk (n:Int) (b:List Int) (p:Int) (y:Int×List Int×Int×Unit):Prop:=y.2.1=b∧y.2.2.1=p+1∧0≤y.1∧(y.1<n∨y.1=0)
theorem aaf (n:Int) (b:List Int) (p:Int) (hb:Bt b) (h1:0≤p) (h2:p<1000000000):QB (std 0) (n,b,p,()) (fun y=>Pk n b p y):=by
 have hl:=hb.1
 have cvu:∀k:Nat,IntKind.i64.wrap (b.getD k default)=b.getD k default:=fun k=>by have:=hb.2.at k;exact w64 (by omega) (by omega)
 dsimp only [QB,Alg.cl,Alg.cg,Alg.rb,Alg.bd,Alg.l1,Tup.q,Tup.o]
 simp (disch:=omega) only [RR,cvu]
 refine⟨fun h=>⟨rfl,rfl,by omega,Or.inr rfl⟩,fun⟨h3,h4⟩=> ?_⟩
 have e1:p+1-1=p:=by omega
 rw [e1]
 refine⟨fun h=>⟨by omega,by omega,by omega,?_⟩,fun h=> ?_⟩
 ·have:=hb.2.at p.toNat
  rw [CK this.1]
  exact⟨rfl,rfl,Int.emod_nonneg _ (by omega),Or.inl (Int.emod_lt_of_pos _ (by omega))⟩
 ·have hb0:(0:Int)<b.length:=by omega
  have k1:=Int.emod_nonneg p (show(b.length:Int)≠0 by omega)
  have k2:=Int.emod_lt_of_pos p hb0
  have k3:=Int.emod_nonneg (p*7+3) (show(b.length:Int)≠0 by omega)
  have k4:=Int.emod_lt_of_pos (p*7+3) hb0
  have k5:0≤p/b.length:=Int.ediv_nonneg h1 (by omega)
  have k6:p/b.length≤p:=Int.ediv_le_self _ h1
  simp (disch:=omega) only [w64,CK,Vi]
  have q1:=hb.2.at (p%b.length).toNat
  have q2:=hb.2.at ((p*7+3)%b.length).toNat
  generalize (b.getD (p%b.length).toNat default)=u at q1 ⊢
  generalize (b.getD ((p*7+3)%b.length).toNat default)=v at q2 ⊢
  generalize p/b.length=w at k5 k6 ⊢
  simp (disch:=omega) only [w64,CK,Vi]
  have q:=aic (a:=u*131+v*1117+p*29+w*53) (b:=(u*131+v*1117+p*29+w*53)/64) (by omega) (by omega) (by omega) (by omega)
  rw [Sy]
  generalize jY .xor .i64 (u*131+v*1117+p*29+w*53) ((u*131+v*1117+p*29+w*53)/64)=g at q ⊢
  rw [CK q.1]
  exact⟨h4,k1,k2,h4,k3,k4,h4,by omega,by omega,rfl,rfl,Int.emod_nonneg _ (by omega),Or.inl (Int.emod_lt_of_pos _ (by omega))⟩
theorem aie {p1:Int×List Int×Int×Unit→Bool} {f1:Int×List Int×Int×Unit→Int×List Int×Int×Unit} (hp1:∀n b p,Bt b→0≤p→p<1000000000→p1 (n,b,p,())=true) (hf1:∀n b p,Bt b→0≤p→p<1000000000→Pk n b p (f1 (n,b,p,())))
  (n:Int) (b:List Int) (p:Int) (hb:Bt b) (h1:0≤p) (h2:p<1000000000):QC (std 0) p1 f1 (n,b,p,()) (fun y=>y.2.1=b∧y.2.2.1=p+1):=by
 obtain⟨e1,e2,_⟩:=hf1 n b p hb h1 h2
 dsimp only [QC,Alg.cl,Alg.cg,Alg.rb,Alg.bd,Alg.l1,Tup.q,Tup.o]
 simp (disch:=omega) only [RR,hp1 n b p hb h1 h2,e1,e2]
end Go.TX.F
namespace Go.TX.F
open Go Go.AE Go.TX
structure asa (n:Int) (b:List Int) (p:Int) (y:List Int×Int×List aj×Unit):Prop where
 b:y.1=b
 lo:p≤y.2.1
 hi:y.2.1≤p+200
 ok:aO y.2.2.1
 un:bg y.2.2.1 n
end Go.TX.F
namespace Go.TX.F
open Go Go.AE Go.TX
structure asg (b:List Int) (p n:Int) (y:List Int×Int×List Atom×Unit):Prop where
 b:y.1=b
 lo:p≤y.2.1
 hi:y.2.1≤p+10000
 sh:ShT y.2.2.1
 ne:0<y.2.2.1.length
 le:(y.2.2.1.length:Int)≤n
end Go.TX.F
namespace Go.TX.F
open Go Go.AE Go.TX
theorem zF {l o:List aj} (h:aO o) (h2:∀k,cf o k=cf l k%65536):jZ l=(true,o):=by
 unfold jZ;rw [Jr h.nf h2,bO h,if_pos rfl]
theorem HV {x:List aj} (h:aO x):aO (iM x 65535)∧∀k,cf (iM x 65535) k=(65535*cf x k)%65536:=by
 have hc:∀(l:List aj) k,cf (l.map fun m=>(⟨m.fZ*65535%65536,m.atoms⟩:aj)) k%65536=(65535*cf l k)%65536:=fun l k=>by
  induction l with
  | nil=>rfl
  | cons m l ih=>rw [List.map_cons,bE,bE];dsimp only;split<;>omega
 have no:Nf (x.map fun m=>(⟨m.fZ*65535%65536,m.atoms⟩:aj)):=⟨by
  rw [List.pairwise_map];exact h.nf.ss,fun m hm=>by
  rw [List.mem_map]at hm
  obtain⟨n,hn,rfl⟩:=hm
  have:=h.nf.co n hn
  dsimp only;omega⟩
 have ok:aO (x.map fun m=>(⟨m.fZ*65535%65536,m.atoms⟩:aj)):=iE.2 ⟨no,by rw [List.length_map];exact h.len,fun m hm=>by
  rw [List.mem_map]at hm
  obtain⟨n,hn,rfl⟩:=hm
  exact show n.atoms.length≤4∧aok n.atoms from h.aok hn⟩
 have pe:prods x (aP 65535)=x.map fun m=>(⟨m.fZ*65535%65536,m.atoms⟩:aj):=by
  unfold aP;rw [if_pos (by omega),JB]
  exact List.map_congr_left fun m hm=>OQ 65535 (h.aok hm).2
 have e:iM x 65535=x.map fun m=>(⟨m.fZ*65535%65536,m.atoms⟩:aj):=by
  unfold iM lF
  rw [if_pos (by rw [bO h];rfl),if_pos (by rw [bO h,bO (bW _)];rfl),pe,zF ok (fun k=>by have:=no.bnd k;omega)]
 rw [e]
 exact⟨ok,fun k=>by rw [←hc];have:=no.bnd k;omega⟩
theorem sub_self {x:List aj} (h:aO x):fP 2 x x=([],true):=by
 obtain⟨h1,h2⟩:=HV h
 unfold fP og
 rw [if_neg (by omega),if_pos rfl,if_pos (by rw [bO h,bO h1];rfl),zF bS (fun k=>by rw [mH,h2,jo];omega)]
theorem HZ {x:List aj} (h:(dL x).2=true):aO x∧x=aP (dL x).1∧0≤(dL x).1∧(dL x).1≤65535:=by
 unfold dL at h ⊢
 by_cases c:aO x
 ·rw [bO c,if_pos rfl]at h ⊢
  refine⟨c,?_⟩
  by_cases c1:x.length=0
  ·rw [if_pos c1];exact⟨by rw [List.eq_nil_of_length_eq_zero c1];rfl,by omega,by omega⟩
  ·rw [if_neg c1]at h ⊢
   by_cases c2:x.length=1∧(x.getD 0 default).atoms.length=0
   ·rw [if_pos c2]
    match x,c,c2 with
    | [m],c,c2=>
     have hc:=c.nf.co m (by simp)
     have ha:m.atoms=[]:=List.eq_nil_of_length_eq_zero c2.2
     refine⟨?_,by show 0≤m.fZ;omega,by show m.fZ≤65535;omega⟩
     show [m]=aP m.fZ
     unfold aP;rw [if_pos hc,←ha]
   ·rw [if_neg c2]at h;exact absurd h (by simp)
 ·rw [iB c]at h;exact absurd h (by simp)
theorem nO {a:Int} (h:0≤a∧a≤65535) (k:List Int):cf (aP a) k=if []=k then a else 0:=by
 unfold aP
 by_cases c:1≤a∧a≤65535
 ·rw [if_pos c,bE,jo,Int.add_zero]
 ·rw [if_neg c,jo];split<;>omega
theorem gV {a:Int} (h:0≤a∧a≤65535):dL (aP a)=(a,true):=by
 unfold dL
 rw [bO (bW a),if_pos rfl]
 unfold aP
 by_cases c:1≤a∧a≤65535
 ·rw [if_pos c];rfl
 ·rw [if_neg c,show a=0 by omega];rfl
theorem SB {op a b:Int} (hop:1≤op∧op≤5) (ha:0≤a∧a≤65535) (hb:0≤b∧b≤65535):fP op (aP a) (aP b)=(aP (wdo op a b),true):=by
 have hm:=Vf ha.1 ha.2 hb.1 hb.2
 unfold fP
 by_cases c1:op=1
 ·subst c1
  have w:wdo 1 a b=(a+b)%65536:=by unfold wdo;rw [if_pos ⟨ha,hb⟩];rfl
  rw [if_pos rfl,w];unfold og
  rw [if_pos (by rw [bO (bW _),bO (bW _)];rfl),zF (bW ((a+b)%65536)) (fun k=>by rw [mH,nO ha,nO hb,nO (by omega)];split<;>omega)]
 ·rw [if_neg c1]
  by_cases c2:op=2
  ·subst c2
   have w:wdo 2 a b=(a-b)%65536:=by unfold wdo;rw [if_pos ⟨ha,hb⟩];rfl
   obtain⟨s1,s2⟩:=HV (bW b)
   rw [if_pos rfl,w];unfold og
   rw [if_pos (by rw [bO (bW _),bO s1];rfl),zF (bW ((a-b)%65536)) (fun k=>by rw [mH,nO ha,s2,nO hb,nO (by omega)];split<;>omega)]
  ·rw [if_neg c2]
   by_cases c3:op=3
   ·subst c3
    have w:wdo 3 a b=(a*b)%65536:=by unfold wdo;rw [if_pos ⟨ha,hb⟩];rfl
    rw [if_pos rfl,w];unfold lF
    rw [if_pos (by rw [bO (bW _),bO (bW _)];rfl),zF (bW ((a*b)%65536)) (fun k=> ?_)]
    rw [nO (by omega)]
    by_cases p1:1≤a
    ·by_cases p2:1≤b
     ·have e1:aP a=[⟨a,[]⟩]:=by unfold aP;rw [if_pos ⟨p1,ha.2⟩]
      have e2:aP b=[⟨b,[]⟩]:=by unfold aP;rw [if_pos ⟨p2,hb.2⟩]
      rw [e1,e2,JB,List.map_cons,List.map_nil,OQ b ⟨List.Pairwise.nil,fun k hk=>absurd hk (by simp)⟩,bE,jo]
      dsimp only;split<;>omega
     ·have e0:b=0:=by omega
      subst e0
      rw [show prods (aP a) (aP 0)=[] by simp [prods,aP],jo];split<;>simp
    ·have e0:a=0:=by omega
     subst e0
     rw [show prods (aP 0) (aP b)=[] by simp [prods,aP],jo];split<;>simp
   ·rw [if_neg c3,acM,gV ha,gV hb];rfl
end Go.TX.F
namespace Go.TX.F
open Go Go.AE Go.TX
end Go.TX.F
namespace Go.TX.F
open Go Go.AE Go.TX
theorem Vj {d:List Int} {i j x:Int} (h1:0≤i) (h2:i<d.length) (h3:0≤j):((d.set i.toNat x).getD (j).toNat default)=if j=i then x else((d).getD (j).toNat default):=by
 simp only [List.getD]
 by_cases h:j=i
 ·subst h;rw [if_pos rfl,List.getElem?_set_self (by omega)];rfl
 ·rw [if_neg h,List.getElem?_set_ne (by omega)]
theorem WL {d:List Int} {i j:Int} (h1:0≤i) (h2:i<d.length) (h3:0≤j) (h4:j<d.length) (h5:i≠j):((d.set i.toNat ((d).getD (j).toNat default)).set j.toNat ((d).getD (i).toNat default)).Perm d:=by
 rw [List.perm_iff_count]
 intro x
 rw [getD_lt (show i.toNat<d.length by omega),getD_lt (show j.toNat<d.length by omega),List.count_set (by simp;omega),List.count_set (by omega),List.getElem_set_ne (by omega)]
 have h6:(if d[i.toNat]==x then 1 else 0)≤List.count x d:=by
  split
  ·rename_i h;exact List.count_pos_iff.2 (by rw [←eq_of_beq h];exact List.getElem_mem _)
  ·omega
 split<;>split<;>simp_all<;>omega
theorem aif {p:Int×Int×Unit→Bool} {f:Int×Int×Unit→Bool×Unit} (hp:∀a b,p (a,b,())=true) (hf:∀a b,f (a,b,())=(decide (a<b),()))
  (a b:Int) (d:List Int) (hd:d.length<1000000000) (h1:a=0) (h2:b=d.length):
  Sg (std 0) p f (a,b,d,()) (fun y=>y.1=dJ d):=by
 subst h1
 dsimp only [Sg,Alg.cl,Alg.cg,Alg.rb,Alg.bd,Alg.l1,Tup.q,Tup.o]
 simp (disch:=omega) only [RR]
 have fin:∀e:List Int,e.Perm d→(∀q:Int,1≤q→q<e.length→((e).getD (q-1).toNat default)≤((e).getD (q).toNat default))→e=dJ d:=fun e g1 g2=>
  rO ((mF (d:=default) (R:=fun a b:Int=>a≤b) (fun h1 h2=>Int.le_trans h1 h2)).2 g2) g1
 refine aA (fun(y:Int×Int×Int×List Int×Unit)=>y.1=0∧y.2.1=b∧1≤y.2.2.1∧(y.2.2.1≤b∨y.2.2.1=1)∧y.2.2.2.1.Perm d∧∀q,1≤q→q<y.2.2.1→((y.2.2.2.1).getD (q-1).toNat default)≤((y.2.2.2.1).getD (q).toNat default)) (fun y=>(b-y.2.2.1).toNat)
  ⟨rfl,rfl,by simp,Or.inr rfl,List.Perm.refl d,fun q g1 g2=>by dsimp only at g2;omega⟩ ?_
 rintro⟨(a':Int),(b':Int),(i:Int),(e:List Int),⟨⟩⟩ hI
 dsimp only at hI ⊢
 obtain⟨rfl,rfl,h4,h5,h6,h7⟩:=hI
 have hle:=h6.length_eq
 simp (disch:=omega) only [RR]
 refine⟨fun h9=> ?_,fun h9=>fin e h6 fun q g1 g2=>h7 q g1 (by omega)⟩
 refine aA (fun(y:Int×Int×Int×Int×List Int×Unit)=>y.1=0∧y.2.1=b'∧y.2.2.1=i∧0≤y.2.2.2.1∧y.2.2.2.1≤i∧y.2.2.2.2.1.Perm d
   ∧(∀q,1≤q→q≤i→q≠y.2.2.2.1→((y.2.2.2.2.1).getD (q-1).toNat default)≤((y.2.2.2.2.1).getD (q).toNat default))∧(1≤y.2.2.2.1→y.2.2.2.1+1≤i→((y.2.2.2.2.1).getD (y.2.2.2.1-1).toNat default)≤((y.2.2.2.2.1).getD (y.2.2.2.1+1).toNat default))) (fun y=>y.2.2.2.1.toNat)
  ⟨rfl,rfl,rfl,by simp;omega,by simp,h6,fun q g1 g2 g3=>h7 q g1 (by dsimp only at g3;omega),fun g1 g2=>by dsimp only at g2;omega⟩ ?_
 rintro⟨(a'':Int),(b'':Int),(i':Int),(j:Int),(e':List Int),⟨⟩⟩ hI
 dsimp only at hI ⊢
 obtain⟨rfl,rfl,rfl,h10,h11,h12,h13,h14⟩:=hI
 have hle':=h12.length_eq
 simp (disch:=omega) only [RR,List.length_set,hp,hf]
 repeat' (refine And.intro ?_ ?_)
 all_goals try omega
 ·intro ⟨g1,g2⟩
  have at2:∀k,0≤k→(((e'.set j.toNat ((e').getD (j-1).toNat default)).set (j-1).toNat ((e').getD (j).toNat default)).getD (k).toNat default)=if k=j-1 then((e').getD (j).toNat default)else if k=j then((e').getD (j-1).toNat default)else((e').getD (k).toNat default):=fun k hk=>by
   rw [Vj (by omega) (by simp;omega) hk,Vj (by omega) (by omega) hk]
  repeat' (refine And.intro ?_ ?_)
  all_goals try omega
  ·exact(WL (by omega) (by omega) (by omega) (by omega) (by omega)).trans h12
  ·intro q k1 k2 k3
   rw [at2 _ (by omega),at2 _ (by omega)]
   by_cases c1:q=j
   ·subst c1;rw [if_pos rfl,if_neg (by omega),if_pos rfl];omega
   ·rw [if_neg (by omega)]
    by_cases c2:q=j+1
    ·subst c2
     rw [if_pos (by omega),if_neg (by omega),if_neg (by omega)]
     exact h14 (by omega) (by omega)
    ·rw [if_neg (by omega),if_neg (by omega),if_neg (by omega)]
     exact h13 q k1 k2 c1
  ·intro k1 k2
   rw [at2 _ (by omega),at2 _ (by omega),if_neg (by omega),if_neg (by omega),if_neg (by omega),if_pos (by omega)]
   have:=h13 (j-1) (by omega) (by omega) (by omega)
   exact this
 ·intro g
  refine⟨⟨by omega,by omega,h12,fun q k1 k2=> ?_⟩,by omega⟩
  by_cases c:q=j
  ·subst c
   rw [Bool.and_eq_false_iff,decide_eq_false_iff_not,decide_eq_false_iff_not]at g
   omega
  ·exact h13 q k1 (by omega) c
theorem aii {p:Int×Int×Unit→Bool} {f:Int×Int×Unit→Bool×Unit}
  {p1:Int×Int×List Int×Unit→Bool} {f1:Int×Int×List Int×Unit→List Int×Unit} (hp1:∀(a b:Int) (d:List Int),d.length<1000000000→a=0→b=d.length→p1 (a,b,d,())=true) (hf1:∀(a b:Int) (d:List Int),d.length<1000000000→a=0→b=d.length→(f1 (a,b,d,())).1=dJ d)
  (p2 p3 f2 f3 p4 f4 p5 f5 p6 f6 p7 f7 p8 f8 p9 f9) (a b k:Int) (d:List Int) (hd:d.length≤12) (h1:a=0) (h2:b=d.length):
  Si (std 0) p f p1 f1 p2 f2 p3 f3 p4 f4 p5 f5 p6 f6 p7 f7 p8 f8 p9 f9 (a,b,k,d,()) (fun y=>y.1=dJ d):=by
 subst h1
 dsimp only [Si,Alg.cl,Alg.cg,Alg.rb,Alg.bd,Alg.l1,Tup.q,Tup.o]
 simp (disch:=omega) only [RR]
 refine aA (fun(y:Int×Int×Int×Bool×Bool×List Int×Unit)=>y.1=0∧y.2.1=b∧y.2.2.2.2.2.1=d) (fun y=>0) ⟨rfl,rfl,rfl⟩ ?_
 rintro⟨(a':Int),(b':Int),(k':Int),(u:Bool),(v:Bool),(e:List Int),⟨⟩⟩ hI
 dsimp only at hI ⊢
 obtain⟨rfl,rfl,rfl⟩:=hI
 simp (disch:=omega) only [RR]
 exact⟨fun _=>⟨hp1 0 b' e (by omega) rfl h2,hf1 0 b' e (by omega) rfl h2⟩,fun h=>absurd h (by omega)⟩
theorem aij {p1:Int×Int×Int×List Int×Unit→Bool} {f1:Int×Int×Int×List Int×Unit→List Int×Unit} (hp1:∀(a b k:Int) (d:List Int),d.length≤12→a=0→b=d.length→p1 (a,b,k,d,())=true) (hf1:∀(a b k:Int) (d:List Int),d.length≤12→a=0→b=d.length→(f1 (a,b,k,d,())).1=dJ d)
  {p2:Int×Unit→Bool} {f2:Int×Unit→Int×Unit} (hp2:∀n,0≤n→n≤18446744073709551615→p2 (n,())=true) (a:List Int) (ha:a.length≤8):
  Sj (std 0) p1 f1 p2 f2 (a,()) (fun y=>y=(dJ a,())):=by
 dsimp only [Sj,Alg.cl,Alg.cg,Alg.rb,Alg.bd,Alg.l1,Tup.q,Tup.o]
 have e:IntKind.u64.wrap (a.length:Int)=(a.length:Int):=IntWalk.u64_in _ (by omega)
 refine⟨?_,hp1 _ _ _ _ (by omega) rfl rfl,by rw [hf1 _ _ _ _ (by omega) rfl rfl]⟩
 rw [e];exact hp2 _ (by omega) (by omega)
end Go.TX.F
namespace Go.TX.F
open Go Go.AE Go.TX
def wOK (l:List Int):Prop:=∀z∈l,0≤z∧z≤65535
theorem wOK.at {l:List Int} (h:wOK l) (n:Nat):0≤l.getD n default∧l.getD n default≤65535:=by
 by_cases hn:n<l.length
 ·rw [getD_lt hn];exact h _ (List.getElem_mem _)
 ·rw [List.getD,List.getElem?_eq_none (by omega)];decide
theorem wOK.snoc {l:List Int} (h:wOK l) {x:Int} (hx:0≤x∧x≤65535):wOK (l++ [x]):=fun z hz=>by
 rw [List.mem_append,List.mem_singleton]at hz
 rcases hz with hz | rfl
 ·exact h z hz
 ·exact hx
end Go.TX.F
namespace Go.TX.F
open Go Go.AE Go.TX
def ins (c:Int) (at_:List Int):List aj→List aj
 | []=>if c%65536=0 then []else [⟨c%65536,at_⟩]
 | m::o=>if dZ at_ m.atoms<0 then(if c%65536=0 then m::o else⟨c%65536,at_⟩::m::o)
  else if at_=m.atoms then(if(c+m.fZ)%65536=0 then o else⟨(c+m.fZ)%65536,at_⟩::o)else m::ins c at_ o
theorem aag {c:Int} {a:List Int} {x:aj} (hx:dZ x.atoms a<0):∀ {o:List aj},(∀y∈o,lt x y)→∀y∈ins c a o,lt x y
 | [],_,y,hy=>by
  unfold ins at hy
  split at hy
  ·cases hy
  ·rw [List.mem_singleton]at hy;subst hy;exact hx
 | m::o,h,y,hy=>by
  unfold ins at hy
  split at hy
  ·split at hy
   ·exact h y hy
   ·rcases List.mem_cons.1 hy with rfl | hy
    ·exact hx
    ·exact h y hy
  ·split at hy
   ·split at hy
    ·exact h y (List.mem_cons_of_mem _ hy)
    ·rcases List.mem_cons.1 hy with rfl | hy
     ·exact hx
     ·exact h y (List.mem_cons_of_mem _ hy)
   ·rcases List.mem_cons.1 hy with rfl | hy
    ·exact h _ (List.mem_cons_self ..)
    ·exact aag hx (fun z hz=>h z (List.mem_cons_of_mem _ hz)) y hy
theorem aah (c:Int) (a:List Int):∀ {o:List aj},Nf o→Nf (ins c a o)∧∀k,cf (ins c a o) k=((if a=k then c else 0)+cf o k)%65536
 | [],h=>by
  unfold ins
  by_cases h1:c%65536=0
  ·rw [if_pos h1];exact⟨h,fun k=>by rw [jo];split<;>omega⟩
  ·rw [if_neg h1]
   refine⟨⟨List.pairwise_singleton _ _,fun m hm=>by rw [List.mem_singleton]at hm;subst hm;dsimp only;omega⟩,fun k=> ?_⟩
   rw [bE,jo];dsimp only;split<;>omega
 | m::o,h=>by
  have hb:=h.bnd
  have ho:Nf o:=⟨h.ss.tail,fun x hx=>h.co x (List.mem_cons_of_mem _ hx)⟩
  have hm:=h.co m (List.mem_cons_self ..)
  unfold ins
  by_cases h1:dZ a m.atoms<0
  ·rw [if_pos h1]
   by_cases h2:c%65536=0
   ·rw [if_pos h2];exact⟨h,fun k=>by have:=hb k;split<;>omega⟩
   ·rw [if_neg h2]
    have g:Nf (⟨c%65536,a⟩::m::o):=⟨List.pairwise_cons.2 ⟨fun y hy=>by
     rcases List.mem_cons.1 hy with rfl | hy
     ·exact h1
     ·exact AX (b:=m) h1 (List.rel_of_pairwise_cons h.ss hy),h.ss⟩,fun x hx=>by
     rcases List.mem_cons.1 hx with rfl | hx
     ·dsimp only;omega
     ·exact h.co x hx⟩
    refine⟨g,fun k=> ?_⟩
    have hk:=hb k
    have gk:=g.bnd k
    rw [bE]at gk ⊢
    dsimp only at gk ⊢
    split<;>split at gk<;>omega
  ·rw [if_neg h1]
   by_cases h2:a=m.atoms
   ·rw [if_pos h2]
    by_cases h3:(c+m.fZ)%65536=0
    ·rw [if_pos h3]
     refine⟨ho,fun k=> ?_⟩
     have ok:=ho.bnd k
     have hk:=hb k
     rw [bE]at hk ⊢
     rw [h2]
     by_cases h4:m.atoms=k
     ·rw [if_pos h4,if_pos h4]
      have:cf o k=0:=gJ fun x hx e=>(List.rel_of_pairwise_cons h.ss hx:lt m x).ne (h4.trans e.symm)
      omega
     ·rw [if_neg h4,if_neg h4];omega
    ·rw [if_neg h3]
     have g:Nf (⟨(c+m.fZ)%65536,a⟩::o):=⟨List.pairwise_cons.2 ⟨fun y hy=>by
      have:lt m y:=List.rel_of_pairwise_cons h.ss hy
      unfold lt at this ⊢;rw [h2];exact this,ho.ss⟩,fun x hx=>by
      rcases List.mem_cons.1 hx with rfl | hx
      ·dsimp only;omega
      ·exact ho.co x hx⟩
     refine⟨g,fun k=> ?_⟩
     have ok:=ho.bnd k
     rw [bE,bE]
     dsimp only
     rw [h2]
     by_cases h4:m.atoms=k
     ·rw [if_pos h4,if_pos h4,if_pos h4]
      have:cf o k=0:=gJ fun x hx e=>(List.rel_of_pairwise_cons h.ss hx:lt m x).ne (h4.trans e.symm)
      omega
     ·rw [if_neg h4,if_neg h4,if_neg h4];omega
   ·rw [if_neg h2]
    obtain⟨i1,i2⟩:=aah c a ho
    have hlt:dZ m.atoms a<0:=by
     have:=kM m.atoms a
     by_cases z:dZ m.atoms a=0
     ·exact absurd (iD.1 z).symm h2
     ·omega
    refine⟨⟨List.pairwise_cons.2 ⟨aag hlt (fun y hy=>List.rel_of_pairwise_cons h.ss hy),i1.ss⟩,fun x hx=>by
     rcases List.mem_cons.1 hx with rfl | hx
     ·exact hm
     ·exact i1.co x hx⟩,fun k=> ?_⟩
    rw [bE,bE,i2 k]
    by_cases h4:m.atoms=k
    ·have:cf o k=0:=gJ fun x hx e=>(List.rel_of_pairwise_cons h.ss hx:lt m x).ne (h4.trans e.symm)
     rw [if_pos h4,if_neg (by rw [←h4];exact h2),this];omega
    ·rw [if_neg h4];omega
theorem adJ:∀l:List aj,∃o,Nf o∧∀k,cf o k=cf l k%65536
 | []=>⟨[],⟨List.Pairwise.nil,fun m hm=>by cases hm⟩,fun k=>rfl⟩
 | m::l=>by
  obtain⟨o,h1,h2⟩:=adJ l
  obtain⟨g1,g2⟩:=aah m.fZ m.atoms h1
  refine⟨_,g1,fun k=> ?_⟩
  rw [g2,bE,h2];split<;>omega
theorem KL (l:List aj):Nf (nf l)∧∀k,cf (nf l) k=cf l k%65536:=by
 obtain⟨o,h1,h2⟩:=adJ l
 rw [Jr h1 h2];exact⟨h1,h2⟩
theorem aai {op:Int} (hop:1≤op∧op≤5) {x y:List aj} (hx:aO x) (hy:aO y):aO (fP op x y).1:=by
 unfold fP
 split
 ·exact Vh _ _
 ·split
  ·exact Vh _ _
  ·split
   ·exact acN _ _
   ·unfold Cw
    repeat' split
    all_goals first | exact bW _ | exact bS | assumption
end Go.TX.F
namespace Go.TX.F
open Go Go.AE Go.TX
end Go.TX.F
namespace Go.TX.F
open Go Go.AE Go.TX
@[reducible] def hX (o : IOp) : Prop := o.kind ≠ 1 ∧ o.kind ≠ 2 ∧ o.kind ≠ 6
@[reducible] def hY (o : IOp) : Prop := o.kind = 3 ∨ o.kind = 5
@[reducible] def mkV (o : IOp) : Prop := (1 ≤ o.kind ∧ o.kind ≤ 4) ∨ o.kind = 6
@[reducible] def evO (o : IOp) : Prop := 4 ≤ o.kind ∧ o.kind ≤ 7
def Vl (ops:List IOp) (x n:Int):Prop:=0≤x∧x<n∧mkV ((ops).getD (x).toNat default)
structure Cx (ops:List IOp) (len i:Int) (o:IOp):Prop where
 kd:1≤o.kind∧o.kind≤8
 x1:hX o→Vl ops o.x i
 x0:¬hX o→o.x=0
 y1:hY o→Vl ops o.y i
 y0:¬hY o→o.y=0
 k1:o.kind=1→0≤o.k∧o.k≤65535
 k2:o.kind=2∨o.kind=8→0≤o.k∧o.k≤3
 k3:o.kind=3→1≤o.k∧o.k≤5
 k0:4≤o.kind→o.kind≤7→o.k=0
 a1:evO o→0≤o.at_∧o.at_<len
 a0:¬evO o→o.at_=0
structure zG (b:Blk):Prop where
 f:1≤b.fin∧b.fin≤4
 x1:b.fin≠1→Vl b.ops b.x b.ops.length
 x0:b.fin=1→b.x=0
 y1:3≤b.fin→Vl b.ops b.y b.ops.length
 y0:b.fin≤2→b.y=0
 k1:b.fin≠2→0≤b.k∧b.k≤65535
 k0:b.fin=2→b.k=0
structure dB (b:Blk):Prop where
 ln:1≤b.len∧b.len≤8
 pc:0≤b.pc∧b.pc≤64-b.len
 sz:b.ops.length≤48
 op:∀i:Int,0≤i→i<b.ops.length→Cx b.ops b.len i ((b.ops).getD (i).toNat default)
 en:zG b
structure SS where
 t:List Atom
 regs:List (List aj)
 vals:List (List aj)
 ld:Int
 inn:Int
 evs:List Ev
def xOf (s:SS) (o:IOp):List aj:=if hX o then((s.vals).getD (o.x).toNat default)else []
def yOf (s:SS) (o:IOp):List aj:=if hY o then((s.vals).getD (o.y).toNat default)else []
def aOf (s:SS) (o:IOp):Atom:=if o.kind=4 then⟨2,s.ld,[],[]⟩else⟨3,s.inn,[],[]⟩
noncomputable def nT (s:SS) (o:IOp):List Atom:=if o.kind=3 then(tDo s.t o.k (xOf s o) (yOf s o)).1 else if o.kind=4∨o.kind=6 then(bf s.t (aOf s o)).1 else s.t
noncomputable def nV (s:SS) (o:IOp):List aj:=if o.kind=1 then aP o.k else if o.kind=2 then((s.regs).getD (o.k).toNat default)else if o.kind=3 then(tDo s.t o.k (xOf s o) (yOf s o)).2 else if o.kind=4∨o.kind=6 then dz (bf s.t (aOf s o)).2 else []
def nR (s:SS) (o:IOp):List (List aj):=if o.kind=8 then s.regs.set o.k.toNat (xOf s o)else s.regs
def nE (s:SS) (o:IOp):List Ev:=if evO o then s.evs++ [⟨o.kind,o.at_,xOf s o,yOf s o,if o.kind=4∨o.kind=5 then s.regs else []⟩]else s.evs
noncomputable def stp (s:SS) (o:IOp):SS:=⟨nT s o,nR s o,s.vals++ [nV s o],if o.kind=4 then s.ld+1 else s.ld,if o.kind=6 then s.inn+1 else s.inn,nE s o⟩
noncomputable def rN (t:List Atom):Nat→List Atom×List (List aj)
 | 0=>(t,[])
 | n+1=>((bf (rN t n).1 ⟨1,n,[],[]⟩).1,(rN t n).2++ [dz (bf (rN t n).1 ⟨1,n,[],[]⟩).2])
noncomputable def s0 (t:List Atom):SS:=⟨(rN t 4).1,(rN t 4).2,[],0,0,[]⟩
noncomputable def cB (t:List Atom) (b:Blk):SS:=b.ops.foldl stp (s0 t)
def jq (b:Blk) (s:SS):Sym:=⟨s.evs,s.regs,b.fin,if b.fin=1 then []else((s.vals).getD (b.x).toNat default),if 3≤b.fin then((s.vals).getD (b.y).toNat default)else [],b.k⟩
def aaj:Sym:=⟨[],[],0,[],[],0⟩
noncomputable def symEnd (s:Sym) (behind:Int):Sym:=
 if bp (aO s.x∧aO s.y)=false then aaj
 else if s.fin=2∧(dL s.x).2=true then⟨s.events,s.regs,1,[],[],(dL s.x).1⟩
 else if s.fin≠3∧s.fin≠4 then s
 else if s.x=s.y∨(dL s.x).2=true∧(dL s.y).2=true then
  ⟨s.events,s.regs,1,[],[],if s.x=s.y∧s.fin=3∨((dL s.x).2=true∧(dL s.y).2=true)∧(s.fin=3∧(dL s.x).1=(dL s.y).1∨s.fin=4∧(dL s.x).1< (dL s.y).1)then s.k else behind⟩
 else if s.fin=3∧0<dP s.x s.y then⟨s.events,s.regs,s.fin,s.y,s.x,s.k⟩else s
noncomputable def bD (t:List Atom) (b:Blk):List Atom×Sym:=if bp (aG t∧t.length≤100∧dB b)=true then((cB t b).t,symEnd (jq b (cB t b)) (b.pc+b.len))else([],aaj)
theorem nP (t:List Atom) (a:Atom):t<+:(bf t a).1:=by
 unfold bf
 split
 ·exact List.prefix_refl _
 ·split
  ·exact List.prefix_refl _
  ·exact List.prefix_append _ _
theorem je {α:Type} {a b:List α} (h:a<+:b):a.length≤b.length:=h.length_le
theorem aak {α:Type} {d:α} {a b:List α} (h:a<+:b) {i:Int} (h1:i.toNat<a.length):b.getD i.toNat d=a.getD i.toNat d:=by
 obtain⟨c,rfl⟩:=h
 rw [getD_lt h1,getD_lt (by rw [List.length_append];omega),List.getElem_append_left h1]
theorem rQ {t:List Atom} {a:Atom} (h:0≤(bf t a).2):(bf t a).2< (bf t a).1.length∧(((bf t a).1).getD ((bf t a).2).toNat default)=a:=by
 have hsp:=kN t a
 revert h
 unfold bf
 split
 ·intro h
  rcases hsp with⟨h1,_⟩ | ⟨_,h2,h3,_⟩
  ·exact absurd h (by dsimp only;omega)
  ·exact⟨h2,h3.symm⟩
 ·split
  ·intro h;exact absurd h (by dsimp only;omega)
  ·intro _
   dsimp only
   refine⟨by rw [List.length_append];simp only [List.length_cons,List.length_nil];omega,?_⟩
   rw [getD_lt (by rw [List.length_append];simp only [List.length_cons,List.length_nil];omega)]
   simp
theorem SE {u:List Atom} {a:Atom} (hu:aG u) {k:Int} (h0:0≤k) (h1:k<u.length) (h2:((u).getD (k).toNat default)=a):bf u a=(u,k):=by
 have hf:sH u a=k:=by
  refine(kN u a).uniq (Or.inr ⟨h0,h1,h2.symm,fun j j1 j2=> ?_⟩)
  have:=(jI.1 hu).1 k h0 h1
  have g:=this.2 j j1 j2
  dsimp only at g ⊢
  rw [h2]at g;exact g
 unfold bf
 rw [hf,if_pos h0]
theorem zH {t u:List Atom} {a:Atom} (hu:aG u) (h:0≤(bf t a).2) (hp:(bf t a).1<+:u):bf u a=(u,(bf t a).2):=by
 obtain⟨g1,g2⟩:=rQ h
 have:=je hp
 exact SE hu h (by omega) (by rw [aak hp (by omega),g2])
theorem OU {op n:Int} {x y:List aj} (ux:bg x n) (uy:bg y n):bg (fP op x y).1 n:=by
 unfold fP
 split
 ·exact Hy ux uy
 ·split
  ·refine Hy ux ?_
   unfold iM
   split
   ·exact Hz uy (uZ _ _)
   ·exact iT _
  ·split
   ·exact Hz ux uy
   ·unfold Cw
    repeat' split
    all_goals first | exact ux | exact uy | exact iT _ | exact uZ _ _
structure aik (t:List Atom) (op:Int) (x y:List aj):Prop where
 tok:aG (tDo t op x y).1
 pre:t<+:(tDo t op x y).1
 len:(tDo t op x y).1.length≤t.length+1
 pok:aO (tDo t op x y).2
 und:bg (tDo t op x y).2 (tDo t op x y).1.length
 ok:tOk t op x y=true
theorem acO {t:List Atom} {op:Int} {x y:List aj} (h:aG t) (h2:t.length<200) (h3:1≤op∧op≤5) (hx:aO x) (hy:aO y) (ux:bg x t.length) (uy:bg y t.length):aik t op x y:=by
 by_cases c:(fP op x y).2=true
 ·have e:tDo t op x y=(t,(fP op x y).1):=by unfold tDo;rw [if_pos c]
  refine⟨?_,?_,?_,?_,?_,by unfold tOk;rw [c];rfl⟩<;>rw [e]
  ·exact h
  ·exact List.prefix_refl _
  ·exact Nat.le_succ _
  ·exact aai h3 hx hy
  ·exact OU ux uy
 ·have key:∀x' y',aO x'→aO y'→bg x' t.length→bg y' t.length→0≤(bf t ⟨4,op,x',y'⟩).2∧aG (bf t ⟨4,op,x',y'⟩).1∧(bf t ⟨4,op,x',y'⟩).1.length≤t.length+1:=fun x' y' a1 a2 a3 a4=>by
   have p1:=zD (a:=⟨4,op,x',y'⟩) h h2
   have q1:=p1.2.2.2 (by unfold gU;rw [if_pos rfl];exact⟨h3,a1,a2,a3,a4⟩)
   exact⟨q1,p1.1,p1.2.2.1⟩
  by_cases c2:op≠2∧0<dP x y
  ·obtain⟨k1,k2,k3⟩:=key y x hy hx uy ux
   have e:tDo t op x y=((bf t ⟨4,op,y,x⟩).1,dz (bf t ⟨4,op,y,x⟩).2):=by unfold tDo;rw [if_neg c,if_pos c2,if_neg (by omega)]
   refine⟨?_,?_,?_,?_,?_,by unfold tOk;rw [if_pos c2,decide_eq_false (by omega),Bool.not_false,Bool.or_true]⟩<;>rw [e]
   ·exact k2
   ·exact nP _ _
   ·exact k3
   ·exact kP _
   ·exact rP (rQ k1).1
  ·obtain⟨k1,k2,k3⟩:=key x y hx hy ux uy
   have e:tDo t op x y=((bf t ⟨4,op,x,y⟩).1,dz (bf t ⟨4,op,x,y⟩).2):=by unfold tDo;rw [if_neg c,if_neg c2,if_neg (by omega)]
   refine⟨?_,?_,?_,?_,?_,by unfold tOk;rw [if_neg c2,decide_eq_false (by omega),Bool.not_false,Bool.or_true]⟩<;>rw [e]
   ·exact k2
   ·exact nP _ _
   ·exact k3
   ·exact kP _
   ·exact rP (rQ k1).1
theorem aal {t u:List Atom} {op:Int} {x y:List aj} (hu:aG u) (h:tOk t op x y=true) (hp:(tDo t op x y).1<+:u):tDo u op x y=(u,(tDo t op x y).2):=by
 by_cases c:(fP op x y).2=true
 ·unfold tDo;rw [if_pos c,if_pos c]
 ·by_cases c2:op≠2∧0<dP x y
  ·have k1:0≤(bf t ⟨4,op,y,x⟩).2:=by
    unfold tOk at h;rw [if_pos c2,Bool.or_eq_true,Bool.not_eq_true',decide_eq_false_iff_not]at h;have:=h.resolve_left c;omega
   have e:tDo t op x y=((bf t ⟨4,op,y,x⟩).1,dz (bf t ⟨4,op,y,x⟩).2):=by unfold tDo;rw [if_neg c,if_pos c2,if_neg (by omega)]
   rw [e]at hp ⊢
   have:=zH hu k1 hp
   unfold tDo;rw [if_neg c,if_pos c2,this,if_neg (by dsimp only;omega)]
  ·have k1:0≤(bf t ⟨4,op,x,y⟩).2:=by
    unfold tOk at h;rw [if_neg c2,Bool.or_eq_true,Bool.not_eq_true',decide_eq_false_iff_not]at h;have:=h.resolve_left c;omega
   have e:tDo t op x y=((bf t ⟨4,op,x,y⟩).1,dz (bf t ⟨4,op,x,y⟩).2):=by unfold tDo;rw [if_neg c,if_neg c2,if_neg (by omega)]
   rw [e]at hp ⊢
   have:=zH hu k1 hp
   unfold tDo;rw [if_neg c,if_neg c2,this,if_neg (by dsimp only;omega)]
end Go.TX.F
namespace Go.TX.F
open Go Go.AE Go.TX
structure SI (n:Int) (i:Nat) (s:SS):Prop where
 tok:aG s.t
 tl:(s.t.length:Int)≤n+i
 r4:s.regs.length=4
 rok:∀p∈s.regs,aO p∧bg p s.t.length
 vl:s.vals.length=i
 vok:∀p∈s.vals,aO p∧bg p s.t.length
 ld:0≤s.ld∧s.ld≤i
 inn:0≤s.inn∧s.inn≤i
theorem AY {l:List (List aj)} {n:Int} (h:∀p∈l,aO p∧bg p n) (i:Int):aO ((l).getD (i).toNat default)∧bg ((l).getD (i).toNat default) n:=by
 by_cases c:i.toNat<l.length
 ·rw [getD_lt c];exact h _ (List.getElem_mem _)
 ·rw [List.getD_eq_getElem?_getD,List.getElem?_eq_none (by omega)];exact⟨bS,iT _⟩
theorem SI.x {n:Int} {i:Nat} {s:SS} (h:SI n i s) (o:IOp):aO (xOf s o)∧bg (xOf s o) s.t.length:=by
 unfold xOf;split
 ·exact AY h.vok _
 ·exact⟨bS,iT _⟩
theorem SI.y {n:Int} {i:Nat} {s:SS} (h:SI n i s) (o:IOp):aO (yOf s o)∧bg (yOf s o) s.t.length:=by
 unfold yOf;split
 ·exact AY h.vok _
 ·exact⟨bS,iT _⟩
theorem Vk {n:Int} {i:Nat} {s:SS} (h:SI n i s) (hi:i<200) (o:IOp) (m:Int):gU (aOf s o) m:=by
 have h1:=h.ld
 have h2:=h.inn
 unfold aOf
 split
 ·unfold gU;rw [if_neg (by simp)];exact⟨⟨rfl,rfl⟩,Or.inr ⟨Or.inl rfl,by dsimp only;omega,by dsimp only;omega⟩⟩
 ·unfold gU;rw [if_neg (by simp)];exact⟨⟨rfl,rfl⟩,Or.inr ⟨Or.inr rfl,by dsimp only;omega,by dsimp only;omega⟩⟩
structure SOK (s:SS) (o:IOp):Prop where
 pre:s.t<+:(stp s o).t
 d:o.kind=3→aik s.t o.k (xOf s o) (yOf s o)
 p:o.kind=4∨o.kind=6→0≤(bf s.t (aOf s o)).2
theorem yH {n:Int} {i:Nat} {s:SS} {o:IOp} (h:SI n i s) (hk:o.kind=3→1≤o.k∧o.k≤5) (hn:n+i<200) (hi:i<200):SI n (i+1) (stp s o)∧SOK s o:=by
 have hl:=h.tl
 have tl:s.t.length<200:=by omega
 have hd:o.kind=3→aik s.t o.k (xOf s o) (yOf s o):=fun e=>acO h.tok tl (hk e) (h.x o).1 (h.y o).1 (h.x o).2 (h.y o).2
 have hput:=zD (a:=aOf s o) h.tok tl
 have hp:=hput.2.2.2 (Vk h hi o _)
 have T:aG (nT s o)∧(nT s o).length≤s.t.length+1∧s.t<+:nT s o:=by
  unfold nT
  split
  ·rename_i e;have:=hd e;exact⟨this.tok,this.len,this.pre⟩
  ·split
   ·exact⟨hput.1,hput.2.2.1,nP _ _⟩
   ·exact⟨h.tok,Nat.le_succ _,List.prefix_refl _⟩
 have up:∀ {p:List aj},aO p∧bg p s.t.length→aO p∧bg p (nT s o).length:=fun hp=>⟨hp.1,JA hp.2 (by have:=je T.2.2;omega)⟩
 have V:aO (nV s o)∧bg (nV s o) (nT s o).length:=by
  unfold nV
  split
  ·exact⟨bW _,uZ _ _⟩
  ·split
   ·exact up (AY h.rok _)
   ·split
    ·rename_i e
     have:=hd e
     refine⟨this.pok,?_⟩
     have e2:nT s o=(tDo s.t o.k (xOf s o) (yOf s o)).1:=by unfold nT;rw [if_pos e]
     rw [e2];exact this.und
    ·split
     ·rename_i e1 e2
      have e3:nT s o=(bf s.t (aOf s o)).1:=by unfold nT;rw [if_neg (by omega),if_pos e2]
      rw [e3]
      exact⟨kP _,rP (rQ hp).1⟩
     ·exact⟨bS,iT _⟩
 have g1:=h.ld
 have g2:=h.inn
 refine⟨⟨T.1,?_,?_,?_,?_,?_,?_,?_⟩,⟨T.2.2,hd,fun _=>hp⟩⟩
 ·have:=T.2.1;show((nT s o).length:Int)≤_;omega
 ·show(nR s o).length=4
  unfold nR;split
  ·rw [List.length_set];exact h.r4
  ·exact h.r4
 ·show∀p∈nR s o,_
  intro p hp
  unfold nR at hp;split at hp
  ·rcases List.mem_or_eq_of_mem_set hp with hp | rfl
   ·exact up (h.rok p hp)
   ·exact up (h.x o)
  ·exact up (h.rok p hp)
 ·show(s.vals++ [nV s o]).length=i+1
  rw [List.length_append,h.vl];rfl
 ·show∀p∈s.vals++ [nV s o],_
  intro p hp
  rw [List.mem_append,List.mem_singleton]at hp
  rcases hp with hp | rfl
  ·exact up (h.vok p hp)
  ·exact V
 ·show 0≤(if o.kind=4 then s.ld+1 else s.ld)∧(if o.kind=4 then s.ld+1 else s.ld)≤_
  split<;>omega
 ·show 0≤(if o.kind=6 then s.inn+1 else s.inn)∧(if o.kind=6 then s.inn+1 else s.inn)≤_
  split<;>omega
theorem yI {n:Int}:∀(ops:List IOp) (i:Nat) (s:SS),SI n i s→(∀o∈ops,o.kind=3→1≤o.k∧o.k≤5)→n+i+ops.length≤200→i+ops.length≤200→SI n (i+ops.length) (ops.foldl stp s)∧s.t<+:(ops.foldl stp s).t
 | [],i,s,h,_,_,_=>⟨h,List.prefix_refl _⟩
 | o::r,i,s,h,hk,h1,h2=>by
  rw [List.length_cons]at h1 h2
  obtain⟨a1,a2⟩:=yH h (hk o List.mem_cons_self) (by omega) (by omega)
  obtain⟨b1,b2⟩:=yI r (i+1) (stp s o) a1 (fun o ho=>hk o (List.mem_cons_of_mem _ ho)) (by omega) (by omega)
  rw [List.foldl_cons,List.length_cons,show i+(r.length+1)=i+1+r.length by omega]
  exact⟨b1,a2.pre.trans b2⟩
structure RI (t:List Atom) (n:Nat) (r:List Atom×List (List aj)):Prop where
 tok:aG r.1
 tl:r.1.length≤t.length+n
 pre:t<+:r.1
 r4:r.2.length=n
 rok:∀p∈r.2,aO p∧bg p r.1.length
theorem BZ {t:List Atom} (h:aG t) (hl:t.length≤196):∀n:Nat,n≤4→RI t n (rN t n)
 | 0,_=>⟨h,Nat.le_refl _,List.prefix_refl _,rfl,fun p hp=>absurd hp (by simp [rN])⟩
 | n+1,hn=>by
  have ih:=BZ h hl n (by omega)
  have l:=ih.tl
  have hp:=zD (a:=⟨1,n,[],[]⟩) ih.tok (by omega)
  have h0:=hp.2.2.2 (by unfold gU;rw [if_neg (by simp)];exact⟨⟨rfl,rfl⟩,Or.inl ⟨rfl,by dsimp only;omega,by dsimp only;omega⟩⟩)
  have pr:=nP (rN t n).1 ⟨1,n,[],[]⟩
  unfold rN
  refine⟨hp.1,?_,ih.pre.trans pr,?_,fun p h=> ?_⟩
  ·have:=hp.2.2.1;dsimp only;omega
  ·dsimp only;rw [List.length_append,ih.r4];rfl
  ·dsimp only at h ⊢
   rw [List.mem_append,List.mem_singleton]at h
   rcases h with h | rfl
   ·have:=ih.rok p h;exact⟨this.1,JA this.2 (by have:=je pr;omega)⟩
   ·exact⟨kP _,rP (rQ h0).1⟩
theorem H6 {t:List Atom} (h:aG t) (hl:t.length≤196) {n:Nat} (hn:n<4):0≤(bf (rN t n).1 ⟨1,n,[],[]⟩).2:=by
 have ih:=BZ h hl n (by omega)
 have l:=ih.tl
 exact(zD (a:=⟨1,n,[],[]⟩) ih.tok (by omega)).2.2.2 (by unfold gU;rw [if_neg (by simp)];exact⟨⟨rfl,rfl⟩,Or.inl ⟨rfl,by dsimp only;omega,by dsimp only;omega⟩⟩)
theorem zI {t:List Atom} (h:aG t) (hl:t.length≤196):SI (t.length+4) 0 (s0 t):=by
 have:=BZ h hl 4 (by omega)
 have l:=this.tl
 exact⟨this.tok,by show((rN t 4).1.length:Int)≤_;omega,this.r4,this.rok,rfl,fun p hp=>absurd hp (by simp [s0]),by simp [s0],by simp [s0]⟩
theorem dB.k3 {b:Blk} (h:dB b):∀o∈b.ops,o.kind=3→1≤o.k∧o.k≤5:=fun o ho=>by
 obtain⟨i,hi,rfl⟩:=List.getElem_of_mem ho
 have:=(h.op i (by omega) (by omega)).k3
 rw [show(i:Int).toNat=i from rfl,getD_lt hi]at this
 exact this
theorem rR {t:List Atom} {b:Blk} (h:aG t) (hl:t.length≤100) (hb:dB b):SI (t.length+4) b.ops.length (cB t b)∧t<+:(cB t b).t:=by
 have sz:=hb.sz
 obtain⟨h1,h2⟩:=yI b.ops 0 (s0 t) (zI h (by omega)) hb.k3 (by omega) (by omega)
 rw [Nat.zero_add]at h1
 exact⟨h1,(BZ h (by omega) 4 (by omega)).pre.trans h2⟩
def SS.on (s:SS) (u:List Atom):SS:=⟨u,s.regs,s.vals,s.ld,s.inn,s.evs⟩
theorem ail {s:SS} {o:IOp} {u:List Atom} (hu:aG u) (h:SOK s o) (hp:(stp s o).t<+:u):stp (s.on u) o=(stp s o).on u:=by
 have hp:nT s o<+:u:=hp
 have ex:xOf (s.on u) o=xOf s o:=rfl
 have ey:yOf (s.on u) o=yOf s o:=rfl
 have ea:aOf (s.on u) o=aOf s o:=rfl
 have eT:nT (s.on u) o=u:=by
  unfold nT
  split
  ·rename_i e
   rw [ex,ey]
   have h3:=(h.d e).ok
   unfold nT at hp;rw [if_pos e]at hp
   rw [show(s.on u).t=u from rfl,aal hu h3 hp]
  ·split
   ·rename_i e1 e2
    unfold nT at hp;rw [if_neg e1,if_pos e2]at hp
    rw [ea,show(s.on u).t=u from rfl,zH hu (h.p e2) hp]
   ·rfl
 have eV:nV (s.on u) o=nV s o:=by
  unfold nV
  split
  ·rfl
  ·split
   ·rfl
   ·split
    ·rename_i e
     rw [ex,ey]
     have h3:=(h.d e).ok
     unfold nT at hp;rw [if_pos e]at hp
     rw [show(s.on u).t=u from rfl,aal hu h3 hp]
    ·split
     ·rename_i e1 e2
      unfold nT at hp;rw [if_neg e1,if_pos e2]at hp
      rw [ea,show(s.on u).t=u from rfl,zH hu (h.p e2) hp]
     ·rfl
 show SS.mk (nT (s.on u) o) (nR (s.on u) o) ((s.on u).vals++ [nV (s.on u) o]) _ _ (nE (s.on u) o)=SS.mk u (nR s o) (s.vals++ [nV s o]) _ _ (nE s o)
 rw [eT,eV];rfl
theorem aam {n:Int} {u:List Atom} (hu:aG u):∀(ops:List IOp) (i:Nat) (s:SS),SI n i s→(∀o∈ops,o.kind=3→1≤o.k∧o.k≤5)→n+i+ops.length≤200→i+ops.length≤200→(ops.foldl stp s).t<+:u→ops.foldl stp (s.on u)=(ops.foldl stp s).on u
 | [],i,s,h,_,_,_,_=>rfl
 | o::r,i,s,h,hk,h1,h2,hp=>by
  rw [List.length_cons]at h1 h2
  obtain⟨a1,a2⟩:=yH h (hk o List.mem_cons_self) (by omega) (by omega)
  rw [List.foldl_cons]at hp
  obtain⟨_,b2⟩:=yI r (i+1) (stp s o) a1 (fun o ho=>hk o (List.mem_cons_of_mem _ ho)) (by omega) (by omega)
  rw [List.foldl_cons,List.foldl_cons,ail hu a2 (b2.trans hp)]
  exact aam hu r (i+1) (stp s o) a1 (fun o ho=>hk o (List.mem_cons_of_mem _ ho)) (by omega) (by omega) hp
theorem aan {t u:List Atom} (h:aG t) (hl:t.length≤196) (hu:aG u):∀n:Nat,n≤4→(rN t n).1<+:u→rN u n=(u,(rN t n).2)
 | 0,_,_=>rfl
 | n+1,hn,hp=>by
  have h0:=H6 h hl (n:=n) (by omega)
  have pr:=nP (rN t n).1 ⟨1,n,[],[]⟩
  have hp':(bf (rN t n).1 ⟨1,n,[],[]⟩).1<+:u:=hp
  have ih:=aan h hl hu n (by omega) (pr.trans hp')
  show((bf (rN u n).1 ⟨1,n,[],[]⟩).1,(rN u n).2++ [dz (bf (rN u n).1 ⟨1,n,[],[]⟩).2])=(u,(rN t n).2++ [dz (bf (rN t n).1 ⟨1,n,[],[]⟩).2])
  rw [ih]
  dsimp only
  rw [zH hu h0 hp']
theorem KM {t u:List Atom} {b:Blk} (h:aG t) (hl:t.length≤100) (hb:dB b) (hu:aG u) (hp:(cB t b).t<+:u):cB u b=(cB t b).on u:=by
 have sz:=hb.sz
 have i0:=zI h (by omega)
 obtain⟨_,h2⟩:=yI b.ops 0 (s0 t) i0 hb.k3 (by omega) (by omega)
 have e:s0 u=(s0 t).on u:=by
  unfold s0 SS.on
  rw [aan h (by omega) hu 4 (by omega) (h2.trans hp)]
 unfold cB at hp ⊢
 rw [e]
 exact aam hu b.ops 0 (s0 t) i0 hb.k3 (by omega) (by omega) hp
theorem Vm (b:Blk) (s:SS) (u:List Atom):jq b (s.on u)=jq b s:=rfl
theorem jr {t:List Atom} {b:Blk} (h:aG t) (hl:t.length≤100) (hb:dB b):bD t b=((cB t b).t,symEnd (jq b (cB t b)) (b.pc+b.len)):=by
 unfold bD;rw [if_pos (bO ⟨h,hl,hb⟩)]
theorem WM {t u:List Atom} {b:Blk} (h:aG t) (hl:t.length≤100) (hb:dB b) (hu:aG u) (hlu:u.length≤100) (hp:(bD t b).1<+:u):bD u b=(u,(bD t b).2):=by
 rw [jr h hl hb]at hp ⊢
 rw [jr hu hlu hb,KM h hl hb hu hp]
 rfl
theorem JC {t:List Atom} {b:Blk} (h:aG t) (hl:t.length≤100) (hb:dB b):aG (bD t b).1∧t<+:(bD t b).1∧(bD t b).1.length≤t.length+b.ops.length+4:=by
 unfold bD
 rw [if_pos (bO ⟨h,hl,hb⟩)]
 obtain⟨h1,h2⟩:=rR h hl hb
 have:=h1.tl
 exact⟨h1.tok,h2,by dsimp only;omega⟩
end Go.TX.F
namespace Go.TX.F
open Go Go.AE Go.TX
def ShP (l:List (List aj)):Prop:=l.length<1000000000∧∀p∈l,Sh p
def ShE (e:Ev):Prop:=Sh e.x∧Sh e.y∧ShP e.regs
def WO (l:List Ev):Prop:=l.length<1000000000∧∀e∈l,ShE e
structure ShY (s:Sym):Prop where
 e:WO s.events
 r:ShP s.regs
 x:Sh s.x
 y:Sh s.y
theorem ShP.at {l:List (List aj)} (h:ShP l) (n:Nat):Sh (l.getD n default):=by
 by_cases c:n<l.length
 ·rw [getD_lt c];exact h.2 _ (List.getElem_mem _)
 ·rw [List.getD_eq_getElem?_getD,List.getElem?_eq_none (by omega)];exact nN
theorem KN:ShP []:=⟨by simp,fun p h=>absurd h (by simp)⟩
theorem WO.at {l:List Ev} (h:WO l) (n:Nat):ShE (l.getD n default):=by
 by_cases c:n<l.length
 ·rw [getD_lt c];exact h.2 _ (List.getElem_mem _)
 ·rw [List.getD_eq_getElem?_getD,List.getElem?_eq_none (by omega)];exact⟨nN,nN,KN⟩
theorem acP:ShY aaj:=⟨⟨by simp [aaj],fun e h=>absurd h (by simp [aaj])⟩,KN,nN,nN⟩
theorem SI.regs {n:Int} {i:Nat} {s:SS} (h:SI n i s):ShP s.regs:=⟨by have:=h.r4;omega,fun p hp=>(h.rok p hp).1.sh⟩
theorem acQ {n:Int} {i:Nat} {s:SS} {o:IOp} (h:SI n i s) (h2:s.evs.length≤i∧∀e∈s.evs,ShE e):(stp s o).evs.length≤i+1∧∀e∈(stp s o).evs,ShE e:=by
 show(nE s o).length≤i+1∧∀e∈nE s o,ShE e
 unfold nE
 split
 ·refine⟨by rw [List.length_append];have:=h2.1;simp only [List.length_cons,List.length_nil];omega,fun e he=> ?_⟩
  rw [List.mem_append,List.mem_singleton]at he
  rcases he with he | rfl
  ·exact h2.2 e he
  ·refine⟨(h.x o).1.sh,(h.y o).1.sh,?_⟩
   dsimp only
   split
   ·exact h.regs
   ·exact KN
 ·exact⟨by have:=h2.1;omega,h2.2⟩
theorem SF {n:Int}:∀(ops:List IOp) (i:Nat) (s:SS),SI n i s→(∀o∈ops,o.kind=3→1≤o.k∧o.k≤5)→n+i+ops.length≤200→i+ops.length≤200→(s.evs.length≤i∧∀e∈s.evs,ShE e)→(ops.foldl stp s).evs.length≤i+ops.length∧∀e∈(ops.foldl stp s).evs,ShE e
 | [],i,s,h,_,_,_,h3=>h3
 | o::r,i,s,h,hk,h1,h2,h3=>by
  rw [List.length_cons]at h1 h2
  obtain⟨a1,a2⟩:=yH h (hk o List.mem_cons_self) (by omega) (by omega)
  have:=SF r (i+1) (stp s o) a1 (fun o ho=>hk o (List.mem_cons_of_mem _ ho)) (by omega) (by omega) (acQ h h3)
  rw [List.foldl_cons,List.length_cons,show i+(r.length+1)=i+1+r.length by omega]
  exact this
def evT (e:Ev):Int×Int×Nat:=(e.kind,e.at_,e.regs.length)
def opT (o:IOp):Int×Int×Nat:=(o.kind,o.at_,if o.kind=4∨o.kind=5 then 4 else 0)
def Vn (ops:List IOp):List IOp:=ops.filter fun o=>decide (evO o)
theorem Vo:∀(ops:List IOp) (s:SS),s.regs.length=4→(ops.foldl stp s).evs.map evT=s.evs.map evT++(Vn ops).map opT
 | [],s,_=>by simp [Vn]
 | o::r,s,h=>by
  have h':(stp s o).regs.length=4:=by
   show(nR s o).length=4
   unfold nR;split
   ·rw [List.length_set];exact h
   ·exact h
  rw [List.foldl_cons,Vo r (stp s o) h']
  show(nE s o).map evT++_=_
  unfold nE Vn
  by_cases c:evO o
  ·have e:evT ⟨o.kind,o.at_,xOf s o,yOf s o,if o.kind=4∨o.kind=5 then s.regs else []⟩=opT o:=by
    unfold evT opT
    dsimp only
    split
    ·rw [h]
    ·rfl
   rw [if_pos c,List.filter_cons_of_pos (by simpa using c),List.map_append,List.append_assoc]
   refine congrArg (s.evs.map evT++ ·) ?_
   show evT _::_=opT o::_
   rw [e];rfl
  ·rw [if_neg c,List.filter_cons_of_neg (by simpa using c)]
theorem KO {n:Int} {i:Nat} {s:SS} {b:Blk} (h:SI n i s):aO (jq b s).x∧aO (jq b s).y:=by
 unfold jq
 dsimp only
 constructor
 ·split
  ·exact bS
  ·exact(AY h.vok _).1
 ·split
  ·exact(AY h.vok _).1
  ·exact bS
theorem KQ {s:Sym} {n:Int} (h:aO s.x∧aO s.y):(symEnd s n).events=s.events∧(symEnd s n).regs=s.regs∧aO (symEnd s n).x∧aO (symEnd s n).y:=by
 unfold symEnd
 rw [if_neg (by rw [bO h];simp)]
 repeat' split
 all_goals first | exact⟨rfl,rfl,h⟩ | exact⟨rfl,rfl,bS,bS⟩ | exact⟨rfl,rfl,h.2,h.1⟩
structure aoN (t:List Atom) (b:Blk):Prop where
 evs:(bD t b).2.events.map evT=(Vn b.ops).map opT
 r4:(bD t b).2.regs.length=4
 sh:ShY (bD t b).2
 ne:0< (bD t b).1.length
theorem OV {t:List Atom} {b:Blk} (h:aG t) (hl:t.length≤100) (hb:dB b):aoN t b:=by
 have sz:=hb.sz
 have i0:=zI h (by omega)
 obtain⟨h1,h2⟩:=rR h hl hb
 have hs:=SF b.ops 0 (s0 t) i0 hb.k3 (by omega) (by omega) ⟨by simp [s0],fun e he=>absurd he (by simp [s0])⟩
 have he:=Vo b.ops (s0 t) i0.r4
 have hk:=KQ (n:=b.pc+b.len) (KO (b:=b) h1)
 have e:bD t b=((cB t b).t,symEnd (jq b (cB t b)) (b.pc+b.len)):=by unfold bD;rw [if_pos (bO ⟨h,hl,hb⟩)]
 rw [Nat.zero_add]at hs
 refine⟨?_,?_,?_,?_⟩
 ·rw [e];dsimp only;rw [hk.1];show(cB t b).evs.map evT=_;unfold cB;rw [he];rfl
 ·rw [e];dsimp only;rw [hk.2.1];exact h1.r4
 ·rw [e]
  refine⟨?_,?_,hk.2.2.1.sh,hk.2.2.2.sh⟩
  ·rw [hk.1];exact⟨by have:=hs.1;show(b.ops.foldl stp (s0 t)).evs.length<_;omega,hs.2⟩
  ·rw [hk.2.1];exact h1.regs
 ·rw [e]
  have r:=yI b.ops 0 (s0 t) i0 hb.k3 (by omega) (by omega)
  have:=je r.2
  have p:=rQ (H6 h (by omega) (n:=3) (by omega))
  have p0:=H6 h (by omega) (n:=3) (by omega)
  show 0< (cB t b).t.length
  have:(s0 t).t.length=(bf (rN t 3).1 ⟨1,(3:Nat),[],[]⟩).1.length:=rfl
  unfold cB
  omega
theorem KR (t:List Atom) (b:Blk):ShY (bD t b).2∧ShT (bD t b).1:=by
 by_cases c:aG t∧t.length≤100∧dB b
 ·exact⟨(OV c.1 c.2.1 c.2.2).sh,(JC c.1 c.2.1 c.2.2).1.sh⟩
 ·unfold bD;rw [iB c,if_neg (by simp)];exact⟨acP,acL⟩
noncomputable def t4:List Atom:=(rN [] 4).1
theorem mJ:aG []:=jI.2 ⟨All.zero,by simp⟩
theorem Vp:aG t4∧t4.length≤4:=by
 have:=BZ mJ (by simp) 4 (by omega)
 exact⟨this.tok,Nat.le_trans this.tl (by simp)⟩
noncomputable def chk (b c:Blk):Bool:=bp (dB b∧dB c∧b.pc=c.pc∧b.len=c.len∧(b=c∨(bD t4 b).2=(bD (bD t4 b).1 c).2))
structure Lk (b c:Blk):Prop where
 ob:dB b
 oc:dB c
 pc:b.pc=c.pc
 len:b.len=c.len
 run:∀u,aG u→u.length≤100→(bD u b).1=u→bD u c=bD u b
theorem Lk.refl {b:Blk} (h:dB b):Lk b b:=⟨h,h,rfl,rfl,fun _ _ _ _=>rfl⟩
theorem Lk.trans {b c d:Blk} (h:Lk b c) (g:Lk c d):Lk b d:=⟨h.ob,g.oc,h.pc.trans g.pc,h.len.trans g.len,fun u h1 h2 h3=>by
 have e:=h.run u h1 h2 h3
 rw [g.run u h1 h2 (by rw [e];exact h3),e]⟩
theorem Vq {b:Blk} (hb:dB b):aG (bD t4 b).1∧(bD t4 b).1.length≤100∧bD (bD t4 b).1 b=bD t4 b:=by
 have h4:=Vp
 have hr:=JC h4.1 (by omega) hb
 have sz:=hb.sz
 refine⟨hr.1,by omega,?_⟩
 have:=WM h4.1 (by omega) hb hr.1 (by omega) (List.prefix_refl _)
 rw [this]
theorem Lk.chk {b c:Blk} (h:Lk b c):chk b c=true:=by
 obtain⟨h1,h2,h3⟩:=Vq h.ob
 refine bO ⟨h.ob,h.oc,h.pc,h.len,Or.inr ?_⟩
 rw [h.run _ h1 h2 (by rw [h3]),h3]
end Go.TX.F
namespace Go.TX.F
open Go Go.AE Go.TX
def acR:Blk:=⟨0,0,[],0,0,0,0⟩
theorem iU {α:Type} {d x:α} {l:List α} {i:Nat}:(l++ [x]).getD i d=if i<l.length then l.getD i d else if i=l.length then x else d:=by
 split
 ·rename_i h;rw [getD_lt (by rw [List.length_append];omega),getD_lt h,List.getElem_append_left]
 ·split
  ·rename_i h1 h2;subst h2;rw [getD_lt (by simp)];simp
  ·rw [List.getD_eq_getElem?_getD,List.getElem?_eq_none (by rw [List.length_append];simp only [List.length_cons,List.length_nil];omega)];rfl
theorem nQ (f:SS→IOp→SS) (s:SS) {l:List IOp} {i:Nat} (h:i<l.length):(l.take (i+1)).foldl f s=f ((l.take i).foldl f s) l[i]:=by
 rw [List.take_succ_eq_append_getElem h,List.foldl_append];rfl
theorem AZ:∀(l:List IOp) (s:SS),(l.foldl stp s).vals.length=s.vals.length+l.length
 | [],_=>rfl
 | o::r,s=>by
  rw [List.foldl_cons,AZ r,List.length_cons]
  show(s.vals++ [nV s o]).length+_=_
  rw [List.length_append];simp only [List.length_cons,List.length_nil];omega
def ren (nm:List Int) (o:IOp):IOp:=⟨o.kind,if hX o then((nm).getD (o.x).toNat default)else o.x,if hY o then((nm).getD (o.y).toNat default)else o.y,o.k,o.at_⟩
def OW (nm:List Int) (b:Blk) (ops:List IOp):Blk:=⟨b.pc,b.len,ops.map (ren nm),b.fin,if b.fin=1 then b.x else((nm).getD (b.x).toNat default),if 3≤b.fin then((nm).getD (b.y).toNat default)else b.y,b.k⟩
def cpN (s:List Int×List Int) (i:Int) (o:IOp):Int:=if o.kind=2∧0≤((s.2).getD (o.k).toNat default)then((s.2).getD (o.k).toNat default)else i
def cpL (s:List Int×List Int) (i:Int) (o:IOp):List Int:=if o.kind=2 then(if 0≤((s.2).getD (o.k).toNat default)then s.2 else s.2.set o.k.toNat i)else if o.kind=8 then s.2.set o.k.toNat ((s.1).getD (o.x).toNat default)else s.2
def cpS (ops:List IOp):Nat→List Int×List Int
 | 0=>([],[-1, -1, -1, -1])
 | i+1=>((cpS ops i).1++ [cpN (cpS ops i) i (ops.getD i default)],cpL (cpS ops i) i (ops.getD i default))
noncomputable def bC (b:Blk):Blk:=if bp (dB b)=true then OW (cpS b.ops b.ops.length).1 b b.ops else acR
theorem rT (ops:List IOp):∀i,(cpS ops i).1.length=i∧(cpS ops i).2.length=4
 | 0=>⟨rfl,rfl⟩
 | i+1=>by
  obtain⟨h1,h2⟩:=rT ops i
  constructor
  ·show((cpS ops i).1++ [_]).length=_
   rw [List.length_append,h1];rfl
  ·show(cpL (cpS ops i) i (ops.getD i default)).length=4
   unfold cpL
   repeat' split
   all_goals first | exact h2 | (rw [List.length_set];exact h2)
theorem SG (ops:List IOp):∀ {i n:Nat} {j:Nat},j<i→i≤n→(cpS ops n).1.getD j default=(cpS ops i).1.getD j default:=by
  intro i n j h1 h2
  induction n with
  | zero => have : i = 0 := by omega
            subst this;rfl
  | succ n ih=>
    by_cases c:i=n+1
    · subst c;rfl
    · have:=ih (by omega)
      rw [←this]
      show((cpS ops n).1++ [_]).getD j default=_
      rw [iU,if_pos (by rw [(rT ops n).1];omega)]
structure CI (ops:List IOp) (i:Nat) (s:SS):Prop where
 nm:∀j:Int,0≤j→j<i→(0≤(((cpS ops i).1).getD (j).toNat default)∧(((cpS ops i).1).getD (j).toNat default)≤j)∧((s.vals).getD ((((cpS ops i).1).getD (j).toNat default)).toNat default)=((s.vals).getD (j).toNat default)∧(mkV ((ops).getD (j).toNat default)→mkV ((ops).getD ((((cpS ops i).1).getD (j).toNat default)).toNat default))
 la:∀r:Int,0≤r→r≤3→0≤(((cpS ops i).2).getD (r).toNat default)→(((cpS ops i).2).getD (r).toNat default)<i∧((s.vals).getD ((((cpS ops i).2).getD (r).toNat default)).toNat default)=((s.regs).getD (r).toNat default)∧mkV ((ops).getD ((((cpS ops i).2).getD (r).toNat default)).toNat default)
theorem KS {α:Type} {d x:α} {l:List α} {i j:Int} (h0:0≤i) (h1:0≤j) (h2:j<l.length):(l.set j.toNat x).getD i.toNat d=if i=j then x else l.getD i.toNat d:=by
 by_cases c:i<l.length
 ·rw [getD_lt (by rw [List.length_set];omega),getD_lt (by omega),List.getElem_set]
  by_cases e:i=j
  ·subst e;rw [if_pos rfl,if_pos rfl]
  ·rw [if_neg (by omega),if_neg e]
 ·rw [if_neg (by omega)]
  simp only [List.getD_eq_getElem?_getD]
  rw [List.getElem?_eq_none (by rw [List.length_set];omega),List.getElem?_eq_none (by omega)]
theorem H7 {b:Blk} (hb:dB b) (t:List Atom) (h4:(s0 t).regs.length=4):∀i:Nat,i≤b.ops.length→
  ((b.ops.map (ren (cpS b.ops b.ops.length).1)).take i).foldl stp (s0 t)=(b.ops.take i).foldl stp (s0 t)∧((b.ops.take i).foldl stp (s0 t)).regs.length=4∧CI b.ops i ((b.ops.take i).foldl stp (s0 t))
 | 0,_=>⟨rfl,h4,⟨fun j h1 h2=>absurd h2 (by omega),fun r h1 h2 h3=>by
   exfalso
   have:(((cpS b.ops 0).2).getD (r).toNat default)= -1:=by
    show((([-1, -1, -1, -1]:List Int)).getD (r).toNat default)= -1
    rcases(by omega:r=0∨r=1∨r=2∨r=3)with h | h | h | h<;>subst h<;>rfl
   omega⟩⟩
 | i+1,hi=>by
  obtain⟨ih1,ihr,ih2⟩:=H7 hb t h4 i (by omega)
  have hlt:i<b.ops.length:=hi
  have hok:=hb.op i (by omega) (by omega)
  rw [show(i:Int).toNat=i from rfl,getD_lt hlt]at hok
  have eo:b.ops.getD i default=b.ops[i]:=getD_lt hlt
  have hv:=AZ (b.ops.take i) (s0 t)
  rw [List.length_take,Nat.min_eq_left (by omega),show(s0 t).vals.length=0 from rfl,Nat.zero_add]at hv
  obtain⟨cl1,cl2⟩:=rT b.ops i
  rw [nQ _ _ (by rw [List.length_map];exact hlt),nQ _ _ hlt,ih1,List.getElem_map]
  clear ih1
  generalize (b.ops.take i).foldl stp (s0 t)=s at ihr ih2 hv ⊢
  generalize ho:b.ops[i]=o at hok eo ⊢
  have nmx:∀j:Int,0≤j→j<i→(((cpS b.ops b.ops.length).1).getD (j).toNat default)=(((cpS b.ops i).1).getD (j).toNat default):=fun j h1 h2=>SG b.ops (by omega) (by omega)
  have vx:∀j:Int,0≤j→j<i→((s.vals).getD ((((cpS b.ops b.ops.length).1).getD (j).toNat default)).toNat default)=((s.vals).getD (j).toNat default):=fun j h1 h2=>by rw [nmx j h1 h2];exact(ih2.nm j h1 h2).2.1
  have ex:xOf s (ren (cpS b.ops b.ops.length).1 o)=xOf s o:=by
   unfold xOf
   by_cases c:hX o
   ·rw [if_pos (show hX (ren _ o)from c),if_pos c]
    show((s.vals).getD ((if hX o then(((cpS b.ops b.ops.length).1).getD (o.x).toNat default)else o.x)).toNat default)=_
    rw [if_pos c];exact vx _ (hok.x1 c).1 (hok.x1 c).2.1
   ·rw [if_neg (show¬hX (ren _ o)from c),if_neg c]
  have ey:yOf s (ren (cpS b.ops b.ops.length).1 o)=yOf s o:=by
   unfold yOf
   by_cases c:hY o
   ·rw [if_pos (show hY (ren _ o)from c),if_pos c]
    show((s.vals).getD ((if hY o then(((cpS b.ops b.ops.length).1).getD (o.y).toNat default)else o.y)).toNat default)=_
    rw [if_pos c];exact vx _ (hok.y1 c).1 (hok.y1 c).2.1
   ·rw [if_neg (show¬hY (ren _ o)from c),if_neg c]
  have es:stp s (ren (cpS b.ops b.ops.length).1 o)=stp s o:=by
   unfold stp nT nV nR nE aOf
   rw [ex,ey];rfl
  have r4:(stp s o).regs.length=4:=by
   show(nR s o).length=4
   unfold nR;split
   ·rw [List.length_set];exact ihr
   ·exact ihr
  refine⟨es,r4,?_⟩
  have vs:∀j:Int,0≤j→j<i→(((stp s o).vals).getD (j).toNat default)=((s.vals).getD (j).toNat default):=fun j h1 h2=>by
   show(((s.vals++ [nV s o])).getD (j).toNat default)=_
   rw [iU,if_pos (by omega)]
  have vi:(((stp s o).vals).getD ((i:Int)).toNat default)=nV s o:=by
   show(((s.vals++ [nV s o])).getD ((i:Int)).toNat default)=_
   rw [iU,if_neg (by omega),if_pos (by omega)]
  have ns:∀j:Int,0≤j→j<i→(((cpS b.ops (i+1)).1).getD (j).toNat default)=(((cpS b.ops i).1).getD (j).toNat default):=fun j h1 h2=>SG b.ops (by omega) (by omega)
  have ni:(((cpS b.ops (i+1)).1).getD ((i:Int)).toNat default)=cpN (cpS b.ops i) i o:=by
   show((((cpS b.ops i).1++ [cpN (cpS b.ops i) i (b.ops.getD i default)])).getD ((i:Int)).toNat default)=_
   rw [iU,if_neg (by omega),if_pos (by omega),eo]
  have nl:(cpS b.ops (i+1)).2=cpL (cpS b.ops i) i o:=by
   show cpL (cpS b.ops i) i (b.ops.getD i default)=_
   rw [eo]
  have eoi:((b.ops).getD ((i:Int)).toNat default)=o:=by rw [show(i:Int).toNat=i from rfl,eo]
  refine⟨fun j h1 h2=> ?_,fun r h1 h2 h3=> ?_⟩
  ·by_cases c:j<i
   ·obtain⟨⟨g1,g2⟩,g3,g4⟩:=ih2.nm j h1 c
    rw [ns j h1 c]
    exact⟨⟨g1,g2⟩,by rw [vs _ g1 (by omega),vs j h1 c];exact g3,g4⟩
   ·have:j=(i:Int):=by omega
    subst this
    rw [ni]
    unfold cpN
    by_cases c2:o.kind=2∧0≤(((cpS b.ops i).2).getD (o.k).toNat default)
    ·rw [if_pos c2]
     have hk:=hok.k2 (Or.inl c2.1)
     obtain⟨g1,g2,g3⟩:=ih2.la o.k hk.1 hk.2 c2.2
     refine⟨⟨c2.2,by omega⟩,?_,fun _=>g3⟩
     rw [vs _ c2.2 g1,vi,g2]
     unfold nV;rw [if_neg (by omega),if_pos c2.1]
    ·rw [if_neg c2]
     exact⟨⟨by omega,Int.le_refl _⟩,rfl,fun h=>h⟩
  ·rw [nl]at h3 ⊢
   unfold cpL at h3 ⊢
   have old:0≤(((cpS b.ops i).2).getD (r).toNat default)→(o.kind=8→r≠o.k)→(((cpS b.ops i).2).getD (r).toNat default)< ((i+1:Nat):Int)∧(((stp s o).vals).getD ((((cpS b.ops i).2).getD (r).toNat default)).toNat default)=(((stp s o).regs).getD (r).toNat default)∧mkV ((b.ops).getD ((((cpS b.ops i).2).getD (r).toNat default)).toNat default):=fun g0 g=>by
    obtain⟨g1,g2,g3⟩:=ih2.la r h1 h2 g0
    refine⟨by omega,?_,g3⟩
    rw [vs _ g0 g1,g2]
    show _=(((nR s o)).getD (r).toNat default)
    unfold nR
    split
    ·rename_i c8
     have hk:=hok.k2 (Or.inr c8)
     rw [KS h1 hk.1 (by omega),if_neg (g c8)]
    ·rfl
   by_cases c2:o.kind=2
   ·have hk:=hok.k2 (Or.inl c2)
    rw [if_pos c2]at h3 ⊢
    by_cases c3:0≤(((cpS b.ops i).2).getD (o.k).toNat default)
    ·rw [if_pos c3]at h3 ⊢
     exact old h3 (fun e=>absurd e (by omega))
    ·rw [if_neg c3]at h3 ⊢
     rw [KS h1 hk.1 (by omega)]at h3 ⊢
     by_cases c4:r=o.k
     ·rw [if_pos c4]at h3 ⊢
      refine⟨by omega,?_,by rw [eoi];exact Or.inl (by omega)⟩
      rw [vi]
      show nV s o=(((nR s o)).getD (r).toNat default)
      unfold nV nR
      rw [if_neg (by omega),if_pos c2,if_neg (by omega),c4]
     ·rw [if_neg c4]at h3 ⊢
      exact old h3 (fun e=>absurd e (by omega))
   ·rw [if_neg c2]at h3 ⊢
    by_cases c8:o.kind=8
    ·have hk:=hok.k2 (Or.inr c8)
     have hx:hX o:=by unfold hX;omega
     have v:=hok.x1 hx
     obtain⟨⟨g1,g2⟩,g3,g4⟩:=ih2.nm o.x v.1 v.2.1
     rw [if_pos c8]at h3 ⊢
     rw [KS h1 hk.1 (by omega)]at h3 ⊢
     by_cases c4:r=o.k
     ·rw [if_pos c4]at h3 ⊢
      have v1:=v.2.1
      refine⟨by omega,?_,g4 v.2.2⟩
      rw [vs _ g1 (by omega),g3]
      show _=(((nR s o)).getD (r).toNat default)
      unfold nR
      rw [if_pos c8,KS h1 hk.1 (by omega),if_pos c4]
      unfold xOf;rw [if_pos hx]
     ·rw [if_neg c4]at h3 ⊢
      exact old h3 (fun _=>c4)
    ·rw [if_neg c8]at h3 ⊢
     exact old h3 (fun e=>absurd e c8)
theorem aao {nm:List Int} {b:Blk} {ops:List IOp} (i:Int):((((ops.map (ren nm))).getD (i).toNat default)).kind=(((ops).getD (i).toNat default)).kind:=by
 by_cases c:i.toNat<ops.length
 ·rw [getD_lt (by rw [List.length_map];exact c),getD_lt c,List.getElem_map];rfl
 ·simp only [List.getD_eq_getElem?_getD]
  rw [List.getElem?_eq_none (by rw [List.length_map];omega),List.getElem?_eq_none (by omega)]
theorem u7 {b:Blk} (hb:dB b):Lk b (bC b)∧(bC b).ops.length=b.ops.length∧∀u,aG u→u.length≤100→bD u (bC b)=bD u b:=by
 have e:bC b=OW (cpS b.ops b.ops.length).1 b b.ops:=by unfold bC;rw [if_pos (bO hb)]
 have i0:=zI mJ (by simp)
 obtain⟨_,_,ci⟩:=H7 hb [] i0.r4 b.ops.length (Nat.le_refl _)
 have kd:∀i:Int,((((b.ops.map (ren (cpS b.ops b.ops.length).1))).getD (i).toNat default)).kind=(((b.ops).getD (i).toNat default)).kind:=fun i=>aao (b:=b) i
 have vl:∀ {x n:Int},Vl b.ops x n→n≤b.ops.length→Vl (b.ops.map (ren (cpS b.ops b.ops.length).1)) (((cpS b.ops b.ops.length).1).getD (x).toNat default) n:=fun {x n} ⟨h1,h2,h3⟩ hn=>by
  obtain⟨⟨g1,g2⟩,_,g4⟩:=ci.nm x h1 (by omega)
  have:=g4 h3
  exact⟨g1,by omega,by unfold mkV at this ⊢;rw [kd];exact this⟩
 have ok:dB (bC b):=by
  rw [e]
  refine⟨hb.ln,hb.pc,by show(b.ops.map _).length≤48;rw [List.length_map];exact hb.sz,fun i h1 h2=> ?_,?_⟩
  ·have h2:i< (b.ops.map (ren (cpS b.ops b.ops.length).1)).length:=h2
   rw [List.length_map]at h2
   have ho:=hb.op i h1 h2
   show Cx (b.ops.map _) b.len i (((b.ops.map (ren (cpS b.ops b.ops.length).1))).getD (i).toNat default)
   rw [getD_lt (show i.toNat< (b.ops.map (ren (cpS b.ops b.ops.length).1)).length by rw [List.length_map];omega),List.getElem_map]
   rw [getD_lt (show i.toNat<b.ops.length by omega)]at ho
   generalize b.ops[i.toNat]=o at ho
   refine⟨ho.kd,fun h=> ?_,fun h=> ?_,fun h=> ?_,fun h=> ?_,ho.k1,ho.k2,ho.k3,ho.k0,ho.a1,ho.a0⟩
   ·have h:hX o:=h
    show Vl _ (if hX o then _ else _) i;rw [if_pos h];exact vl (ho.x1 h) (by omega)
   ·have h:¬hX o:=h
    show(if hX o then _ else _)=_;rw [if_neg h];exact ho.x0 h
   ·have h:hY o:=h
    show Vl _ (if hY o then _ else _) i;rw [if_pos h];exact vl (ho.y1 h) (by omega)
   ·have h:¬hY o:=h
    show(if hY o then _ else _)=_;rw [if_neg h];exact ho.y0 h
  ·have he:=hb.en
   refine⟨he.f,fun h=> ?_,fun h=> ?_,fun h=> ?_,fun h=> ?_,he.k1,he.k0⟩
   ·have h:b.fin≠1:=h
    show Vl (b.ops.map _) (if b.fin=1 then _ else _) ((b.ops.map _).length:Nat)
    rw [if_neg h,List.length_map];exact vl (he.x1 h) (Int.le_refl _)
   ·have h:b.fin=1:=h
    show(if b.fin=1 then _ else _)=_;rw [if_pos h];exact he.x0 h
   ·have h:3≤b.fin:=h
    show Vl (b.ops.map _) (if 3≤b.fin then _ else _) ((b.ops.map _).length:Nat)
    rw [if_pos h,List.length_map];exact vl (he.y1 h) (Int.le_refl _)
   ·have h:b.fin≤2:=h
    show(if 3≤b.fin then _ else _)=_;rw [if_neg (by omega)];exact he.y0 h
 suffices R:∀u,aG u→u.length≤100→bD u (bC b)=bD u b from⟨⟨hb,ok,by rw [e];rfl,by rw [e];rfl,fun u h1 h2 _=>R u h1 h2⟩,by rw [e];exact List.length_map _,R⟩
 intro u h1 h2
 have i1:=zI h1 (by omega)
 obtain⟨r1,_,r3⟩:=H7 hb u i1.r4 b.ops.length (Nat.le_refl _)
 rw [List.take_of_length_le (by rw [List.length_map];omega),List.take_of_length_le (by omega)]at r1
 rw [List.take_of_length_le (by omega)]at r3
 have es:cB u (bC b)=cB u b:=by rw [e];exact r1
 unfold bD
 rw [if_pos (bO ⟨h1,h2,ok⟩),if_pos (bO ⟨h1,h2,hb⟩),es]
 have em:jq (bC b) (cB u b)=jq b (cB u b):=by
  rw [e]
  unfold jq OW
  dsimp only
  have en:=hb.en
  have xe:b.fin≠1→(((cB u b).vals).getD ((((cpS b.ops b.ops.length).1).getD (b.x).toNat default)).toNat default)=(((cB u b).vals).getD (b.x).toNat default):=fun h=>(r3.nm b.x (en.x1 h).1 (en.x1 h).2.1).2.1
  have ye:3≤b.fin→(((cB u b).vals).getD ((((cpS b.ops b.ops.length).1).getD (b.y).toNat default)).toNat default)=(((cB u b).vals).getD (b.y).toNat default):=fun h=>(r3.nm b.y (en.y1 h).1 (en.y1 h).2.1).2.1
  congr 1
  ·split
   ·rfl
   ·rename_i h;exact xe h
  ·split
   ·rename_i h;exact ye h
   ·rfl
 rw [em]
 rw [show(bC b).pc=b.pc by rw [e];rfl,show(bC b).len=b.len by rw [e];rfl]
theorem SH {b:Blk} (hb:dB b):Lk b (bC b)∧(bC b).ops.length=b.ops.length:=⟨(u7 hb).1,(u7 hb).2.1⟩
end Go.TX.F
namespace Go.TX.F
open Go Go.AE Go.TX
def fcO (f:List IOp) (o:IOp):IOp:=if o.kind=3∧(((f).getD (o.x).toNat default)).kind=1∧(((f).getD (o.y).toNat default)).kind=1 then⟨1,0,0,wdo o.k (((f).getD (o.x).toNat default)).k (((f).getD (o.y).toNat default)).k,0⟩else o
def fc (ops:List IOp):Nat→List IOp
 | 0=> []
 | i+1=>fc ops i++ [fcO (fc ops i) (ops.getD i default)]
def fcB (b:Blk) (f:List IOp):Blk:=
 if b.fin=2∧(((f).getD (b.x).toNat default)).kind=1 then⟨b.pc,b.len,f,1,0,b.y,(((f).getD (b.x).toNat default)).k⟩
 else if 3≤b.fin∧(((f).getD (b.x).toNat default)).kind=1∧(((f).getD (b.y).toNat default)).kind=1 then⟨b.pc,b.len,f,1,0,0,if b.fin=3∧(((f).getD (b.x).toNat default)).k=(((f).getD (b.y).toNat default)).k∨b.fin=4∧(((f).getD (b.x).toNat default)).k< (((f).getD (b.y).toNat default)).k then b.k else b.pc+b.len⟩
 else⟨b.pc,b.len,f,b.fin,b.x,b.y,b.k⟩
noncomputable def fD (b:Blk):Blk:=if bp (dB b)=true then fcB b (fc b.ops b.ops.length)else acR
theorem qc (ops:List IOp):∀i,(fc ops i).length=i
 | 0=>rfl
 | i+1=>by show(fc ops i++ [_]).length=_;rw [List.length_append,qc ops i];rfl
theorem adK (ops:List IOp) {i n j:Nat} (h1:j<i) (h2:i≤n):(fc ops n).getD j default=(fc ops i).getD j default:=by
  induction n with
  | zero => have : i = 0 := by omega
            subst this;rfl
  | succ n ih=>
    by_cases c:i=n+1
    · subst c;rfl
    · have:=ih (by omega)
      rw [←this]
      show(fc ops n++ [_]).getD j default=_
      rw [iU,if_pos (by rw [qc];omega)]
theorem SK (ops:List IOp) {i n:Nat} (h:i<n):(fc ops n).getD i default=fcO (fc ops i) (ops.getD i default):=by
 rw [adK ops (show i<i+1 by omega) (show i+1≤n by omega)]
 show(fc ops i++ [_]).getD i default=_
 rw [iU,if_neg (by rw [qc];omega),if_pos (by rw [qc])]
structure FI (ops:List IOp) (i:Nat) (s:SS):Prop where
 c:∀j:Int,0≤j→j<i→((((fc ops i)).getD (j).toNat default)).kind=1→(0≤((((fc ops i)).getD (j).toNat default)).k∧((((fc ops i)).getD (j).toNat default)).k≤65535)∧((s.vals).getD (j).toNat default)=aP ((((fc ops i)).getD (j).toNat default)).k
 m:∀j:Int,0≤j→j<i→mkV ((ops).getD (j).toNat default)→mkV (((fc ops i)).getD (j).toNat default)
theorem WQ (t:List Atom) {op a b:Int} (hop:1≤op∧op≤5) (ha:0≤a∧a≤65535) (hb:0≤b∧b≤65535):tDo t op (aP a) (aP b)=(t,aP (wdo op a b)):=by
 unfold tDo;rw [SB hop ha hb,if_pos rfl]
theorem A8 {b:Blk} (hb:dB b) (t:List Atom):∀i:Nat,i≤b.ops.length→
  ((fc b.ops b.ops.length).take i).foldl stp (s0 t)=(b.ops.take i).foldl stp (s0 t)∧FI b.ops i ((b.ops.take i).foldl stp (s0 t))
 | 0,_=>⟨rfl,⟨fun j h1 h2=>absurd h2 (by omega),fun j h1 h2=>absurd h2 (by omega)⟩⟩
 | i+1,hi=>by
  obtain⟨ih1,ih2⟩:=A8 hb t i (by omega)
  have hlt:i<b.ops.length:=hi
  have hok:=hb.op i (by omega) (by omega)
  rw [show(i:Int).toNat=i from rfl,getD_lt hlt]at hok
  have eo:b.ops.getD i default=b.ops[i]:=getD_lt hlt
  have hv:=AZ (b.ops.take i) (s0 t)
  rw [List.length_take,Nat.min_eq_left (by omega),show(s0 t).vals.length=0 from rfl,Nat.zero_add]at hv
  have fl:=qc b.ops i
  have fo:(fc b.ops b.ops.length)[i]'(by rw [qc];exact hlt)=fcO (fc b.ops i) b.ops[i]:=by
   rw [←eo,←SK b.ops hlt,getD_lt]
  rw [nQ _ _ (by rw [qc];exact hlt),nQ _ _ hlt,ih1,fo]
  clear ih1
  generalize (b.ops.take i).foldl stp (s0 t)=s at ih2 hv ⊢
  generalize ho:b.ops[i]=o at hok eo fo ⊢
  have key:o.kind=3∧((((fc b.ops i)).getD (o.x).toNat default)).kind=1∧((((fc b.ops i)).getD (o.y).toNat default)).kind=1→xOf s o=aP ((((fc b.ops i)).getD (o.x).toNat default)).k∧yOf s o=aP ((((fc b.ops i)).getD (o.y).toNat default)).k∧(0≤((((fc b.ops i)).getD (o.x).toNat default)).k∧((((fc b.ops i)).getD (o.x).toNat default)).k≤65535)∧(0≤((((fc b.ops i)).getD (o.y).toNat default)).k∧((((fc b.ops i)).getD (o.y).toNat default)).k≤65535):=fun⟨c1,c2,c3⟩=>by
   have hx:hX o:=by unfold hX;omega
   have hy:hY o:=Or.inl c1
   have v1:=hok.x1 hx
   have v2:=hok.y1 hy
   have g1:=ih2.c o.x v1.1 v1.2.1 c2
   have g2:=ih2.c o.y v2.1 v2.2.1 c3
   refine⟨?_,?_,g1.1,g2.1⟩
   ·unfold xOf;rw [if_pos hx];exact g1.2
   ·unfold yOf;rw [if_pos hy];exact g2.2
  have es:stp s (fcO (fc b.ops i) o)=stp s o∧((fcO (fc b.ops i) o).kind=1→(0≤(fcO (fc b.ops i) o).k∧(fcO (fc b.ops i) o).k≤65535)∧nV s o=aP (fcO (fc b.ops i) o).k)∧(mkV o→mkV (fcO (fc b.ops i) o)):=by
   unfold fcO
   by_cases c:o.kind=3∧((((fc b.ops i)).getD (o.x).toNat default)).kind=1∧((((fc b.ops i)).getD (o.y).toNat default)).kind=1
   ·rw [if_pos c]
    obtain⟨k1,k2,k3,k4⟩:=key c
    have hd:=WQ s.t (hok.k3 c.1) k3 k4
    have e1:nT s o=s.t:=by unfold nT;rw [if_pos c.1,k1,k2,hd]
    have e2:nV s o=aP (wdo o.k ((((fc b.ops i)).getD (o.x).toNat default)).k ((((fc b.ops i)).getD (o.y).toNat default)).k):=by unfold nV;rw [if_neg (by omega),if_neg (by omega),if_pos c.1,k1,k2,hd]
    refine⟨?_,fun _=>⟨Vd _ _ _,e2⟩,fun _=>Or.inl ⟨by dsimp only;omega,by dsimp only;omega⟩⟩
    have e3:nR s o=s.regs:=by unfold nR;rw [if_neg (by omega)]
    have e4:nE s o=s.evs:=by unfold nE;rw [if_neg (by omega)]
    show SS.mk (nT s ⟨1,0,0,_,0⟩) (nR s ⟨1,0,0,_,0⟩) (s.vals++ [nV s ⟨1,0,0,_,0⟩]) (if(1:Int)=4 then _ else _) (if(1:Int)=6 then _ else _) (nE s ⟨1,0,0,_,0⟩)=SS.mk (nT s o) (nR s o) (s.vals++ [nV s o]) (if o.kind=4 then _ else _) (if o.kind=6 then _ else _) (nE s o)
    rw [e1,e2,e3,e4,if_neg (show¬o.kind=4 by omega),if_neg (show¬o.kind=6 by omega)]
    rfl
   ·rw [if_neg c]
    refine⟨rfl,fun h=>⟨hok.k1 h,by unfold nV;rw [if_pos h]⟩,fun h=>h⟩
  refine⟨es.1,?_⟩
  have vs:∀j:Int,0≤j→j<i→(((stp s o).vals).getD (j).toNat default)=((s.vals).getD (j).toNat default):=fun j h1 h2=>by
   show(((s.vals++ [nV s o])).getD (j).toNat default)=_
   rw [iU,if_pos (by omega)]
  have vi:(((stp s o).vals).getD ((i:Int)).toNat default)=nV s o:=by
   show(((s.vals++ [nV s o])).getD ((i:Int)).toNat default)=_
   rw [iU,if_neg (by omega),if_pos (by omega)]
  have ns:∀j:Int,0≤j→j<i→(((fc b.ops (i+1))).getD (j).toNat default)=(((fc b.ops i)).getD (j).toNat default):=fun j h1 h2=>adK b.ops (by omega) (by omega)
  have ni:(((fc b.ops (i+1))).getD ((i:Int)).toNat default)=fcO (fc b.ops i) o:=by
   rw [show((i:Int)).toNat=i from rfl,SK b.ops (show i<i+1 by omega),eo]
  have eoi:((b.ops).getD ((i:Int)).toNat default)=o:=by rw [show(i:Int).toNat=i from rfl,eo]
  refine⟨fun j h1 h2 h3=> ?_,fun j h1 h2 h3=> ?_⟩
  ·by_cases c:j<i
   ·rw [ns j h1 c]at h3 ⊢;rw [vs j h1 c];exact ih2.c j h1 c h3
   ·have:j=(i:Int):=by omega
    subst this
    rw [ni]at h3 ⊢;rw [vi];exact es.2.1 h3
  ·by_cases c:j<i
   ·rw [ns j h1 c];exact ih2.m j h1 c h3
   ·have:j=(i:Int):=by omega
    subst this
    rw [eoi]at h3
    rw [ni];exact es.2.2 h3
theorem SL {a b:Int} (ha:0≤a∧a≤65535) (hb:0≤b∧b≤65535) (h:aP a=aP b):a=b:=by
 have:=gV ha
 rw [h,gV hb]at this
 exact(congrArg Prod.fst this).symm
theorem aoO (b:Blk) (f:List IOp):(fcB b f).pc=b.pc∧(fcB b f).len=b.len∧(fcB b f).ops=f:=by
 unfold fcB;split
 ·exact⟨rfl,rfl,rfl⟩
 ·split<;>exact⟨rfl,rfl,rfl⟩
theorem OX {b:Blk} (hb:dB b):Lk b (fD b)∧(fD b).ops.length=b.ops.length:=by
 have e:fD b=fcB b (fc b.ops b.ops.length):=by unfold fD;rw [if_pos (bO hb)]
 obtain⟨p1,p2,p3⟩:=aoO b (fc b.ops b.ops.length)
 have fl:=qc b.ops b.ops.length
 obtain⟨_,fi⟩:=A8 hb [] b.ops.length (Nat.le_refl _)
 have vl:∀ {x n:Int},Vl b.ops x n→n≤b.ops.length→Vl (fc b.ops b.ops.length) x n:=fun {x n} ⟨h1,h2,h3⟩ hn=>⟨h1,h2,fi.m x h1 (by omega) h3⟩
 have en:=hb.en
 have h1:=hb.ln
 have h2:=hb.pc
 have ok:dB (fD b):=by
  rw [e]
  refine⟨by rw [p2];exact hb.ln,by rw [p1,p2];exact hb.pc,by rw [p3,fl];exact hb.sz,fun i i1 i2=> ?_,?_⟩
  ·rw [p3]at i2 ⊢
   rw [fl]at i2
   rw [p2]
   have ho:=hb.op i i1 i2
   rw [SK b.ops (show i.toNat<b.ops.length by omega)]
   generalize b.ops.getD i.toNat default=o at ho
   unfold fcO
   split
   ·refine⟨by dsimp only;omega,fun h=>absurd h (by unfold hX;simp),fun _=>rfl,fun h=>absurd h (by unfold hY;simp),fun _=>rfl,fun _=>Vd _ _ _,fun h=>absurd h (by simp),fun h=>absurd h (by simp),fun h=>absurd h (by simp),fun h=>absurd h (by unfold evO;simp),fun _=>rfl⟩
   ·exact⟨ho.kd,fun h=>vl (ho.x1 h) (by omega),ho.x0,fun h=>vl (ho.y1 h) (by omega),ho.y0,ho.k1,ho.k2,ho.k3,ho.k0,ho.a1,ho.a0⟩
  ·unfold fcB
   split
   ·rename_i c
    have v:=en.x1 (by omega)
    have g:=fi.c b.x v.1 v.2.1 c.2
    exact⟨by dsimp only;omega,fun h=>absurd rfl h,fun _=>rfl,fun h=>absurd h (by dsimp only;omega),fun _=>en.y0 (by omega),fun _=>g.1,fun h=>absurd h (by simp)⟩
   ·split
    ·rename_i c
     refine⟨by dsimp only;omega,fun h=>absurd rfl h,fun _=>rfl,fun h=>absurd h (by dsimp only;omega),fun _=>rfl,fun _=> ?_,fun h=>absurd h (by simp)⟩
     dsimp only
     split
     ·exact en.k1 (by omega)
     ·omega
    ·exact⟨en.f,fun h=>by dsimp only at h ⊢;rw [fl];exact vl (en.x1 h) (Int.le_refl _),en.x0,fun h=>by dsimp only at h ⊢;rw [fl];exact vl (en.y1 h) (Int.le_refl _),en.y0,en.k1,en.k0⟩
 refine⟨⟨hb,ok,by rw [e,p1],by rw [e,p2],fun u u1 u2 u3=> ?_⟩,by rw [e,p3,fl]⟩
 obtain⟨r1,r3⟩:=A8 hb u b.ops.length (Nat.le_refl _)
 rw [List.take_of_length_le (by omega),List.take_of_length_le (by omega)]at r1
 rw [List.take_of_length_le (by omega)]at r3
 have es:cB u (fD b)=cB u b:=by unfold cB;rw [e,p3];exact r1
 unfold bD
 rw [if_pos (bO ⟨u1,u2,ok⟩),if_pos (bO ⟨u1,u2,hb⟩),es]
 rw [e,p1,p2]
 have i1:=(rR u1 u2 hb).1
 have pk:=KO (b:=b) i1
 congr 1
 have r3:FI b.ops b.ops.length (cB u b):=r3
 generalize cB u b=s at r3 pk
 unfold fcB
 split
 ·rename_i c
  have v:=en.x1 (by omega)
  obtain⟨g1,g2⟩:=r3.c b.x v.1 v.2.1 c.2
  have ex:(jq b s).x=aP ((((fc b.ops b.ops.length)).getD (b.x).toNat default)).k:=by unfold jq;dsimp only;rw [if_neg (by omega)];exact g2
  have ey:(jq b s).y=[]:=by unfold jq;dsimp only;rw [if_neg (by omega)]
  have e1:symEnd (jq b s) (b.pc+b.len)=⟨s.evs,s.regs,1,[],[],((((fc b.ops b.ops.length)).getD (b.x).toNat default)).k⟩:=by
   unfold symEnd
   rw [if_neg (by rw [bO pk];simp),if_pos ⟨c.1,by rw [ex,gV g1]⟩,ex,gV g1];rfl
  rw [e1]
  unfold symEnd jq
  dsimp only
  rw [if_neg (by rw [bO ⟨by rw [if_pos rfl];exact bS,by rw [if_neg (by omega)];exact bS⟩];simp),if_neg (by omega),if_pos (by omega)]
  rw [if_pos rfl,if_neg (by omega)]
 ·split
  ·rename_i _ c
   have v:=en.x1 (by omega)
   have w:=en.y1 c.1
   obtain⟨g1,g2⟩:=r3.c b.x v.1 v.2.1 c.2.1
   obtain⟨g3,g4⟩:=r3.c b.y w.1 w.2.1 c.2.2
   have ex:(jq b s).x=aP ((((fc b.ops b.ops.length)).getD (b.x).toNat default)).k:=by unfold jq;dsimp only;rw [if_neg (by omega)];exact g2
   have ey:(jq b s).y=aP ((((fc b.ops b.ops.length)).getD (b.y).toNat default)).k:=by unfold jq;dsimp only;rw [if_pos c.1];exact g4
   have hf:=en.f
   have e1:symEnd (jq b s) (b.pc+b.len)=⟨s.evs,s.regs,1,[],[],if b.fin=3∧((((fc b.ops b.ops.length)).getD (b.x).toNat default)).k=((((fc b.ops b.ops.length)).getD (b.y).toNat default)).k∨b.fin=4∧((((fc b.ops b.ops.length)).getD (b.x).toNat default)).k< ((((fc b.ops b.ops.length)).getD (b.y).toNat default)).k then b.k else b.pc+b.len⟩:=by
    unfold symEnd
    rw [if_neg (by rw [bO pk];simp),if_neg (by show¬(b.fin=2∧_);omega),if_neg (by show¬(b.fin≠3∧b.fin≠4);omega)]
    rw [ex,ey,gV g1,gV g3,if_pos (Or.inr ⟨rfl,rfl⟩)]
    show Sym.mk s.evs s.regs 1 [] [] _=_
    congr 1
    show(if(_∧b.fin=3∨(true=true∧true=true)∧(b.fin=3∧_∨b.fin=4∧_))then b.k else _)=_
    by_cases d:b.fin=3∧((((fc b.ops b.ops.length)).getD (b.x).toNat default)).k=((((fc b.ops b.ops.length)).getD (b.y).toNat default)).k∨b.fin=4∧((((fc b.ops b.ops.length)).getD (b.x).toNat default)).k< ((((fc b.ops b.ops.length)).getD (b.y).toNat default)).k
    ·rw [if_pos d];exact if_pos (Or.inr ⟨⟨rfl,rfl⟩,d⟩)
    ·rw [if_neg d]
     refine if_neg ?_
     rintro(⟨q1,q2⟩ | ⟨_,q⟩)
     ·exact d (Or.inl ⟨q2,SL g1 g3 q1⟩)
     ·exact d q
   rw [e1]
   unfold symEnd jq
   dsimp only
   rw [if_neg (by rw [bO ⟨by rw [if_pos rfl];exact bS,by rw [if_neg (by omega)];exact bS⟩];simp),if_neg (by omega),if_pos (by omega)]
   rw [if_pos rfl,if_neg (by omega)]
  ·rfl
def kpS (ops:List IOp) (kp:List Bool):Nat→List Int×List IOp
 | 0=>([],[])
 | i+1=>((kpS ops kp i).1++ [((kpS ops kp i).2.length:Int)],if kp.getD i default=true then(kpS ops kp i).2++ [ops.getD i default]else(kpS ops kp i).2)
def Ca (b:Blk) (kp:List Bool):Blk:=OW (kpS b.ops kp b.ops.length).1 b (kpS b.ops kp b.ops.length).2
def qL:List IOp→Int→Bool
 | [],_=>false
 | o::l,r=>if o.kind=4∨o.kind=5∨o.kind=2∧o.k=r then false else if o.kind=8∧o.k=r then true else qL l r
theorem zJ (ops:List IOp) (kp:List Bool):∀i,(kpS ops kp i).1.length=i∧(kpS ops kp i).2.length≤i
 | 0=>⟨rfl,Nat.le_refl _⟩
 | i+1=>by
  obtain⟨h1,h2⟩:=zJ ops kp i
  unfold kpS
  refine⟨by rw [List.length_append,h1];rfl,?_⟩
  dsimp only
  split
  ·rw [List.length_append];simp only [List.length_cons,List.length_nil];omega
  ·omega
theorem acS (ops:List IOp) (kp:List Bool) {i n:Nat} (h:i≤n):(kpS ops kp i).2<+:(kpS ops kp n).2∧(kpS ops kp i).1<+:(kpS ops kp n).1:=by
 induction n with
 | zero=>rw [show i=0 by omega];exact⟨List.prefix_refl _,List.prefix_refl _⟩
 | succ n ih=>
  by_cases c:i=n+1
  ·subst c;exact⟨List.prefix_refl _,List.prefix_refl _⟩
  ·obtain⟨h1,h2⟩:=ih (by omega)
   refine⟨h1.trans ?_,h2.trans (List.prefix_append _ _)⟩
   show _<+:if kp.getD n default=true then _ else _
   split
   ·exact List.prefix_append _ _
   ·exact List.prefix_refl _
structure KP (b:Blk) (kp:List Bool):Prop where
 x:∀i:Int,0≤i→i<b.ops.length→((kp).getD (i).toNat default)=true→hX ((b.ops).getD (i).toNat default)→((kp).getD ((((b.ops).getD (i).toNat default)).x).toNat default)=true
 y:∀i:Int,0≤i→i<b.ops.length→((kp).getD (i).toNat default)=true→hY ((b.ops).getD (i).toNat default)→((kp).getD ((((b.ops).getD (i).toNat default)).y).toNat default)=true
 ex:b.fin≠1→((kp).getD (b.x).toNat default)=true
 ey:3≤b.fin→((kp).getD (b.y).toNat default)=true
 no:∀i:Int,0≤i→i<b.ops.length→((kp).getD (i).toNat default)=false→(((b.ops).getD (i).toNat default)).kind≤3∨(((b.ops).getD (i).toNat default)).kind=8∧qL (b.ops.drop (i.toNat+1)) (((b.ops).getD (i).toNat default)).k=true
structure KI (b:Blk) (kp:List Bool) (i:Nat) (s s':SS):Prop where
 t:s'.t=s.t
 ld:s'.ld=s.ld
 inn:s'.inn=s.inn
 evs:s'.evs=s.evs
 vl:s'.vals.length=(kpS b.ops kp i).2.length
 v:∀j:Nat,j<i→kp.getD j default=true→s'.vals.getD (kpS b.ops kp j).2.length default=s.vals.getD j default
 r4:s'.regs.length=4∧s.regs.length=4
 rg:∀r:Int,0≤r→r≤3→qL (b.ops.drop i) r=false→((s'.regs).getD (r).toNat default)=((s.regs).getD (r).toNat default)
def rU (ops:List IOp):List Bool:=(List.range ops.length).map fun i=> !(decide ((ops.getD i default).kind=8)&&qL (ops.drop (i+1)) (ops.getD i default).k)
noncomputable def wF (b:Blk):Blk:=if bp (dB b)=true then Ca b (rU b.ops)else acR
theorem WR {ops:List IOp} {i:Nat} (h:i<ops.length):(rU ops).getD i default= !(decide ((ops.getD i default).kind=8)&&qL (ops.drop (i+1)) (ops.getD i default).k):=by
 unfold rU
 rw [getD_lt (by rw [List.length_map,List.length_range];exact h),List.getElem_map,List.getElem_range]
def us0 (b:Blk):List Bool:=(fun m:List Bool=>if 3≤b.fin then m.set b.y.toNat true else m) (if b.fin=1 then List.replicate b.ops.length false else(List.replicate b.ops.length false).set b.x.toNat true)
def usO (o:IOp) (i:Nat) (m:List Bool):List Bool:=
 if(m.getD i default || decide (4≤o.kind))=true then(fun m:List Bool=>if hY o then m.set o.y.toNat true else m) ((fun m:List Bool=>if hX o then m.set o.x.toNat true else m) (m.set i true))else m
def us (b:Blk):Nat→List Bool
 | 0=>us0 b
 | k+1=>usO (b.ops.getD (b.ops.length-1-k) default) (b.ops.length-1-k) (us b k)
noncomputable def CO (b:Blk):List Bool:=if bp (dB b)=true then us b b.ops.length else []
noncomputable def oJ (b:Blk):Blk:=if bp (dB b)=true then Ca b (us b b.ops.length)else acR
theorem acT (o:IOp) (i:Nat) (m:List Bool):(usO o i m).length=m.length:=by
 unfold usO;dsimp only;repeat' split
 all_goals simp only [List.length_set]
theorem acU (b:Blk):(us0 b).length=b.ops.length:=by
 unfold us0;dsimp only;repeat' split
 all_goals simp only [List.length_set,List.length_replicate]
theorem A9 (b:Blk):∀k,(us b k).length=b.ops.length
 | 0=>acU b
 | k+1=>by unfold us;rw [acT,A9 b k]
theorem wG {m:List Bool} {i:Nat} {j:Int} (h:j.toNat<m.length):(m.set j.toNat true).getD i default=(m.getD i default || decide (i=j.toNat)):=by
 by_cases c:i=j.toNat
 ·subst c;rw [getD_lt (by rw [List.length_set];exact h),List.getElem_set_self,decide_eq_true rfl,Bool.or_true]
 ·rw [decide_eq_false c,Bool.or_false]
  simp only [List.getD,List.getElem?_set_ne (Ne.symm c)]
theorem Vr {o:IOp} {i t:Nat} {m:List Bool} (hi:i<m.length) (hx:hX o→o.x.toNat<m.length) (hy:hY o→o.y.toNat<m.length):(usO o i m).getD t default=true↔m.getD t default=true∨(m.getD i default=true∨4≤o.kind)∧(t=i∨hX o∧t=o.x.toNat∨hY o∧t=o.y.toNat):=by
 unfold usO
 dsimp only
 by_cases c:(m.getD i default || decide (4≤o.kind))=true
 ·rw [if_pos c]
  rw [Bool.or_eq_true,decide_eq_true_eq]at c
  have e1:∀t:Nat,(m.set i true).getD t default=true↔m.getD t default=true∨t=i:=fun t=>by
   have:=wG (m:=m) (i:=t) (j:=(i:Int)) hi
   rw [show((i:Int)).toNat=i from rfl]at this
   rw [this,Bool.or_eq_true,decide_eq_true_eq]
  have e2:∀t:Nat,((if hX o then(m.set i true).set o.x.toNat true else m.set i true).getD t default=true)↔(m.getD t default=true∨t=i)∨hX o∧t=o.x.toNat:=fun t=>by
   by_cases d:hX o
   ·rw [if_pos d,wG (by rw [List.length_set];exact hx d),Bool.or_eq_true,decide_eq_true_eq,e1];exact⟨fun h=>h.elim Or.inl (fun h=>Or.inr ⟨d,h⟩),fun h=>h.elim Or.inl (fun h=>Or.inr h.2)⟩
   ·rw [if_neg d,e1];exact⟨Or.inl,fun h=>h.elim id (fun h=>absurd h.1 d)⟩
  have l2:(if hX o then(m.set i true).set o.x.toNat true else m.set i true).length=m.length:=by split<;>simp only [List.length_set]
  by_cases d:hY o
  ·rw [if_pos d,wG (by rw [l2];exact hy d),Bool.or_eq_true,decide_eq_true_eq,e2];have c':=eq_true c;have d':=eq_true d;generalize hY o=Y at d' ⊢;generalize hX o=Z;rw [c',d'];grind
  ·rw [if_neg d,e2];have c':=eq_true c;have d':=eq_false d;generalize hY o=Y at d' ⊢;generalize hX o=Z;rw [c',d'];grind
 ·rw [if_neg c]
  rw [Bool.or_eq_true,decide_eq_true_eq]at c
  simp only [c,false_and,or_false]
theorem SN {m:List Bool} {t:Nat} {j:Int} (h:j.toNat<m.length):(m.set j.toNat true).getD t default=true↔m.getD t default=true∨t=j.toNat:=by rw [wG h,Bool.or_eq_true,decide_eq_true_eq]
structure UI (b:Blk) (p:Nat) (m:List Bool):Prop where
 k:∀i:Nat,p≤i→i<b.ops.length→4≤(b.ops.getD i default).kind→m.getD i default=true
 x:∀i:Nat,p≤i→i<b.ops.length→m.getD i default=true→hX (b.ops.getD i default)→((m).getD ((b.ops.getD i default).x).toNat default)=true
 y:∀i:Nat,p≤i→i<b.ops.length→m.getD i default=true→hY (b.ops.getD i default)→((m).getD ((b.ops.getD i default).y).toNat default)=true
 ex:b.fin≠1→((m).getD (b.x).toNat default)=true
 ey:3≤b.fin→((m).getD (b.y).toNat default)=true
 wh:∀t:Nat,t<b.ops.length→m.getD t default=true→4≤(b.ops.getD t default).kind∨b.fin≠1∧t=b.x.toNat∨3≤b.fin∧t=b.y.toNat∨∃j:Nat,p≤j∧j<b.ops.length∧t<j∧m.getD j default=true∧(hX (b.ops.getD j default)∧t=(b.ops.getD j default).x.toNat∨hY (b.ops.getD j default)∧t=(b.ops.getD j default).y.toNat)
theorem Vs {b:Blk} (hb:dB b) (t:Nat):(us0 b).getD t default=true↔b.fin≠1∧t=b.x.toNat∨3≤b.fin∧t=b.y.toNat:=by
 have en:=hb.en
 have fx:=en.x1
 have fy:=en.y1
 unfold us0
 dsimp only
 have r:∀t,(List.replicate b.ops.length false).getD t default=false:=fun t=>by
  by_cases c:t<b.ops.length
  ·rw [getD_lt (by rw [List.length_replicate];exact c),List.getElem_replicate]
  ·rw [List.getD_eq_getElem?_getD,List.getElem?_eq_none (by rw [List.length_replicate];omega)];rfl
 have e1:∀t:Nat,((if b.fin=1 then List.replicate b.ops.length false else(List.replicate b.ops.length false).set b.x.toNat true).getD t default=true)↔b.fin≠1∧t=b.x.toNat:=fun t=>by
  by_cases d:b.fin=1
  ·rw [if_pos d,r];simp [d]
  ·have:=fx d
   have g0:=this.1
   have g1:=this.2.1
   rw [if_neg d,wG (by rw [List.length_replicate];omega),r];simp [d]
 have l1:(if b.fin=1 then List.replicate b.ops.length false else(List.replicate b.ops.length false).set b.x.toNat true).length=b.ops.length:=by split<;>simp only [List.length_set,List.length_replicate]
 by_cases d:3≤b.fin
 ·have:=fy d
  have g0:=this.1
  have g1:=this.2.1
  rw [if_pos d,wG (by rw [l1];omega),Bool.or_eq_true,decide_eq_true_eq,e1];simp only [d,true_and]
 ·rw [if_neg d,e1];simp only [d,false_and,or_false]
theorem adL {b:Blk} (hb:dB b):∀k,k≤b.ops.length→UI b (b.ops.length-k) (us b k)
 | 0,_=>by
  have e:=Vs hb
  exact⟨fun i h1 h2=>absurd h2 (by omega),fun i h1 h2=>absurd h2 (by omega),fun i h1 h2=>absurd h2 (by omega),fun c=>(e _).2 (Or.inl ⟨c,rfl⟩),fun c=>(e _).2 (Or.inr ⟨c,rfl⟩),fun t _ h=>((e t).1 h).elim (fun h=>Or.inr (Or.inl h)) (fun h=>Or.inr (Or.inr (Or.inl h)))⟩
 | k+1,hk=>by
  have ih:=adL hb k (by omega)
  have ul:=A9 b k
  have ho:=hb.op ((b.ops.length-1-k:Nat):Int) (by omega) (by omega)
  rw [show(((b.ops.length-1-k:Nat):Int)).toNat=b.ops.length-1-k from rfl]at ho
  generalize hp:b.ops.length-1-k=p at ho
  have e0:b.ops.length-k=p+1:=by omega
  rw [e0]at ih
  rw [show b.ops.length- (k+1)=p by omega]
  have pl:p<b.ops.length:=by omega
  show UI b p (usO (b.ops.getD (b.ops.length-1-k) default) (b.ops.length-1-k) (us b k))
  rw [hp]
  have X:hX (b.ops.getD p default)→(b.ops.getD p default).x.toNat<p:=fun c=>by have:=ho.x1 c;have g0:=this.1;have g1:=this.2.1;omega
  have Y:hY (b.ops.getD p default)→(b.ops.getD p default).y.toNat<p:=fun c=>by have:=ho.y1 c;have g0:=this.1;have g1:=this.2.1;omega
  generalize us b k=m at ih ul
  have e:∀t:Nat,_↔_:=fun t=>Vr (o:=b.ops.getD p default) (i:=p) (t:=t) (m:=m) (by omega) (fun c=>by have:=X c;omega) (fun c=>by have:=Y c;omega)
  have hi:∀t:Nat,p<t→((usO (b.ops.getD p default) p m).getD t default=true↔m.getD t default=true):=fun t h=>by
   rw [e]
   constructor
   ·rintro(h1 | ⟨_,h1 | ⟨h1,h2⟩ | ⟨h1,h2⟩⟩)
    ·exact h1
    ·omega
    ·have:=X h1;omega
    ·have:=Y h1;omega
   ·exact Or.inl
  have mono:∀t:Nat,m.getD t default=true→(usO (b.ops.getD p default) p m).getD t default=true:=fun t h=>(e t).2 (Or.inl h)
  have pp:(usO (b.ops.getD p default) p m).getD p default=true↔m.getD p default=true∨4≤(b.ops.getD p default).kind:=by
   rw [e]
   constructor
   ·rintro(h1 | ⟨h1,_⟩)
    ·exact Or.inl h1
    ·exact h1
   ·intro h;exact Or.inr ⟨h,Or.inl rfl⟩
  refine⟨fun i h1 h2 h3=> ?_,fun i h1 h2 h3 h4=> ?_,fun i h1 h2 h3 h4=> ?_,fun c=>mono _ (ih.ex c),fun c=>mono _ (ih.ey c),fun t h1 h2=> ?_⟩
  ·by_cases c:i=p
   ·subst c;exact pp.2 (Or.inr h3)
   ·exact mono _ (ih.k i (by omega) h2 h3)
  ·by_cases c:i=p
   ·subst c;exact(e _).2 (Or.inr ⟨pp.1 h3,Or.inr (Or.inl ⟨h4,rfl⟩)⟩)
   ·exact mono _ (ih.x i (by omega) h2 ((hi i (by omega)).1 h3) h4)
  ·by_cases c:i=p
   ·subst c;exact(e _).2 (Or.inr ⟨pp.1 h3,Or.inr (Or.inr ⟨h4,rfl⟩)⟩)
   ·exact mono _ (ih.y i (by omega) h2 ((hi i (by omega)).1 h3) h4)
  ·have old:m.getD t default=true→_:=fun h=>ih.wh t h1 h
   have go:m.getD t default=true→4≤(b.ops.getD t default).kind∨b.fin≠1∧t=b.x.toNat∨3≤b.fin∧t=b.y.toNat∨∃j:Nat,p≤j∧j<b.ops.length∧t<j∧(usO (b.ops.getD p default) p m).getD j default=true∧(hX (b.ops.getD j default)∧t=(b.ops.getD j default).x.toNat∨hY (b.ops.getD j default)∧t=(b.ops.getD j default).y.toNat):=fun h=>by
    rcases old h with h | h | h | ⟨j,j1,j2,j3,j4,j5⟩
    ·exact Or.inl h
    ·exact Or.inr (Or.inl h)
    ·exact Or.inr (Or.inr (Or.inl h))
    ·exact Or.inr (Or.inr (Or.inr ⟨j,by omega,j2,j3,mono _ j4,j5⟩))
   rcases(e t).1 h2 with h | ⟨h,g⟩
   ·exact go h
   ·rcases g with g | ⟨g1,g2⟩ | ⟨g1,g2⟩
    ·subst g
     rcases h with h | h
     ·exact go h
     ·exact Or.inl h
    ·exact Or.inr (Or.inr (Or.inr ⟨p,Nat.le_refl _,pl,by have:=X g1;omega,pp.2 h,Or.inl ⟨g1,g2⟩⟩))
    ·exact Or.inr (Or.inr (Or.inr ⟨p,Nat.le_refl _,pl,by have:=Y g1;omega,pp.2 h,Or.inr ⟨g1,g2⟩⟩))
theorem aoP {b:Blk} (hb:dB b):UI b 0 (us b b.ops.length):=by
 have:=adL hb b.ops.length (Nat.le_refl _)
 rw [Nat.sub_self]at this;exact this
theorem aap (b:Blk) (kp:List Bool):(Ca b kp).ops.length=(kpS b.ops kp b.ops.length).2.length:=List.length_map _
theorem SQ (o:IOp) (l:List IOp) (r:Int):qL (o::l) r=if o.kind=4∨o.kind=5∨o.kind=2∧o.k=r then false else if o.kind=8∧o.k=r then true else qL l r:=rfl
theorem OY (b:Blk) (kp:List Bool):(Ca b kp).ops.length≤b.ops.length:=by rw [aap];exact(zJ b.ops kp b.ops.length).2
theorem H8 (b:Blk):(wF b).ops.length≤b.ops.length:=by
 unfold wF;split
 ·exact OY _ _
 ·exact Nat.zero_le _
theorem yJ (b:Blk):(oJ b).ops.length≤b.ops.length:=by
 unfold oJ;split
 ·exact OY _ _
 ·exact Nat.zero_le _
theorem Cc (b:Blk):(fD b).ops.length≤b.ops.length:=by
 by_cases c:dB b
 ·exact Nat.le_of_eq (OX c).2
 ·unfold fD;rw [iB c,if_neg (by decide)];exact Nat.zero_le _
theorem nS (b:Blk):(bC b).ops.length≤b.ops.length:=by
 by_cases c:dB b
 ·exact Nat.le_of_eq (SH c).2
 ·unfold bC;rw [iB c,if_neg (by decide)];exact Nat.zero_le _
noncomputable def KT (b:Blk):Blk:=oJ (wF (oJ (fD (bC b))))
theorem JD (b:Blk):(KT b).ops.length≤b.ops.length:=Nat.le_trans (yJ _) (Nat.le_trans (H8 _) (Nat.le_trans (yJ _) (Nat.le_trans (Cc _) (nS _))))
theorem KU {b:Blk} (hb:dB b):fD b=fcB b (fc b.ops b.ops.length):=by unfold fD;rw [if_pos (bO hb)]
theorem OZ {b:Blk} (hb:dB b):bC b=OW (cpS b.ops b.ops.length).1 b b.ops:=by unfold bC;rw [if_pos (bO hb)]
end Go.TX.F
namespace Go.TX.F
open Go Go.AE Go.TX
theorem RB:(∀o:IOp,jK .iop 0 o=o.kind)∧(∀o:IOp,jK .iop 1 o=o.x)∧(∀o:IOp,jK .iop 2 o=o.y)∧(∀o:IOp,jK .iop 3 o=o.k)∧(∀o:IOp,jK .iop 4 o=o.at_)∧
  (∀b:Blk,jK .blk 0 b=b.pc)∧(∀b:Blk,jK .blk 1 b=b.len)∧(∀b:Blk,o9 .blk 2 .iop b=b.ops)∧(∀b:Blk,jK .blk 3 b=b.fin)∧(∀b:Blk,jK .blk 4 b=b.x)∧(∀b:Blk,jK .blk 5 b=b.y)∧(∀b:Blk,jK .blk 6 b=b.k)∧
  (∀x,Co.mk .iop x=⟨x.1,x.2.1,x.2.2.1,x.2.2.2.1,x.2.2.2.2.1⟩)∧(∀x,Co.mk .blk x=⟨x.1,x.2.1,x.2.2.1,x.2.2.2.1,x.2.2.2.2.1,x.2.2.2.2.2.1,x.2.2.2.2.2.2.1⟩)∧
  (∀i:Ins,jK .ins 0 i=i.op)∧(∀i:Ins,jK .ins 1 i=i.d)∧(∀i:Ins,jK .ins 2 i=i.a)∧(∀i:Ins,jK .ins 3 i=i.k)∧(∀x,Co.mk .ins x=⟨x.1,x.2.1,x.2.2.1,x.2.2.2.1⟩)∧
  (∀e:Ev,jK .ev 0 e=e.kind)∧(∀e:Ev,jK .ev 1 e=e.at_)∧(∀e:Ev,o9 .ev 2 .mono e=e.x)∧(∀e:Ev,o9 .ev 3 .mono e=e.y)∧(∀e:Ev,o9 .ev 4 .poly e=e.regs)∧(∀x,Co.mk .ev x=⟨x.1,x.2.1,x.2.2.1,x.2.2.2.1,x.2.2.2.2.1⟩)∧
  (∀s:Sym,o9 .sym 0 .ev s=s.events)∧(∀s:Sym,o9 .sym 1 .poly s=s.regs)∧(∀s:Sym,jK .sym 2 s=s.fin)∧(∀s:Sym,o9 .sym 3 .mono s=s.x)∧(∀s:Sym,o9 .sym 4 .mono s=s.y)∧(∀s:Sym,jK .sym 5 s=s.k)∧
  (∀x,Co.mk .sym x=⟨x.1,x.2.1,x.2.2.1,x.2.2.2.1,x.2.2.2.2.1,x.2.2.2.2.2.1⟩)∧(∀x,Co.mk .bool x=x.1)∧(∀x:Bool,ak4 .bool 0 x=x):=
 ⟨fun _=>rfl,fun _=>rfl,fun _=>rfl,fun _=>rfl,fun _=>rfl,fun _=>rfl,fun _=>rfl,fun _=>rfl,fun _=>rfl,fun _=>rfl,fun _=>rfl,fun _=>rfl,fun _=>rfl,fun _=>rfl,fun _=>rfl,fun _=>rfl,fun _=>rfl,fun _=>rfl,fun _=>rfl,fun _=>rfl,fun _=>rfl,fun _=>rfl,fun _=>rfl,fun _=>rfl,fun _=>rfl,fun _=>rfl,fun _=>rfl,fun _=>rfl,fun _=>rfl,fun _=>rfl,fun _=>rfl,fun _=>rfl,fun _=>rfl,fun _=>rfl⟩
@[reducible] def hK (o : IOp) : Prop := o.kind = 1 ∨ o.kind = 2 ∨ o.kind = 3 ∨ o.kind = 8
theorem aoQ {p1:Int×Int×Int×Unit→Bool} {f1:Int×Int×Int×Unit→Bool×Unit} (hp1:∀a b c,p1 (a,b,c,())=true) (hf1:∀a b c,f1 (a,b,c,())=(inB a b c,())) (o:IOp):
  Yd (std 0) p1 f1 (o,()) (fun y=>y=(decide (hX o),decide (hY o),decide (hK o),decide (evO o),())):=by
 dsimp only [Yd,Alg.cl,Alg.cg,Alg.rb,Alg.bd,Alg.l1,Tup.q,Tup.o]
 simp (disch:=omega) only [RR,RB,hp1,hf1]
 refine Prod.ext ?_ (Prod.ext ?_ (Prod.ext ?_ (Prod.ext ?_ rfl)))<;>rw [Bool.eq_iff_iff]<;>simp [hX,hY,hK,evO,inB,or_assoc,and_assoc]
theorem aoR {p1:Int×Int×Int×Unit→Bool} {f1:Int×Int×Int×Unit→Bool×Unit} (hp1:∀a b c,p1 (a,b,c,())=true) (hf1:∀a b c,f1 (a,b,c,())=(inB a b c,())) (o:IOp):
  Yg (std 0) p1 f1 (o,()) (fun y=>y=(decide (mkV o),())):=by
 dsimp only [Yg,Alg.cl,Alg.cg,Alg.rb,Alg.bd,Alg.l1,Tup.q,Tup.o]
 simp (disch:=omega) only [RR,RB,hp1,hf1]
 refine Prod.ext ?_ rfl
 rw [Bool.eq_iff_iff];simp [mkV,inB]
theorem aoS {p1:Int×Int×Int×Unit→Bool} {f1:Int×Int×Int×Unit→Bool×Unit} (hp1:∀a b c,p1 (a,b,c,())=true) (hf1:∀a b c,f1 (a,b,c,())=(inB a b c,())) (o:IOp):
  Za (std 0) p1 f1 (o,()) (fun y=>y=(decide (evO o),())):=by
 dsimp only [Za,Alg.cl,Alg.cg,Alg.rb,Alg.bd,Alg.l1,Tup.q,Tup.o]
 simp (disch:=omega) only [RR,RB,hp1,hf1]
 refine Prod.ext ?_ rfl
 rw [Bool.eq_iff_iff];simp [evO,inB]
theorem aoT {p2:IOp×Unit→Bool} {f2:IOp×Unit→Bool×Unit} (hp2:∀o,p2 (o,())=true) (hf2:∀o,f2 (o,())=(decide (mkV o),()))
  {p1:Int×Int×Int×Unit→Bool} {f1:Int×Int×Int×Unit→Bool×Unit} (hp1:∀a b c,p1 (a,b,c,())=true) (hf1:∀a b c,f1 (a,b,c,())=(inB a b c,())) (b:Blk) (x n:Int) (h0:0≤n) (h1:n≤b.ops.length) (h2:b.ops.length<1000000000):
  Yh (std 0) p2 f2 p1 f1 (b,x,n,()) (fun y=>y=(bp (Vl b.ops x n),())):=by
 dsimp only [Yh,Alg.cl,Alg.cg,Alg.rb,Alg.bd,Alg.l1,Tup.q,Tup.o]
 simp (disch:=omega) only [RR,RB,hp1,hf1,hp2,hf2,fF,sG]
 refine⟨by omega,by omega,?_⟩
 refine Prod.ext ?_ rfl
 dsimp only
 rw [Bool.eq_iff_iff,bR,Bool.and_eq_true,fF,decide_eq_true_eq]
 unfold Vl
 constructor
 ·rintro⟨⟨a1,a2⟩,a3⟩;exact⟨a1,by omega,a3⟩
 ·rintro⟨a1,a2,a3⟩;exact⟨⟨a1,by omega⟩,a3⟩
theorem O5 {ops:List IOp} {len i:Int} {o:IOp}:Cx ops len i o↔(1≤o.kind∧o.kind≤8)∧(hX o∧Vl ops o.x i∨¬hX o∧o.x=0)∧(hY o∧Vl ops o.y i∨¬hY o∧o.y=0)∧
  (hK o∧(o.kind=1∧(0≤o.k∧o.k≤65535)∨(o.kind=2∨o.kind=8)∧(0≤o.k∧o.k≤3)∨o.kind=3∧(1≤o.k∧o.k≤5))∨¬hK o∧o.k=0)∧(evO o∧(0≤o.at_∧o.at_<len)∨¬evO o∧o.at_=0):=by
 constructor
 ·rintro⟨kd,x1,x0,y1,y0,k1,k2,k3,k0,a1,a0⟩
  refine⟨kd,?_,?_,?_,?_⟩
  ·by_cases h:hX o
   ·exact Or.inl ⟨h,x1 h⟩
   ·exact Or.inr ⟨h,x0 h⟩
  ·by_cases h:hY o
   ·exact Or.inl ⟨h,y1 h⟩
   ·exact Or.inr ⟨h,y0 h⟩
  ·unfold hK;omega
  ·by_cases h:evO o
   ·exact Or.inl ⟨h,a1 h⟩
   ·exact Or.inr ⟨h,a0 h⟩
 ·rintro⟨kd,x,y,k,a⟩
  refine⟨kd,fun h=> ?_,fun h=> ?_,fun h=> ?_,fun h=> ?_,fun h=> ?_,fun h=> ?_,fun h=> ?_,fun h h'=> ?_,fun h=> ?_,fun h=> ?_⟩
  ·rcases x with x | x
   ·exact x.2
   ·exact absurd h x.1
  ·rcases x with x | x
   ·exact absurd x.1 h
   ·exact x.2
  ·rcases y with y | y
   ·exact y.2
   ·exact absurd h y.1
  ·rcases y with y | y
   ·exact absurd y.1 h
   ·exact y.2
  ·unfold hK at k;omega
  ·unfold hK at k;omega
  ·unfold hK at k;omega
  ·unfold hK at k;omega
  ·rcases a with a | a
   ·exact a.2
   ·exact absurd h a.1
  ·rcases a with a | a
   ·exact absurd a.1 h
   ·exact a.2
theorem aoU {p3:Blk×Int×Int×Unit→Bool} {f3:Blk×Int×Int×Unit→Bool×Unit} (hp3:∀b x n,0≤n→n≤b.ops.length→b.ops.length<1000000000→p3 (b,x,n,())=true) (hf3:∀b x n,0≤n→n≤b.ops.length→b.ops.length<1000000000→f3 (b,x,n,())=(bp (Vl b.ops x n),()))
  {p2:IOp×Unit→Bool} {f2:IOp×Unit→Bool×Bool×Bool×Bool×Unit} (hp2:∀o,p2 (o,())=true) (hf2:∀o,f2 (o,())=(decide (hX o),decide (hY o),decide (hK o),decide (evO o),()))
  {p4:Int×Unit→Bool} {f4:Int×Unit→Bool×Unit} (hp4:∀a,p4 (a,())=true) (hf4:∀a,f4 (a,())=(inB a 0 65535,()))
  {p1:Int×Int×Int×Unit→Bool} {f1:Int×Int×Int×Unit→Bool×Unit} (hp1:∀a b c,p1 (a,b,c,())=true) (hf1:∀a b c,f1 (a,b,c,())=(inB a b c,()))
  {p5:Int×Unit→Bool} {f5:Int×Unit→Bool×Unit} (hp5:∀a,p5 (a,())=true) (hf5:∀a,f5 (a,())=(inB a 1 5,()))
  {p6:Int×Unit→Bool} {f6:Int×Unit→Bool×Unit} (hp6:∀a,p6 (a,())=true) (hf6:∀a,f6 (a,())=(inB a 0 3,()))
  (b:Blk) (i:Int) (h0:0≤i) (h1:i<b.ops.length) (h2:b.ops.length<1000000000) (h3:1≤b.len∧b.len≤8):
  Yi (std 0) p3 f3 p2 f2 p4 f4 p1 f1 p5 f5 p6 f6 (b,i,()) (fun y=>y=(bp (Cx b.ops b.len i ((b.ops).getD (i).toNat default)),())):=by
 have SX:=fun x=>hp3 b x i h0 (by omega) h2
 have SY:=fun x=>hf3 b x i h0 (by omega) h2
 dsimp only [Yi,Alg.cl,Alg.cg,Alg.rb,Alg.bd,Alg.l1,Tup.q,Tup.o]
 simp (disch:=omega) only [RR,RB,hp1,hf1,hp2,hf2,SX,SY,hp4,hf4,hp5,hf5,hp6,hf6,sG]
 refine⟨by omega,by omega,fun h=> ?_,fun h=> ?_⟩
 ·rw [iB (fun g=>h g.kd)]
 ·have h:=fF.1 h
  refine Prod.ext ?_ rfl
  dsimp only
  rw [Bool.eq_iff_iff,bR,O5]
  generalize ((b.ops).getD (i).toNat default)=o at h ⊢
  simp only [Bool.and_eq_true,Bool.or_eq_true,Bool.not_eq_true',decide_eq_true_eq,decide_eq_false_iff_not,bR,fF,h,true_and,and_true]
  have e:∀ {a:Int},(0≤a∧a≤b.len-1)↔(0≤a∧a<b.len):=fun {a}=>by omega
  have k:(bif decide (o.kind=1)then inB o.k 0 65535 else bif decide (o.kind=2)then inB o.k 0 3 else bif decide (o.kind=3)then inB o.k 1 5 else(decide (o.kind=8)&&inB o.k 0 3))=true↔(o.kind=1∧(0≤o.k∧o.k≤65535)∨(o.kind=2∨o.kind=8)∧(0≤o.k∧o.k≤3)∨o.kind=3∧(1≤o.k∧o.k≤5)):=by
   rcases(by omega:o.kind=1∨o.kind=2∨o.kind=3∨o.kind=8∨(o.kind≠1∧o.kind≠2∧o.kind≠3∧o.kind≠8))with c | c | c | c | ⟨c1,c2,c3,c4⟩
   ·simp [c,inB]
   ·simp [c,inB]
   ·simp [c,inB]
   ·simp [c,inB]
   ·simp [c1,c2,c3,c4]
  rw [k]
  simp only [e,and_assoc]
theorem adM (b:Blk):Yl (std 0) (b,()) (fun y=>y=(decide (b.fin≠1),decide (3≤b.fin),decide (b.fin≠2),())):=by
 dsimp only [Yl,Alg.cl,Alg.cg,Alg.rb,Alg.bd,Alg.l1,Tup.q,Tup.o]
 simp (disch:=omega) only [RR,RB]
 refine Prod.ext ?_ (Prod.ext rfl (Prod.ext ?_ rfl))<;>simp
theorem JE {b:Blk}:zG b↔(1≤b.fin∧b.fin≤4)∧(b.fin≠1∧Vl b.ops b.x b.ops.length∨¬b.fin≠1∧b.x=0)∧(3≤b.fin∧Vl b.ops b.y b.ops.length∨¬3≤b.fin∧b.y=0)∧(b.fin≠2∧(0≤b.k∧b.k≤65535)∨¬b.fin≠2∧b.k=0):=by
 constructor
 ·rintro⟨f,x1,x0,y1,y0,k1,k0⟩
  refine⟨f,?_,?_,by omega⟩
  ·by_cases h:b.fin=1
   ·exact Or.inr ⟨fun g=>g h,x0 h⟩
   ·exact Or.inl ⟨h,x1 h⟩
  ·by_cases h:3≤b.fin
   ·exact Or.inl ⟨h,y1 h⟩
   ·exact Or.inr ⟨h,y0 (by omega)⟩
 ·rintro⟨f,x,y,k⟩
  refine⟨f,fun h=> ?_,fun h=> ?_,fun h=> ?_,fun h=> ?_,fun h=>by omega,fun h=>by omega⟩
  ·rcases x with x | x
   ·exact x.2
   ·exact absurd h x.1
  ·rcases x with x | x
   ·exact absurd h x.1
   ·exact x.2
  ·rcases y with y | y
   ·exact y.2
   ·exact absurd h y.1
  ·rcases y with y | y
   ·exact absurd y.1 (by omega)
   ·exact y.2
theorem aoV {p2:Blk×Unit→Bool} {f2:Blk×Unit→Bool×Bool×Bool×Unit} (hp2:∀b,p2 (b,())=true) (hf2:∀b,f2 (b,())=(decide (b.fin≠1),decide (3≤b.fin),decide (b.fin≠2),()))
  {p3:Blk×Int×Int×Unit→Bool} {f3:Blk×Int×Int×Unit→Bool×Unit} (hp3:∀b x n,0≤n→n≤b.ops.length→b.ops.length<1000000000→p3 (b,x,n,())=true) (hf3:∀b x n,0≤n→n≤b.ops.length→b.ops.length<1000000000→f3 (b,x,n,())=(bp (Vl b.ops x n),()))
  {p4:Int×Unit→Bool} {f4:Int×Unit→Bool×Unit} (hp4:∀a,p4 (a,())=true) (hf4:∀a,f4 (a,())=(inB a 0 65535,()))
  {p1:Int×Int×Int×Unit→Bool} {f1:Int×Int×Int×Unit→Bool×Unit} (hp1:∀a b c,p1 (a,b,c,())=true) (hf1:∀a b c,f1 (a,b,c,())=(inB a b c,())) (b:Blk) (h2:b.ops.length<1000000000):
  Ym (std 0) p2 f2 p3 f3 p4 f4 p1 f1 (b,()) (fun y=>y=(bp (zG b),())):=by
 have SX:=fun x=>hp3 b x b.ops.length (by omega) (Int.le_refl _) h2
 have SY:=fun x=>hf3 b x b.ops.length (by omega) (Int.le_refl _) h2
 dsimp only [Ym,Alg.cl,Alg.cg,Alg.rb,Alg.bd,Alg.l1,Tup.q,Tup.o]
 simp (disch:=omega) only [RR,RB,hp1,hf1,hp2,hf2,SX,SY,hp4,hf4]
 refine Prod.ext ?_ rfl
 dsimp only
 rw [Bool.eq_iff_iff,bR,JE]
 simp only [Bool.and_eq_true,Bool.or_eq_true,Bool.not_eq_true',decide_eq_true_eq,decide_eq_false_iff_not,bR,fF,and_assoc]
theorem aoW {p2:Blk×Unit→Bool} {f2:Blk×Unit→Bool×Unit} (hp2:∀b,b.ops.length<1000000000→p2 (b,())=true) (hf2:∀b,b.ops.length<1000000000→f2 (b,())=(bp (zG b),()))
  {p3:Blk×Int×Unit→Bool} {f3:Blk×Int×Unit→Bool×Unit} (hp3:∀(b:Blk) (i:Int),0≤i→i<b.ops.length→b.ops.length<1000000000→1≤b.len∧b.len≤8→p3 (b,i,())=true) (hf3:∀(b:Blk) (i:Int),0≤i→i<b.ops.length→b.ops.length<1000000000→1≤b.len∧b.len≤8→f3 (b,i,())=(bp (Cx b.ops b.len i ((b.ops).getD (i).toNat default)),()))
  {p1:Int×Int×Int×Unit→Bool} {f1:Int×Int×Int×Unit→Bool×Unit} (hp1:∀a b c,p1 (a,b,c,())=true) (hf1:∀a b c,f1 (a,b,c,())=(inB a b c,())) (b:Blk) (h2:b.ops.length<1000000000):
  Yn (std 0) p2 f2 p3 f3 p1 f1 (b,()) (fun y=>y=(bp (dB b),())):=by
 dsimp only [Yn,Alg.cl,Alg.cg,Alg.rb,Alg.bd,Alg.l1,Tup.q,Tup.o]
 simp (disch:=omega) only [RR,RB,hp1,hf1]
 by_cases hl:1≤b.len∧b.len≤8
 ·have hl':=fF.2 hl
  simp (disch:=omega) only [RR,hl',fF,sG]
  refine⟨fun h=> ?_,fun h=> ?_⟩
  ·rw [iB (fun g=> ?_)]
   have g1:=g.pc
   have g2:=g.sz
   omega
  ·refine aA (fun(y:Int×Int×Blk×Unit)=>y.1=b.ops.length∧y.2.2.1=b∧0≤y.2.1∧y.2.1≤b.ops.length∧All y.2.1 (fun i=>Cx b.ops b.len i ((b.ops).getD (i).toNat default))) (fun y=>(b.ops.length-y.2.1).toNat) ⟨rfl,rfl,by simp,by simp,All.zero⟩ ?_
   rintro⟨(n:Int),(i:Int),(b':Blk),⟨⟩⟩ hI
   dsimp only at hI ⊢
   obtain⟨rfl,rfl,h3,h4,h5⟩:=hI
   simp (disch:=omega) only [RR,hp2 b' h2,hf2 b' h2]
   refine⟨fun h6=>⟨hp3 b' i h3 h6 h2 hl,?_⟩,fun h6=> ?_⟩
   ·rw [hf3 b' i h3 h6 h2 hl]
    dsimp only
    refine⟨fun h7=> ?_,fun h7=>⟨⟨by omega,by omega,h5.snoc (bR.1 h7)⟩,by omega⟩⟩
    rw [iB (fun g=>uU.1 h7 (g.op i h3 h6))]
   ·by_cases he:zG b'
    ·rw [bO he,bO (show dB b' from⟨hl,by omega,by omega,fun j j1 j2=>h5 j j1 (by omega),he⟩)]
    ·rw [iB he,iB (fun g=>he g.en)]
 ·have hl':=sG.2 hl
  simp (disch:=omega) only [RR,hl']
  rw [iB (fun g=>hl g.ln)]
  exact⟨rfl,fun h=>h.1.1.elim⟩
end Go.TX.F
