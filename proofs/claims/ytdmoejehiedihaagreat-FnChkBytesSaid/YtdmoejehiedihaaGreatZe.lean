/- Part 5 of a proof: what the last part needs. No condition. -/
import Derived.Test.YtdmoejehiedihaaGreatZd
set_option linter.all false
set_option linter.unusedSectionVars false
set_option linter.unusedVariables false
set_option linter.unusedSimpArgs false
namespace Go.TX.Seat
open Go Go.AE Go.TX Go.TX.F Go.Proofs
set_option maxRecDepth 100000
theorem ak5 (A:Alg) (aW:Ct A.ah bX): @Ru aG.z X E A [] .u Lu Tryz.f94 [(72,⟨_,aW⟩)] (XC A aW.pre aW.fn):=fun _=>by kernel_rfl
theorem ak6 (A:Alg): @Ru aG.z X E A [] .u Lv Tryz.f95 [] (XD A):=fun _=>by kernel_rfl
theorem ak7 (A:Alg) (aW:Ct A.ah bX): @Ru aG.z X E A [] .u tT Tryz.f96 [(72,⟨_,aW⟩)] (XE A aW.pre aW.fn):=fun _=>by kernel_rfl
theorem ak8 (A:Alg): @Ru aG.z X E A [] .u tV Tryz.f176 [] (XF A):=fun _=>by kernel_rfl
theorem ak9 (A:Alg) (jl:Ct A.ah nL): @Ru aG.z X E A [] .u AX Tryz.f178 [(43,⟨_,jl⟩)] (XG A jl.pre jl.fn):=fun _=>by kernel_rfl
theorem ala (A:Alg) (nM:Ct A.ah AX): @Ru aG.z X E A [(4,[(0,([9],[])),(1,([1],[])),(2,([18,19],[])),(3,([20],[])),(4,([3,21],[])),(5,([0,21],[])),(6,([9,21],[])),(7,([21,23,24],[])),(8,([21,25],[])),(9,([0,21],[])),(10,([9,21],[])),(11,([21,28],[])),(12,([21,27,29],[])),(13,([21,30],[])),(14,([21,22,26,31],[])),(15,([21,32],[])),(16,([21,33],[]))]),(6,[(0,([0],[])),(1,([9],[])),(2,([0],[])),(3,([9],[])),(4,([40],[])),(5,([0],[])),(6,([9],[])),(7,([43],[])),(8,([42,44],[])),(9,([45],[])),(10,([0],[])),(11,([9],[])),(12,([47,48],[])),(13,([49],[])),(14,([37,38],[])),(15,([46,51],[])),(16,([39,41],[])),(17,([50,52],[]))])] (.seq .u (.block (.loop ⟨[(0,.c (.own 0)),(1,.c (.int .i64)),(2,.c (.int .i64)),(3,.c (.fn 178 [])),(8,.c (.int .i64))],[.rows false .mono]⟩ (.seq .u (.seq (.block (.seq .u (.block (.loop ⟨[(0,.c (.own 0)),(1,.c (.int .i64)),(2,.c (.int .i64)),(3,.c (.fn 178 [])),(8,.c (.int .i64)),(9,.c (.int .i64))],[.rows false .mono]⟩ .u)))) .u))))) Lx Tryz.f194 [(178,⟨_,nM⟩)] (XH A nM.pre nM.fn):=fun _=>by kernel_rfl
theorem afr (A:Alg): @Ru aG.z X E A [(3,[(0,([0],[])),(1,([1],[])),(2,([10],[])),(3,([17,18],[])),(4,([0],[])),(5,([2],[])),(6,([10],[])),(7,([21,22],[])),(8,([0],[])),(9,([2],[])),(10,([10],[])),(11,([25,26],[])),(12,([24,27],[])),(13,([28],[])),(14,([0],[])),(15,([1],[])),(16,([10],[])),(17,([31,32],[])),(18,([30,33],[])),(19,([34],[])),(20,([16,19],[])),(21,([29,36],[])),(22,([20,23],[])),(23,([35,37],[]))])] (.seq .u (.block (.loop ⟨[(0,.c (.own 0)),(1,.c (.int .i64)),(2,.c (.int .i64)),(3,.c (.int .i64)),(10,.c (.int .i64))],[.rows false .mono]⟩ .u))) Eb Tryz.f203 [] (Qy A):=fun _=>by kernel_rfl
theorem alb (A:Alg) (EZ:Ct A.ah Eb): @Ru aG.z X E A [] (.seq .u (.seq .u (.seq (.block (.loop ⟨[(0,.c (.own 0)),(2,.c (.int .i64)),(4,.c (.fn 178 [])),(10,.c (.int .i64)),(11,.c (.int .i64))],[.rows false .mono]⟩ (.seq .u (.block (.seq .u (.cut ⟨[(0,.c (.own 0)),(2,.c (.int .i64)),(4,.c (.fn 178 [])),(10,.c (.int .i64)),(11,.c (.int .i64))],[.rows false .mono]⟩ (.cond .u .u))))))) .u))) LA Tryz.f201 [(203,⟨_,EZ⟩)] (XI A EZ.pre EZ.fn):=fun _=>by kernel_rfl
theorem afs (A:Alg) (nM:Ct A.ah AX) (yU:Ct A.ah LA) (oV:Ct A.ah mG): @Ru aG.z X E A [(5,[(0,([4],[])),(1,([0],[])),(2,([12],[])),(3,([41,42],[])),(4,([43],[])),(5,([0],[])),(6,([1],[])),(7,([45,46],[])),(8,([47],[])),(9,([40,44,48],[])),(10,([49],[]))]),(11,[(0,([0],[])),(1,([13],[])),(2,([0],[])),(3,([13],[])),(4,([64],[])),(5,([0],[])),(6,([13],[])),(7,([67],[])),(8,([66,68],[])),(9,([69],[])),(10,([0],[])),(11,([13],[])),(12,([71,72],[])),(13,([73],[])),(14,([61,62],[])),(15,([70,75],[])),(16,([63,65],[])),(17,([74,76],[]))]),(17,[(0,([4],[])),(1,([0],[])),(2,([2],[])),(3,([93,94],[])),(4,([95],[])),(5,([0],[])),(6,([16],[])),(7,([97,98],[])),(8,([99],[])),(9,([92,96,100],[])),(10,([101],[])),(11,([102],[]))]),(23,[(0,([0],[])),(1,([17],[])),(2,([0],[])),(3,([17],[])),(4,([116],[])),(5,([0],[])),(6,([17],[])),(7,([119],[])),(8,([118,120],[])),(9,([121],[])),(10,([0],[])),(11,([17],[])),(12,([123,124],[])),(13,([125],[])),(14,([113,114],[])),(15,([122,127],[])),(16,([115,117],[])),(17,([126,128],[]))]),(35,[(0,([4],[])),(1,([0],[])),(2,([22],[])),(3,([23],[])),(4,([160,161],[])),(5,([159,162],[])),(6,([163],[])),(7,([0],[])),(8,([23],[])),(9,([165,166],[])),(10,([167],[])),(11,([158,164,168],[])),(12,([169],[])),(13,([170],[]))])] (.seq (.seq .u (.cond (.seq .u (.seq .u (.seq (.block (.loop ⟨[(0,.c (.own 0)),(1,.c (.int .i64)),(4,.c (.fn 178 [])),(10,.c (.int .i64)),(11,.c (.int .i64))],[.rows false .mono]⟩ (.seq .u (.block (.seq .u (.seq .u (.cut ⟨[(0,.c (.own 0)),(1,.c (.int .i64)),(4,.c (.fn 178 [])),(10,.c (.int .i64)),(11,.c (.int .i64))],[.rows false .mono]⟩ (.cond .u .u)))))))) (.seq (.seq .u (.block (.loop ⟨[(0,.c (.own 0)),(10,.c (.int .i64)),(13,.c (.int .i64))],[.rows false .mono]⟩ .u))) .u)))) .u)) (.seq (.seq .u (.cond (.seq .u (.seq .u (.seq (.block (.loop ⟨[(0,.c (.own 0)),(2,.c (.int .i64)),(4,.c (.fn 178 [])),(14,.c (.int .i64)),(15,.c (.int .i64))],[.rows false .mono]⟩ (.seq .u (.block (.seq .u (.seq .u (.cut ⟨[(0,.c (.own 0)),(2,.c (.int .i64)),(4,.c (.fn 178 [])),(14,.c (.int .i64)),(15,.c (.int .i64))],[.rows false .mono]⟩ (.cond .u .u)))))))) (.seq (.seq .u (.block (.loop ⟨[(0,.c (.own 0)),(14,.c (.int .i64)),(17,.c (.int .i64))],[.rows false .mono]⟩ .u))) .u)))) .u)) (.seq .u (.seq .u (.seq .u (.seq (.seq .u (.cut ⟨[(0,.c (.own 0)),(1,.c (.int .i64)),(2,.c (.int .i64)),(3,.c (.int .i64)),(4,.c (.fn 178 [])),(18,.c (.int .i64)),(19,.c (.int .i64)),(20,.c (.int .i64)),(21,.c (.int .i64))],[.rows false .mono]⟩ (.cond .u .u))) (.seq .u (.seq (.block (.loop ⟨[(0,.c (.own 0)),(1,.c (.int .i64)),(2,.c (.int .i64)),(3,.c (.int .i64)),(4,.c (.fn 178 [])),(18,.c (.int .i64)),(19,.c (.int .i64)),(20,.c (.int .i64)),(21,.c (.int .i64)),(22,.c (.int .i64))],[.rows false .mono]⟩ (.seq .u (.block (.seq .u (.seq .u (.cut ⟨[(0,.c (.own 0)),(1,.c (.int .i64)),(2,.c (.int .i64)),(3,.c (.int .i64)),(4,.c (.fn 178 [])),(18,.c (.int .i64)),(19,.c (.int .i64)),(20,.c (.int .i64)),(21,.c (.int .i64)),(22,.c (.int .i64))],[.rows false .mono]⟩ (.cond .u .u)))))))) (.seq .u (.seq (.seq .u (.cut ⟨[(0,.c (.own 0)),(1,.c (.int .i64)),(3,.c (.int .i64)),(4,.c (.fn 178 [])),(18,.c (.int .i64)),(20,.c (.int .i64)),(24,.c (.int .i64))],[.rows false .mono]⟩ (.cond .u .u))) (.seq (.seq .u (.cut ⟨[(0,.c (.own 0)),(3,.c (.int .i64)),(4,.c (.fn 178 [])),(18,.c (.int .i64)),(24,.c (.int .i64))],[.rows false .mono]⟩ (.cond .u .u))) (.seq .u (.cut ⟨[],[.rows false .mono]⟩ (.cond .u .u)))))))))))))) mG Tryz.f195 [(178,⟨_,nM⟩),(201,⟨_,yU⟩),(195,⟨_,oV⟩)] (Ej A nM.pre nM.fn yU.pre yU.fn oV.pre oV.fn):=fun _=>by kernel_rfl
theorem alc (A:Alg) (MW:Ct A.ah Lx) (oV:Ct A.ah mG): @Ru aG.z X E A [] (.seq .u (.seq .u (.seq (.block (.loop ⟨[(0,.c (.own 0)),(1,.c (.int .i64)),(2,.c (.fn 178 [])),(6,.c (.int .i64)),(7,.c (.int .i64)),(8,.c (.int .i64))],[.rows false .mono]⟩ .u)) (.seq .u (.block (.loop ⟨[(0,.c (.own 0)),(1,.c (.int .i64)),(2,.c (.fn 178 [])),(6,.c (.int .i64))],[.rows false .mono]⟩ (.seq .u (.block (.seq .u (.seq (.block (.loop ⟨[(0,.c (.own 0)),(1,.c (.int .i64)),(2,.c (.fn 178 [])),(6,.c (.int .i64)),(7,.c (.int .i64)),(8,.c (.int .i64))],[.rows false .mono]⟩ .u)) (.seq (.seq .u (.seq .u (.cut ⟨[(0,.c (.own 0)),(1,.c (.int .i64)),(2,.c (.fn 178 [])),(6,.c (.int .i64))],[.rows false .mono]⟩ (.cond .u .u)))) .u))))))))))) LB Tryz.f183 [(194,⟨_,MW⟩),(195,⟨_,oV⟩)] (XJ A MW.pre MW.fn oV.pre oV.fn):=fun _=>by kernel_rfl
theorem ald (A:Alg) (MX:Ct A.ah LB): @Ru aG.z X E A [] .u LC Tryz.f177 [(183,⟨_,MX⟩)] (XK A MX.pre MX.fn):=fun _=>by kernel_rfl
theorem ale (A:Alg) (jl:Ct A.ah nL) (dU:Ct A.ah iD) (mK:Ct A.ah tV) (vY:Ct A.ah Aw) (MZ:Ct A.ah LC): @Ru ⟨[51],[]⟩ X E A [(5,[(0,([0],[])),(1,([5],[])),(2,([14,15],[])),(3,([16],[])),(5,([],[])),(4,([],[])),(6,([7,17],[]))]),(6,[(0,([5],[])),(1,([0],[])),(2,([19],[])),(3,([18,20],[])),(4,([21],[])),(5,([7,22],[])),(6,([22,23],[])),(7,([0,22],[])),(8,([5,22],[])),(9,([22,25,26],[])),(10,([22,27],[])),(11,([22,28],[])),(12,([22,24,29],[])),(13,([22,30],[])),(14,([22,31],[]))]),(10,[(0,([4],[])),(1,([45],[])),(2,([6],[])),(3,([7],[])),(4,([48],[])),(5,([49],[1])),(6,([47,50],[])),(7,([51],[1])),(8,([46,52],[])),(9,([4],[])),(10,([53,54],[]))])] (.seq .u (.seq .u (.seq .u (.seq (.seq .u (.block (.loop ⟨[(0,.c (.own 0)),(2,.c (.pb 1 1 0)),(4,.c (.pb 2 1 0)),(5,.c (.int .i64))],[.rows false .mono,.box (.agg [.nil]),.box (.agg [.own 3]),.rows true .mono]⟩ (.seq .u (.block (.seq .u (.seq (.block (.loop ⟨[(0,.c (.own 0)),(2,.c (.pb 1 1 0)),(4,.c (.pb 2 1 0)),(5,.c (.int .i64)),(6,.c (.int .i64)),(7,.c (.pb 3 2 0))],[.rows false .mono,.box (.agg [.nil]),.box (.agg [.own 4]),.box (.sv false .mono),.rows true .mono]⟩ .u)) (.seq .u (.cut ⟨[(0,.c (.own 0)),(2,.c (.pb 1 1 0)),(4,.c (.pb 2 1 0)),(5,.c (.int .i64))],[.rows false .mono,.box (.agg [.nil]),.box (.agg [.own 3]),.rows true .mono]⟩ (.cond .u .u)))))))))) .u)))) AY Tryz.f172 [(43,⟨_,jl⟩),(28,⟨_,dU⟩),(176,⟨_,mK⟩),(126,⟨_,vY⟩),(177,⟨_,MZ⟩)] (XL A jl.pre jl.fn dU.pre dU.fn mK.pre mK.fn vY.pre vY.fn MZ.pre MZ.fn):=fun _=>by kernel_rfl
theorem alf (A:Alg): @Ru aG.z X E A [] (.seq .u (.seq .u (.seq (.seq .u (.seq .u (.cut ⟨[(0,.c (.own 0))],[.rows true .mono]⟩ (.cond .u .u)))) .u))) LD Tryz.f179 [] (XM A):=fun _=>by kernel_rfl
theorem alg (A:Alg) (M0:Ct A.ah LD): @Ru aG.z X E A [] (.seq .u (.seq .u (.seq (.seq .u (.block (.loop ⟨[(0,.c (.rows false .poly)),(3,.c (.int .i64)),(9,.c (.rows false .poly)),(10,.c (.int .i64)),(11,.c (.int .i64))],[]⟩ .u))) (.seq .u (.seq (.seq .u (.block (.loop ⟨[(6,.c (.own 0)),(25,.c (.rows false .poly)),(26,.c (.int .i64)),(27,.c (.int .i64))],[.rows false .mono]⟩ .u))) .u))))) LG Tryz.f173 [(179,⟨_,M0⟩)] (XO A M0.pre M0.fn):=fun _=>by kernel_rfl
theorem alh (A:Alg) (dU:Ct A.ah iD) (wI:Ct A.ah AY) (M4:Ct A.ah LG): @Ru aG.z X E A [] .u LH Tryz.f164 [(28,⟨_,dU⟩),(172,⟨_,wI⟩),(173,⟨_,M4⟩)] (XP A dU.pre dU.fn wI.pre wI.fn M4.pre M4.fn):=fun _=>by kernel_rfl
theorem ali (A:Alg): @Ru aG.z X E A [] (.seq .u (.seq .u (.seq (.seq .u (.seq .u (.cut ⟨[(0,.c (.own 0))],[.rows true .i64]⟩ (.cond .u .u)))) .u))) LJ Tryz.f180 [] (XU A):=fun _=>by kernel_rfl
theorem alj (A:Alg) (M5:Ct A.ah LJ): @Ru aG.z X E A [] (.seq .u (.seq .u (.seq (.seq .u (.block (.loop ⟨[(0,.c (.rows false .ints)),(3,.c (.int .i64)),(9,.c (.rows false .ints)),(10,.c (.int .i64)),(11,.c (.int .i64))],[]⟩ .u))) (.seq .u (.seq (.seq .u (.block (.loop ⟨[(6,.c (.own 0)),(25,.c (.rows false .ints)),(26,.c (.int .i64)),(27,.c (.int .i64))],[.rows true .i64]⟩ .u))) .u))))) LK Tryz.f174 [(180,⟨_,M5⟩)] (XV A M5.pre M5.fn):=fun _=>by kernel_rfl
theorem alk (A:Alg) (xQ:Ct A.ah D6): @Ru aG.z X E A [(4,[(0,([7],[])),(1,([1],[])),(2,([16,17],[])),(3,([18],[])),(4,([0,19],[])),(5,([7,19],[])),(6,([19,20,21],[])),(7,([19,22],[])),(8,([0,19],[])),(9,([7,19],[])),(10,([19,25],[])),(11,([19,24,26],[])),(12,([19,27],[])),(13,([19,23,28],[])),(14,([19,29],[]))]),(6,[(0,([0],[])),(1,([7],[])),(2,([0],[])),(3,([7],[])),(4,([36],[])),(5,([0],[])),(6,([7],[])),(7,([39],[])),(8,([38,40],[])),(9,([41],[])),(10,([0],[])),(11,([7],[])),(12,([43,44],[])),(13,([45],[])),(14,([33,34],[])),(15,([42,47],[])),(16,([35,37],[])),(17,([46,48],[]))])] (.seq .u (.block (.loop ⟨[(0,.c (.own 0)),(1,.c (.int .i64)),(2,.c (.int .i64)),(6,.c (.int .i64))],[.rows true .i64]⟩ (.seq .u (.seq (.block (.seq .u (.block (.loop ⟨[(0,.c (.own 0)),(1,.c (.int .i64)),(2,.c (.int .i64)),(6,.c (.int .i64)),(7,.c (.int .i64))],[.rows true .i64]⟩ .u)))) .u))))) LM Tryz.f184 [(122,⟨_,xQ⟩)] (XW A xQ.pre xQ.fn):=fun _=>by kernel_rfl
theorem alm (A:Alg) (xQ:Ct A.ah D6) (M6:Ct A.ah LM) (GH:Ct A.ah LP) (GI:Ct A.ah LQ) (GJ:Ct A.ah LU) (GK:Ct A.ah LW) (GL:Ct A.ah LY) (GN:Ct A.ah LZ) (GQ:Ct A.ah L6) (yV:Ct A.ah vW): @Ru aG.z X E A [(17,[(0,([1],[])),(1,([73],[])),(2,([74],[])),(3,([0,75],[])),(4,([1,75],[])),(5,([75,77],[])),(6,([75,76,78],[])),(7,([75,79],[])),(8,([0,75],[])),(9,([11,75],[])),(10,([75,81,82],[])),(11,([75,83],[])),(12,([75,80,84],[])),(13,([75,85],[])),(14,([75,86],[]))])] (.seq .u (.seq .u (.block (.loop ⟨[(0,.c (.own 0)),(1,.c (.int .i64)),(2,.c (.int .i64)),(3,.c (.int .i64)),(8,.c (.bool)),(9,.c (.bool))],[.rows true .i64]⟩ (.cut ⟨[(0,.c (.own 0)),(1,.c (.int .i64)),(2,.c (.int .i64)),(3,.c (.int .i64)),(8,.c (.bool)),(9,.c (.bool))],[.rows true .i64]⟩ (.block (.seq .u (.seq .u (.seq .u (.seq (.seq .u (.cut ⟨[(0,.c (.own 0)),(1,.c (.int .i64)),(2,.c (.int .i64)),(3,.c (.int .i64)),(8,.c (.bool)),(9,.c (.bool)),(10,.c (.int .i64))],[.rows true .i64]⟩ (.cond .u .u))) (.seq .u (.seq (.seq .u (.cut ⟨[(0,.c (.own 0)),(1,.c (.int .i64)),(2,.c (.int .i64)),(3,.c (.int .i64)),(8,.c (.bool)),(9,.c (.bool)),(10,.c (.int .i64)),(11,.c (.int .i64)),(12,.c (.int .i64))],[.rows true .i64]⟩ (.cond .u .u))) (.seq (.seq .u (.cut ⟨[(0,.c (.own 0)),(1,.c (.int .i64)),(2,.c (.int .i64)),(3,.c (.int .i64)),(8,.c (.bool)),(9,.c (.bool)),(10,.c (.int .i64)),(11,.c (.int .i64))],[.rows true .i64]⟩ (.cond .u .u))) (.seq .u (.seq .u (.seq .u (.seq .u (.seq .u (.seq .u (.cut ⟨[(0,.c (.own 0)),(1,.c (.int .i64)),(2,.c (.int .i64)),(3,.c (.int .i64)),(8,.c (.bool)),(9,.c (.bool))],[.rows true .i64]⟩ (.cond .u .u))))))))))))))))))))) vW Tryz.f181 [(122,⟨_,xQ⟩),(184,⟨_,M6⟩),(185,⟨_,GH⟩),(186,⟨_,GI⟩),(187,⟨_,GJ⟩),(188,⟨_,GK⟩),(189,⟨_,GL⟩),(190,⟨_,GN⟩),(191,⟨_,GQ⟩),(181,⟨_,yV⟩)] (XY A xQ.pre xQ.fn M6.pre M6.fn GH.pre GH.fn GI.pre GI.fn GJ.pre GJ.fn GK.pre GK.fn GL.pre GL.fn GN.pre GN.fn GQ.pre GQ.fn yV.pre yV.fn):=fun _=>by kernel_rfl
theorem aln (A:Alg) (yV:Ct A.ah vW) (E5:Ct A.ah Sn): @Ru aG.z X E A [] .u L8 Tryz.f175 [(181,⟨_,yV⟩),(182,⟨_,E5⟩)] (XZ A yV.pre yV.fn E5.pre E5.fn):=fun _=>by kernel_rfl
theorem alo (A:Alg) (dU:Ct A.ah iD) (mK:Ct A.ah tV) (wI:Ct A.ah AY) (M7:Ct A.ah LK) (M8:Ct A.ah L8): @Ru aG.z X E A [] (.seq .u (.seq .u (.seq .u (.seq (.seq .u (.block (.loop ⟨[(3,.c (.pb 0 1 0)),(4,.c (.pb 1 1 0)),(6,.c (.own 2)),(22,.c (.rows false .mono)),(23,.c (.int .i64)),(24,.c (.int .i64))],[.box (.sv false .poly),.box (.agg [.nil]),.rows true .mono]⟩ (.seq .u (.seq .u (.seq (.block (.seq .u (.seq .u (.block (.loop ⟨[(3,.c (.pb 0 1 0)),(4,.c (.pb 1 1 0)),(6,.c (.own 2)),(8,.c (.pb 3 2 0)),(22,.c (.rows false .mono)),(23,.c (.int .i64)),(24,.c (.int .i64)),(29,.c (.rows false .mono)),(30,.c (.int .i64)),(31,.c (.int .i64))],[.box (.sv false .poly),.box (.agg [.nil]),.rows true .mono,.box (.sv false .mono)]⟩ .u))))) .u)))))) .u)))) AZ Tryz.f166 [(28,⟨_,dU⟩),(176,⟨_,mK⟩),(172,⟨_,wI⟩),(174,⟨_,M7⟩),(175,⟨_,M8⟩)] (X0 A dU.pre dU.fn mK.pre mK.fn wI.pre wI.fn M7.pre M7.fn M8.pre M8.fn):=fun _=>by kernel_rfl
theorem alp (A:Alg) (dU:Ct A.ah iD) (mM:Ct A.ah tT) (gW:Ct A.ah kD) (wJ:Ct A.ah AZ): @Ru aG.z X E A [(3,[(0,([2],[])),(1,([1],[])),(2,([18],[0])),(3,([17,19],[])),(4,([20],[])),(5,([16],[])),(6,([16],[])),(7,([],[])),(8,([5,21],[])),(9,([22],[]))])] .u L9 Tryz.f165 [(28,⟨_,dU⟩),(96,⟨_,mM⟩),(39,⟨_,gW⟩),(166,⟨_,wJ⟩)] (X3 A dU.pre dU.fn mM.pre mM.fn gW.pre gW.fn wJ.pre wJ.fn):=fun _=>by kernel_rfl
theorem alq (A:Alg) (gW:Ct A.ah kD) (mK:Ct A.ah tV): @Ru aG.z X E A [] .u Ma Tryz.f167 [(39,⟨_,gW⟩),(176,⟨_,mK⟩)] (X6 A gW.pre gW.fn mK.pre mK.fn):=fun _=>by kernel_rfl
theorem alr (A:Alg) (fJ:Ct A.ah jk) (mM:Ct A.ah tT) (M9:Ct A.ah Ma) (Na:Ct A.ah LH) (wJ:Ct A.ah AZ) (Nb:Ct A.ah L9) (vZ:Ct A.ah Av): @Ru aG.z X E A [(5,[(0,([4],[])),(1,([5],[])),(2,([23],[0])),(3,([22,24],[])),(4,([25],[])),(5,([25],[])),(6,([6,26],[])),(7,([27],[]))])] (.seq .u (.seq .u (.seq .u (.seq .u (.seq .u (.seq (.seq .u (.cut ⟨[(0,.c (.int .i64)),(4,.c (.pb 0 1 0)),(6,.c (.pb 1 1 0)),(10,.c (.int .i64)),(11,.c (.bool))],[.box (.sv true .poly),.box (.agg [.nil])]⟩ (.cond .u .u))) .u)))))) Mc Tryz.f133 [(30,⟨_,fJ⟩),(96,⟨_,mM⟩),(167,⟨_,M9⟩),(164,⟨_,Na⟩),(166,⟨_,wJ⟩),(165,⟨_,Nb⟩),(12,⟨_,vZ⟩)] (X7 A fJ.pre fJ.fn mM.pre mM.fn M9.pre M9.fn Na.pre Na.fn wJ.pre wJ.fn Nb.pre Nb.fn vZ.pre vZ.fn):=fun _=>by kernel_rfl
theorem als (A:Alg) (mI:Ct A.ah tL) (Nc:Ct A.ah Mc) (wE:Ct A.ah AO) (wD:Ct A.ah AP): @Ru aG.z X E A [(3,[(0,([4],[])),(1,([11],[])),(2,([8,23],[1])),(3,([9,24],[])),(4,([],[]))]),(9,[(0,([13],[])),(1,([14],[])),(2,([49],[0])),(3,([8,48],[])),(4,([9,50],[])),(5,([],[]))])] (.seq .u (.seq .u (.seq (.seq .u (.cut ⟨[(1,.c (.int .i64)),(4,.c (.pb 0 1 0)),(6,.c (.pb 1 1 0)),(7,.c (.pb 2 1 0)),(8,.c (.pb 3 1 0)),(9,.c (.pb 4 1 0))],[.box (.sv true .tab),.box (.sv true .poly),.box (.sv true .poly),.box (.agg [.nil]),.box (.agg [.nil])]⟩ (.cond .u .u))) .u))) Md Tryz.f97 [(14,⟨_,mI⟩),(133,⟨_,Nc⟩),(134,⟨_,wE⟩),(135,⟨_,wD⟩)] (X8 A mI.pre mI.fn Nc.pre Nc.fn wE.pre wE.fn wD.pre wD.fn):=fun _=>by kernel_rfl
theorem alu (A:Alg) (F4:Ct A.ah Le) (mJ:Ct A.ah tQ) (Ng:Ct A.ah Lu) (wm:Ct A.ah Ay) (mM:Ct A.ah tT) (Nh:Ct A.ah Lb) (Ni:Ct A.ah Ls) (wG:Ct A.ah AV) (Nj:Ct A.ah Md) (wF:Ct A.ah AQ) (wH:Ct A.ah AU) (Nk:Ct A.ah Lv): @Ru aG.z X E A [(4,[(0,([6],[])),(2,([3],[])),(3,([47],[])),(4,([3],[])),(5,([49],[])),(1,([45],[3,5])),(6,([46,48,50],[])),(7,([],[])),(8,([7,51],[]))]),(27,[(0,([6],[])),(1,([134],[])),(2,([135],[])),(3,([136],[])),(4,([12],[])),(5,([138],[])),(6,([17],[])),(7,([18],[])),(8,([137,139,140,141],[])),(9,([142],[])),(10,([133],[])),(11,([133],[])),(12,([133],[])),(13,([],[])),(14,([],[])),(15,([20,143],[])),(16,([21,144],[])),(17,([145],[]))]),(30,[(0,([6],[])),(1,([8],[])),(2,([11],[])),(3,([20],[])),(4,([21],[])),(5,([150],[])),(6,([155],[])),(7,([153,156],[4])),(8,([151,152],[])),(9,([154,157],[]))]),(47,[(0,([6],[])),(1,([213],[])),(2,([214],[])),(3,([215],[])),(5,([7],[])),(6,([3],[])),(7,([219],[])),(8,([3],[])),(9,([221],[])),(10,([220,222],[])),(4,([216],[5,7,9])),(11,([218,223],[])),(12,([4,217],[])),(13,([5,224],[]))])] (.seq .u (.seq .u (.seq .u (.seq .u (.seq .u (.seq .u (.seq (.seq .u (.block (.loop ⟨[(3,.c (.pb 0 7 0)),(4,.c (.pb 1 1 0)),(5,.c (.pb 2 6 0)),(6,.c (.pb 3 2 0)),(7,.c (.pb 4 6 0)),(8,.c (.own 5)),(9,.c (.int .i64)),(10,.c (.int .i64)),(57,.c (.rows false .iop)),(58,.c (.int .i64)),(59,.c (.int .i64))],[.box (.sv false .blk),.box (.agg [.nil]),.box (.agg [.nil,.nil,.int .i64,.nil,.nil,.int .i64]),.box (.agg [.rows true .atom,.bool]),.box (.agg [.own 6,.own 7,.int .i64,.nil,.nil,.int .i64]),.rows true .poly,.rows true .ev,.rows true .poly]⟩ (.seq .u (.seq .u (.seq (.block (.seq .u (.seq .u (.seq .u (.seq (.seq .u (.cut ⟨[(3,.c (.pb 0 7 0)),(4,.c (.pb 1 1 0)),(5,.c (.pb 2 6 0)),(6,.c (.pb 3 2 0)),(7,.c (.pb 4 6 0)),(8,.c (.own 5)),(9,.c (.int .i64)),(10,.c (.int .i64)),(11,.c (.int .i64)),(12,.c (.pb 6 5 0)),(14,.c (.bool)),(17,.c (.pb 7 1 0)),(18,.c (.pb 8 1 0)),(57,.c (.rows false .iop)),(58,.c (.int .i64)),(59,.c (.int .i64))],[.box (.sv false .blk),.box (.agg [.nil]),.box (.agg [.nil,.nil,.int .i64,.nil,.nil,.int .i64]),.box (.agg [.rows true .atom,.bool]),.box (.agg [.own 9,.own 10,.int .i64,.nil,.nil,.int .i64]),.rows true .poly,.box (.sv false .iop),.box (.sv true .poly),.box (.agg [.nil]),.rows true .ev,.rows true .poly]⟩ (.cond .u .u))) (.seq (.seq .u (.cut ⟨[(3,.c (.pb 0 7 0)),(4,.c (.pb 1 1 0)),(5,.c (.pb 2 6 0)),(6,.c (.pb 3 2 0)),(7,.c (.pb 4 6 0)),(8,.c (.own 5)),(9,.c (.int .i64)),(10,.c (.int .i64)),(11,.c (.int .i64)),(12,.c (.pb 6 5 0)),(17,.c (.pb 7 1 0)),(18,.c (.pb 8 1 0)),(57,.c (.rows false .iop)),(58,.c (.int .i64)),(59,.c (.int .i64))],[.box (.sv false .blk),.box (.agg [.nil]),.box (.agg [.nil,.nil,.int .i64,.nil,.nil,.int .i64]),.box (.agg [.rows true .atom,.bool]),.box (.agg [.own 9,.own 10,.int .i64,.nil,.nil,.int .i64]),.rows true .poly,.box (.sv false .iop),.box (.sv true .poly),.box (.sv true .poly),.rows true .ev,.rows true .poly]⟩ (.cond .u .u))) (.seq (.seq .u (.cut ⟨[(3,.c (.pb 0 7 0)),(4,.c (.pb 1 1 0)),(5,.c (.pb 2 6 0)),(6,.c (.pb 3 2 0)),(7,.c (.pb 4 6 0)),(8,.c (.own 5)),(9,.c (.int .i64)),(10,.c (.int .i64)),(11,.c (.int .i64)),(12,.c (.pb 6 5 0)),(17,.c (.pb 7 1 0)),(18,.c (.pb 8 1 0)),(57,.c (.rows false .iop)),(58,.c (.int .i64)),(59,.c (.int .i64))],[.box (.sv false .blk),.box (.agg [.nil]),.box (.agg [.nil,.nil,.int .i64,.nil,.nil,.int .i64]),.box (.agg [.rows true .atom,.bool]),.box (.agg [.own 9,.own 10,.int .i64,.nil,.nil,.int .i64]),.rows true .poly,.box (.sv false .iop),.box (.sv true .poly),.box (.sv true .poly),.rows true .ev,.rows true .poly]⟩ (.cond (.seq .u (.seq (.seq .u (.cut ⟨[(3,.c (.pb 0 7 0)),(4,.c (.pb 1 1 0)),(5,.c (.pb 2 6 0)),(6,.c (.pb 3 2 0)),(7,.c (.pb 4 6 0)),(8,.c (.own 5)),(9,.c (.int .i64)),(10,.c (.int .i64)),(11,.c (.int .i64)),(12,.c (.pb 6 5 0)),(17,.c (.pb 7 1 0)),(18,.c (.pb 8 1 0)),(19,.c (.pb 9 5 0)),(57,.c (.rows false .iop)),(58,.c (.int .i64)),(59,.c (.int .i64))],[.box (.sv false .blk),.box (.agg [.nil]),.box (.agg [.nil,.nil,.int .i64,.nil,.nil,.int .i64]),.box (.agg [.rows true .atom,.bool]),.box (.agg [.own 10,.own 11,.int .i64,.nil,.nil,.int .i64]),.rows true .poly,.box (.sv false .iop),.box (.sv true .poly),.box (.sv true .poly),.box (.agg [.int .i64,.int .i64,.rows true .mono,.rows true .mono,.own 12]),.rows true .ev,.rows true .poly,.rows true .poly]⟩ (.cond .u .u))) .u)) .u))) (.seq .u (.block (.seq .u (.cut ⟨[(3,.c (.pb 0 7 0)),(4,.c (.pb 1 1 0)),(5,.c (.pb 2 6 0)),(6,.c (.pb 3 2 0)),(7,.c (.pb 4 6 0)),(8,.c (.own 5)),(9,.c (.int .i64)),(10,.c (.int .i64)),(57,.c (.rows false .iop)),(58,.c (.int .i64)),(59,.c (.int .i64))],[.box (.sv false .blk),.box (.agg [.nil]),.box (.agg [.nil,.nil,.int .i64,.nil,.nil,.int .i64]),.box (.agg [.rows true .atom,.bool]),.box (.agg [.own 6,.own 7,.int .i64,.nil,.nil,.int .i64]),.rows true .poly,.rows true .ev,.rows true .poly]⟩ (.cond .u (.seq .u (.cut ⟨[(3,.c (.pb 0 7 0)),(4,.c (.pb 1 1 0)),(5,.c (.pb 2 6 0)),(6,.c (.pb 3 2 0)),(7,.c (.pb 4 6 0)),(8,.c (.own 5)),(9,.c (.int .i64)),(10,.c (.int .i64)),(57,.c (.rows false .iop)),(58,.c (.int .i64)),(59,.c (.int .i64))],[.box (.sv false .blk),.box (.agg [.nil]),.box (.agg [.nil,.nil,.int .i64,.nil,.nil,.int .i64]),.box (.agg [.rows true .atom,.bool]),.box (.agg [.own 6,.own 7,.int .i64,.nil,.nil,.int .i64]),.rows true .poly,.rows true .ev,.rows true .poly]⟩ (.cond .u (.seq .u (.cut ⟨[(3,.c (.pb 0 7 0)),(4,.c (.pb 1 1 0)),(5,.c (.pb 2 6 0)),(6,.c (.pb 3 2 0)),(7,.c (.pb 4 6 0)),(8,.c (.own 5)),(9,.c (.int .i64)),(10,.c (.int .i64)),(57,.c (.rows false .iop)),(58,.c (.int .i64)),(59,.c (.int .i64))],[.box (.sv false .blk),.box (.agg [.nil]),.box (.agg [.nil,.nil,.int .i64,.nil,.nil,.int .i64]),.box (.agg [.rows true .atom,.bool]),.box (.agg [.own 6,.own 7,.int .i64,.nil,.nil,.int .i64]),.rows true .poly,.rows true .ev,.rows true .poly]⟩ (.cond .u (.seq .u (.cut ⟨[(3,.c (.pb 0 7 0)),(4,.c (.pb 1 1 0)),(5,.c (.pb 2 6 0)),(6,.c (.pb 3 2 0)),(7,.c (.pb 4 6 0)),(8,.c (.own 5)),(9,.c (.int .i64)),(10,.c (.int .i64)),(57,.c (.rows false .iop)),(58,.c (.int .i64)),(59,.c (.int .i64))],[.box (.sv false .blk),.box (.agg [.nil]),.box (.agg [.nil,.nil,.int .i64,.nil,.nil,.int .i64]),.box (.agg [.rows true .atom,.bool]),.box (.agg [.own 6,.own 7,.int .i64,.nil,.nil,.int .i64]),.rows true .poly,.rows true .ev,.rows true .poly]⟩ (.cond .u (.seq .u (.cut ⟨[(3,.c (.pb 0 7 0)),(4,.c (.pb 1 1 0)),(5,.c (.pb 2 6 0)),(6,.c (.pb 3 2 0)),(7,.c (.pb 4 6 0)),(8,.c (.own 5)),(9,.c (.int .i64)),(10,.c (.int .i64)),(57,.c (.rows false .iop)),(58,.c (.int .i64)),(59,.c (.int .i64))],[.box (.sv false .blk),.box (.agg [.nil]),.box (.agg [.nil,.nil,.int .i64,.nil,.nil,.int .i64]),.box (.agg [.rows true .atom,.bool]),.box (.agg [.own 6,.own 7,.int .i64,.nil,.nil,.int .i64]),.rows true .poly,.rows true .ev,.rows true .poly]⟩ (.cond .u (.seq .u (.cut ⟨[(3,.c (.pb 0 7 0)),(4,.c (.pb 1 1 0)),(5,.c (.pb 2 6 0)),(6,.c (.pb 3 2 0)),(7,.c (.pb 4 6 0)),(8,.c (.own 5)),(9,.c (.int .i64)),(10,.c (.int .i64)),(57,.c (.rows false .iop)),(58,.c (.int .i64)),(59,.c (.int .i64))],[.box (.sv false .blk),.box (.agg [.nil]),.box (.agg [.nil,.nil,.int .i64,.nil,.nil,.int .i64]),.box (.agg [.rows true .atom,.bool]),.box (.agg [.own 6,.own 7,.int .i64,.nil,.nil,.int .i64]),.rows true .poly,.rows true .ev,.rows true .poly]⟩ (.cond .u .u))))))))))))))))))))))))))) .u)))))) (.seq .u (.seq (.seq .u (.cut ⟨[(3,.c (.pb 0 7 0)),(4,.c (.pb 1 1 0)),(5,.c (.pb 2 6 0)),(6,.c (.pb 3 2 0)),(7,.c (.pb 4 6 0)),(8,.c (.own 5)),(24,.c (.bool))],[.box (.sv false .blk),.box (.agg [.nil]),.box (.agg [.nil,.nil,.int .i64,.nil,.nil,.int .i64]),.box (.agg [.rows true .atom,.bool]),.box (.agg [.own 6,.own 7,.int .i64,.rows true .mono,.nil,.int .i64]),.rows true .poly,.rows true .ev,.rows true .poly]⟩ (.cond .u .u))) (.seq (.seq .u (.cut ⟨[(3,.c (.pb 0 7 0)),(4,.c (.pb 1 1 0)),(5,.c (.pb 2 6 0)),(6,.c (.pb 3 2 0)),(7,.c (.pb 4 6 0))],[.box (.sv false .blk),.box (.agg [.nil]),.box (.agg [.nil,.nil,.int .i64,.nil,.nil,.int .i64]),.box (.agg [.rows true .atom,.bool]),.box (.agg [.own 5,.own 6,.int .i64,.rows true .mono,.rows true .mono,.int .i64]),.rows true .ev,.rows true .poly]⟩ (.cond .u .u))) .u)))))))))) Me Tryz.f53 [(99,⟨_,F4⟩),(47,⟨_,mJ⟩),(94,⟨_,Ng⟩),(93,⟨_,wm⟩),(96,⟨_,mM⟩),(6,⟨_,Nh⟩),(92,⟨_,Ni⟩),(91,⟨_,wG⟩),(97,⟨_,Nj⟩),(98,⟨_,wF⟩),(90,⟨_,wH⟩),(95,⟨_,Nk⟩)] (X9 A F4.pre F4.fn mJ.pre mJ.fn Ng.pre Ng.fn wm.pre wm.fn mM.pre mM.fn Nh.pre Nh.fn Ni.pre Ni.fn wG.pre wG.fn Nj.pre Nj.fn wF.pre wF.fn wH.pre wH.fn Nk.pre Nk.fn):=fun _=>by kernel_rfl
theorem alv (A:Alg) (fJ:Ct A.ah jk): @Ru aG.z X E A [] .u Mf Tryz.f137 [(30,⟨_,fJ⟩)] (Ya A fJ.pre fJ.fn):=fun _=>by kernel_rfl
theorem alx (A:Alg) (Nl:Ct A.ah Mf): @Ru aG.z X E A [] (.seq .u (.seq .u (.seq (.seq .u (.block (.loop ⟨[(1,.c (.rows false .poly)),(2,.c (.fn 137 [])),(15,.c (.rows false .poly)),(16,.c (.int .i64)),(17,.c (.int .i64))],[]⟩ .u))) .u))) Mg Tryz.f136 [(137,⟨_,Nl⟩)] (Yb A Nl.pre Nl.fn):=fun _=>by kernel_rfl
theorem aly (A:Alg) (Nn:Ct A.ah Mg): @Ru aG.z X E A [] .u A8 Tryz.f102 [(136,⟨_,Nn⟩)] (Yc A Nn.pre Nn.fn):=fun _=>by kernel_rfl
theorem alz (A:Alg) (fJ:Ct A.ah jk) (wK:Ct A.ah A8): @Ru aG.z X E A [] .u Mh Tryz.f101 [(30,⟨_,fJ⟩),(102,⟨_,wK⟩)] (Yd A fJ.pre fJ.fn wK.pre wK.fn):=fun _=>by kernel_rfl
theorem alA (A:Alg) (Np:Ct A.ah Mh): @Ru aG.z X E A [] (.seq .u (.seq .u (.seq (.seq .u (.block (.loop ⟨[(1,.c (.rows false .ev)),(2,.c (.fn 101 [])),(15,.c (.rows false .ev)),(16,.c (.int .i64)),(17,.c (.int .i64))],[]⟩ .u))) .u))) Mi Tryz.f100 [(101,⟨_,Np⟩)] (Yg A Np.pre Np.fn):=fun _=>by kernel_rfl
theorem alB (A:Alg) (fJ:Ct A.ah jk) (wK:Ct A.ah A8) (Nq:Ct A.ah Mi): @Ru aG.z X E A [] .u Mj Tryz.f54 [(30,⟨_,fJ⟩),(102,⟨_,wK⟩),(100,⟨_,Nq⟩)] (Yh A fJ.pre fJ.fn wK.pre wK.fn Nq.pre Nq.fn):=fun _=>by kernel_rfl
theorem aql (A:Alg) (mJ:Ct A.ah tQ) (Nr:Ct A.ah Li) (Ns:Ct A.ah Lr) (Nt:Ct A.ah Me) (Nu:Ct A.ah Mj): @Ru aG.z X E A [] .u VP Tryz.f19 [(47,⟨_,mJ⟩),(51,⟨_,Nr⟩),(52,⟨_,Ns⟩),(53,⟨_,Nt⟩),(54,⟨_,Nu⟩)] (aeC A mJ.pre mJ.fn Nr.pre Nr.fn Ns.pre Ns.fn Nt.pre Nt.fn Nu.pre Nu.fn):=fun _=>by kernel_rfl
theorem alC (A:Alg) (Ym:Ct A.ah VP) (wz:Ct A.ah AB) (Nv:Ct A.ah Lg) (E8:Ct A.ah Ea) (bP:Ct A.ah fE): @Ru aG.z X E A [(7,[(0,([6],[])),(1,([25],[])),(2,([26],[])),(3,([3,27],[])),(4,([5,27],[])),(6,([3,27],[])),(7,([4,27],[])),(5,([27,28,29],[6,7])),(8,([27,31,32],[])),(9,([27,30,33],[])),(10,([27,34],[])),(11,([35],[]))])] .u abP Tryz.f4 [(19,⟨_,Ym⟩),(17,⟨_,wz⟩),(16,⟨_,Nv⟩),(15,⟨_,E8⟩),(18,⟨_,bP⟩)] (Yi A Ym.pre Ym.fn wz.pre wz.fn Nv.pre Nv.fn E8.pre E8.fn bP.pre bP.fn):=fun _=>by kernel_rfl
end Go.TX.Seat
namespace Go.TX
open Go Go.AE
theorem aft (x y:Int):aZ .lss x y=decide (x<y):=rfl
theorem afu (x y:Int):aZ .leq x y=decide (x≤y):=rfl
theorem afv (x y:Int):aZ .gtr x y=decide (y<x):=rfl
theorem afw (x y:Int):aZ .geq x y=decide (y≤x):=rfl
theorem afx (x y:Int):aZ .eql x y=decide (x=y):=rfl
theorem afy (x y:Int):aZ .neq x y= !decide (x=y):=rfl
theorem afz (k:IntKind) (x y:Int):gZ .add k x y=k.wrap (x+y):=rfl
theorem Yn (k:IntKind) (x y:Int):gZ .sub k x y=k.wrap (x-y):=rfl
theorem afA (k:IntKind) (x y:Int):gZ .mul k x y=k.wrap (x*y):=rfl
theorem afB (k:IntKind) (x y:Int):gZ .quo k x y=k.wrap (x.tdiv y):=rfl
theorem Yo (k:IntKind) (x y:Int):gZ .rem k x y=x.tmod y:=rfl
theorem w64 {x:Int} (h1: -9223372036854775808≤x) (h2:x≤9223372036854775807):IntKind.i64.wrap x=x:=IntWalk.i64_in _ (by omega)
theorem aaW (m:aj):iY .mono 0 m=m.iA:=rfl
theorem aaX (m:aj):ow .mono 1 .i64 m=m.atoms:=rfl
theorem afC (p:List aj):ow .poly 0 .mono p=p:=rfl
theorem alD (p:List Atom):ow .tab 0 .atom p=p:=rfl
theorem afD (p:List Int):ow .ints 0 .i64 p=p:=rfl
theorem aaY (m:Atom):iY .atom 0 m=m.kind:=rfl
theorem aaZ (m:Atom):iY .atom 1 m=m.k:=rfl
theorem aa0 (m:Atom):ow .atom 2 .mono m=m.x:=rfl
theorem aa1 (m:Atom):ow .atom 3 .mono m=m.y:=rfl
theorem alE (n:Int):iY .i64 0 n=n:=rfl
theorem aqm (n:Int):iY .u8 0 n=n:=rfl
theorem aa2 (x):Co.mk .mono x=⟨x.1,x.2.1⟩:=rfl
theorem aa3 (x):Co.mk .poly x=x.1:=rfl
theorem afE (x):Co.mk .tab x=x.1:=rfl
theorem aa4 (x):Co.mk .ints x=x.1:=rfl
theorem I7 (x):Co.mk .i64 x=x.1:=rfl
theorem aa5 (x):Co.mk .atom x=⟨x.1,x.2.1,x.2.2.1,x.2.2.2.1⟩:=rfl
theorem ay {α ρ:Type} {f:α→(α ⊕ ρ→Prop)→Prop} {x:α} {Q:ρ→Prop} (I:α→Prop) (μ:α→Nat) (h0:I x) (hs:∀y,I y→f y (Br (fun z _=>I z∧μ z<μ y) Q)):R3 f x Q:=⟨I,μ,h0,hs⟩
theorem Yp {α ρ:Type} (k:α→(ρ→Prop)→Prop) (Q:ρ→Prop) (x:α):Br k Q (.inl x)=k x Q:=rfl
theorem Yq {α ρ:Type} (k:α→(ρ→Prop)→Prop) (Q:ρ→Prop) (r:ρ):Br k Q (.inr r)=Q r:=rfl
theorem getD_lt {α:Type} {xs:List α} {d:α} {i:Nat} (h:i<xs.length):xs.getD i d=xs[i]:=by simp [List.getD,h]
theorem kG {α:Type} {xs:List α} {d:α} {i:Int} (h0:0≤i) (h:i<xs.length):xs.getD i.toNat d∈xs:=by
 rw [getD_lt (by omega)];exact List.getElem_mem _
theorem RR:(∀(x y:Int),aZ BinOp.lss x y=decide (x<y))∧(∀(x y:Int),aZ BinOp.leq x y=decide (x≤y))∧(∀(x y:Int),aZ BinOp.gtr x y=decide (y<x))∧(∀(x y:Int),aZ BinOp.geq x y=decide (y≤x))∧(∀(x y:Int),aZ BinOp.eql x y=decide (x=y))∧(∀(x y:Int),aZ BinOp.neq x y= !decide (x=y))∧(∀(k:IntKind) (x y:Int),gZ BinOp.add k x y=k.wrap (x+y))∧(∀(k:IntKind) (x y:Int),gZ BinOp.sub k x y=k.wrap (x-y))∧(∀(k:IntKind) (x y:Int),gZ BinOp.mul k x y=k.wrap (x*y))∧(∀(k:IntKind) (x y:Int),gZ BinOp.quo k x y=k.wrap (x.tdiv y))∧(∀(k:IntKind) (x y:Int),gZ BinOp.rem k x y=x.tmod y)∧(∀ {x:Int}, -9223372036854775808≤x→x≤9223372036854775807→IntKind.i64.wrap x=x)∧(∀(m:aj),iY Co.mono 0 m=m.iA)∧(∀(m:aj),ow Co.mono 1 Co.i64 m=m.atoms)∧(∀(p:List aj),ow Co.poly 0 Co.mono p=p)∧(∀(p:List Atom),ow Co.tab 0 Co.atom p=p)∧(∀(p:List Int),ow Co.ints 0 Co.i64 p=p)∧(∀(m:Atom),iY Co.atom 0 m=m.kind)∧(∀(m:Atom),iY Co.atom 1 m=m.k)∧(∀(m:Atom),ow Co.atom 2 Co.mono m=m.x)∧(∀(m:Atom),ow Co.atom 3 Co.mono m=m.y)∧(∀(n:Int),iY Co.i64 0 n=n)∧(∀(n:Int),iY Co.u8 0 n=n)∧(∀(x:gP Co.mono.vL),Co.mono.mk x=aj.mk x.fst x.snd.fst)∧(∀(x:gP Co.poly.vL),Co.poly.mk x=x.fst)∧(∀(x:gP Co.tab.vL),Co.tab.mk x=x.fst)∧(∀(x:gP Co.ints.vL),Co.ints.mk x=x.fst)∧(∀(x:gP Co.i64.vL),Co.i64.mk x=x.fst)∧(∀(x:gP Co.atom.vL),Co.atom.mk x=Atom.mk x.fst x.snd.fst x.snd.snd.fst x.snd.snd.snd.fst)∧(∀ {α ρ:Type} (k:α→(ρ→Prop)→Prop) (Q:ρ→Prop) (x:α),Br k Q (Sum.inl x)=k x Q)∧(∀ {α ρ:Type} (k:α→(ρ→Prop)→Prop) (Q:ρ→Prop) (r:ρ),Br k Q (Sum.inr r)=Q r)∧(∀(c f:Bool),(bif c then true else f)=(c || f))∧(∀(c t:Bool),(bif c then t else false)=(c&&t))∧(∀(c f:Bool),(bif c then false else f)=(!c&&f))∧(∀(c t:Bool),(bif c then t else true)=(!c || t))∧(∀(a b:Bool),((a || b)=true)=(a=true∨b=true))∧(∀ {x y:Bool},(x || y)=false↔x=false∧y=false)∧(∀(a b:Bool),((a&&b)=true)=(a=true∧b=true))∧(∀ {p:Prop} [inst:Decidable p],(decide p=true)=p)∧(∀ {p:Prop} {x:Decidable p},decide p=false↔¬p)∧(∀(b:Bool),((!b)=true)=(b=false))∧(∀(b:Bool),((!b)=false)=(b=true))∧(∀(b:Bool),(!!b)=b)∧(∀(p:Prop),(True∧p)=p)∧(∀(p:Prop),(p∧True)=p)∧(∀ {α:Type} [inst:LE α] {x y:α},x≥y↔y≤x)∧(¬True)=False∧(¬False)=True∧(false=true)=False∧(true=false)=False∧(∀(p:Prop),(False→p)=True)∧(∀(p:Prop),(True→p)=p)∧(∀(α:Prop),(α→True)=True)∧(∀(α:Type),(∀(a:α),True)=True)∧(∀(p:Prop),(False∨p)=p)∧(∀(p:Prop),(p∨False)=p)∧(∀(p:Prop),(True∨p)=True)∧(∀(p:Prop),(p∨True)=True)∧(∀ {α:Type} {x:Decidable True} (t e:α),(if True then t else e)=t)∧∀ {α:Type} {x:Decidable False} (t e:α),(if False then t else e)=e:=And.intro (@aft)<| And.intro (@afu)<| And.intro (@afv)<| And.intro (@afw)<| And.intro (@afx)<| And.intro (@afy)<| And.intro (@afz)<| And.intro (@Yn)<| And.intro (@afA)<| And.intro (@afB)<| And.intro (@Yo)<| And.intro (@w64)<| And.intro (@aaW)<| And.intro (@aaX)<| And.intro (@afC)<| And.intro (@alD)<| And.intro (@afD)<| And.intro (@aaY)<| And.intro (@aaZ)<| And.intro (@aa0)<| And.intro (@aa1)<| And.intro (@alE)<| And.intro (@aqm)<| And.intro (@aa2)<| And.intro (@aa3)<| And.intro (@afE)<| And.intro (@aa4)<| And.intro (@I7)<| And.intro (@aa5)<| And.intro (@Yp)<| And.intro (@Yq)<| And.intro (@Bool.cond_true_left)<| And.intro (@Bool.cond_false_right)<| And.intro (@Bool.cond_false_left)<| And.intro (@Bool.cond_true_right)<| And.intro (@Bool.or_eq_true)<| And.intro (@Bool.or_eq_false_iff)<| And.intro (@Bool.and_eq_true)<| And.intro (@decide_eq_true_eq)<| And.intro (@decide_eq_false_iff_not)<| And.intro (@Bool.not_eq_true')<| And.intro (@Bool.not_eq_false')<| And.intro (@Bool.not_not)<| And.intro (@true_and)<| And.intro (@and_true)<| And.intro (@ge_iff_le.{0})<| And.intro (@not_true_eq_false)<| And.intro (@not_false_eq_true)<| And.intro (@Bool.false_eq_true)<| And.intro (@Bool.true_eq_false)<| And.intro (@false_implies)<| And.intro (@true_implies)<| And.intro (@implies_true.{0})<| And.intro (@implies_true.{1})<| And.intro (@false_or)<| And.intro (@or_false)<| And.intro (@true_or)<| And.intro (@or_true)<| And.intro (@if_true.{1})<| @if_false.{1}
end Go.TX
namespace Go.TX.F
open Go Go.AE Go.TX
def inB (a lo hi:Int):Bool:=decide (lo≤a)&&decide (a≤hi)
theorem ab0 (a b c:Int):V3 (std 0) (a,b,c,()) (fun y=>y=(inB a b c,())):=by
 dsimp only [V3,Alg.cl,Alg.cg,Alg.rb,Alg.bd,Alg.l1,Tup.q,Tup.o]
 simp (disch:=omega) only [RR]
 rfl
theorem ab1 {p:Int×Int×Int×Unit→Bool} {f:Int×Int×Int×Unit→Bool×Unit} (hp:∀a b c,p (a,b,c,())=true) (hf:∀a b c,f (a,b,c,())=(inB a b c,())) (a:Int):Wx (std 0) p f (a,()) (fun y=>y=(inB a 0 65535,())):=by
 dsimp only [Wx,Alg.cl,Alg.cg,Alg.rb,Alg.bd,Alg.l1,Tup.q,Tup.o]
 simp (disch:=omega) only [RR,hp,hf]
theorem ab2 {p:Int×Int×Int×Unit→Bool} {f:Int×Int×Int×Unit→Bool×Unit} (hp:∀a b c,p (a,b,c,())=true) (hf:∀a b c,f (a,b,c,())=(inB a b c,())) (a:Int):WJ (std 0) p f (a,()) (fun y=>y=(inB a 1 5,())):=by
 dsimp only [WJ,Alg.cl,Alg.cg,Alg.rb,Alg.bd,Alg.l1,Tup.q,Tup.o]
 simp (disch:=omega) only [RR,hp,hf]
theorem ab3 {p:Int×Int×Int×Unit→Bool} {f:Int×Int×Int×Unit→Bool×Unit} (hp:∀a b c,p (a,b,c,())=true) (hf:∀a b c,f (a,b,c,())=(inB a b c,())) (a:Int):WI (std 0) p f (a,()) (fun y=>y=(inB a 0 3,())):=by
 dsimp only [WI,Alg.cl,Alg.cg,Alg.rb,Alg.bd,Alg.l1,Tup.q,Tup.o]
 simp (disch:=omega) only [RR,hp,hf]
theorem alF (a:Int):aef (std 0) (a,()) (fun y=>y=(false,())):=by
 dsimp only [aef,Alg.cl,Alg.cg,Alg.rb,Alg.bd,Alg.l1,Tup.q,Tup.o]
 simp (disch:=omega) only [RR]
 simp
def mO (a b:Int):Int:=if a<b then-1 else if b<a then 1 else 0
theorem aqn {p:Int×Unit→Bool} {f:Int×Unit→Bool×Unit} (hp:∀a,p (a,())=true) (hf:∀a,f (a,())=(false,())) (a b:Int):aeg (std 0) p f (a,b,()) (fun y=>y=(mO a b,())):=by
 dsimp only [aeg,Alg.cl,Alg.cg,Alg.rb,Alg.bd,Alg.l1,Tup.q,Tup.o]
 simp (disch:=omega) only [RR,hp,hf]
 unfold mO
 refine⟨fun h=>by simp [h],fun h=>⟨fun h2=>by simp [h,h2],fun h2=>by simp [h,h2]⟩⟩
theorem aqo {p:Int×Unit→Bool} {f:Int×Unit→Bool×Unit} (hp:∀a,p (a,())=true) (hf:∀a,f (a,())=(false,())) (a b:Int):aek (std 0) p f (a,b,()) (fun y=>y=(decide (a<b),())):=by
 dsimp only [aek,Alg.cl,Alg.cg,Alg.rb,Alg.bd,Alg.l1,Tup.q,Tup.o]
 simp (disch:=omega) only [RR,hp,hf]
 simp
def or2 (a b:Int):Int:=if a≠0 then a else b
theorem alG (a b:Int):aeh (std 0) ([a,b],()) (fun y=>y=(or2 a b,())):=by
 dsimp only [aeh,Alg.cl,Alg.cg,Alg.rb,Alg.bd,Alg.l1,Tup.q,Tup.o]
 refine ay (fun(y:Int×List Int×Int×Int×Unit)=>y.1=0∧y.2.1=[a,b]∧y.2.2.1=2∧0≤y.2.2.2.1∧y.2.2.2.1≤2∧(0<y.2.2.2.1→a=0)∧(1<y.2.2.2.1→b=0)) (fun y=>(2-y.2.2.2.1).toNat) ⟨rfl,rfl,rfl,by simp,by simp,fun h=>absurd h (by simp),fun h=>absurd h (by simp)⟩ ?_
 rintro⟨(z:Int),(l:List Int),(n:Int),(i:Int),⟨⟩⟩ hI
 dsimp only at hI ⊢
 obtain⟨rfl,rfl,rfl,h1,h2,h3,h4⟩:=hI
 simp (disch:=omega) only [RR]
 have hi:i=0∨i=1∨i=2:=by omega
 rcases hi with rfl | rfl | rfl
 ·by_cases ha:a=0<;>simp [or2,ha]<;>(try omega)
 ·have:=h3 (by omega)
  by_cases hb:b=0<;>simp [or2,this,hb]<;>(try omega)
 ·have:=h3 (by omega)
  have:=h4 (by omega)
  simp [or2, *]
def jV:List Int→List Int→Int
 | [],[]=>0
 | [],_::_=> -1
 | _::_,[]=>1
 | a::az,b::bs=>if mO a b≠0 then mO a b else jV az bs
theorem GU (a b:List Int) (i:Nat):(h1:i<a.length)→(h2:i<b.length)→jV (a.drop i) (b.drop i)=if mO a[i] b[i]≠0 then mO a[i] b[i]else jV (a.drop (i+1)) (b.drop (i+1)):=by
 intro h1 h2
 rw [List.drop_eq_getElem_cons h1,List.drop_eq_getElem_cons h2];rfl
theorem Yr (l:List Int) (h:l≠ []):jV l []=1:=by cases l<;>simp_all [jV]
theorem alH {p:Int×Int×Unit→Bool} {f:Int×Int×Unit→Int×Unit} (hp:∀a b,p (a,b,())=true) (hf:∀a b,f (a,b,())=(mO a b,())) (a b:List Int) (ha:a.length<1000000000):
  VY (std 0) p f (a,b,()) (fun y=>y=(jV a b,())):=by
 dsimp only [VY,Alg.cl,Alg.cg,Alg.rb,Alg.bd,Alg.l1,Tup.q,Tup.o]
 refine ay (fun(y:List Int×List Int×List Int×Int×Int×Unit)=>y.1=a∧y.2.1=b∧y.2.2.1=a∧y.2.2.2.1=a.length∧0≤y.2.2.2.2.1∧y.2.2.2.2.1≤a.length∧y.2.2.2.2.1≤b.length∧jV a b=jV (a.drop y.2.2.2.2.1.toNat) (b.drop y.2.2.2.2.1.toNat))
  (fun y=>(a.length-y.2.2.2.2.1).toNat) ⟨rfl,rfl,rfl,rfl,by simp,by simp,by simp,by simp⟩ ?_
 rintro⟨(l1:List Int),(l2:List Int),(l3:List Int),(n:Int),(i:Int),⟨⟩⟩ hI
 dsimp only at hI ⊢
 obtain⟨rfl,rfl,rfl,rfl,h1,h2,h3,h4⟩:=hI
 simp (disch:=omega) only [RR,hp,hf]
 refine⟨fun hi=>⟨h1,hi,fun hj=> ?_,fun hj=>⟨h1,by omega,fun hc=> ?_,fun hc=> ?_⟩⟩,fun hi=>⟨fun hj=> ?_,fun hj=> ?_⟩⟩
 ·rw [h4,List.drop_eq_nil_of_le (show l2.length≤i.toNat by omega),Yr _ (by simp;omega)]
 ·rw [h4,GU l3 l2 i.toNat (by omega) (by omega)]
  rw [getD_lt (by omega),getD_lt (by omega)]at hc
  rw [getD_lt (by omega),getD_lt (by omega),if_pos hc]
 ·rw [getD_lt (by omega),getD_lt (by omega)]at hc
  refine⟨⟨by omega,by omega,by omega,?_⟩,by omega⟩
  rw [h4,GU l3 l2 i.toNat (by omega) (by omega),if_neg (by simpa using hc),show(i+1).toNat=i.toNat+1 by omega]
 ·rw [h4,List.drop_eq_nil_of_le (show l3.length≤i.toNat by omega)]
  have:∃q r,l2.drop i.toNat=q::r:=by
   cases hq:l2.drop i.toNat with
   | nil=>have:=congrArg List.length hq;simp at this;omega
   | cons q r=>exact⟨q,r,rfl⟩
  obtain⟨q,r,hq⟩:=this
  rw [hq];rfl
 ·rw [h4,List.drop_eq_nil_of_le (show l3.length≤i.toNat by omega),List.drop_eq_nil_of_le (show l2.length≤i.toNat by omega)];rfl
def gG (a b:List Int):Int:=or2 (mO a.length b.length) (jV a b)
theorem alI {p1:Int×Int×Unit→Bool} {f1:Int×Int×Unit→Int×Unit} (hp1:∀a b,p1 (a,b,())=true) (hf1:∀a b,f1 (a,b,())=(mO a b,()))
  {p2:List Int×List Int×Unit→Bool} {f2:List Int×List Int×Unit→Int×Unit} (hp2:∀a b,a.length<1000000000→p2 (a,b,())=true) (hf2:∀a b,a.length<1000000000→f2 (a,b,())=(jV a b,()))
  {p3:List Int×Unit→Bool} {f3:List Int×Unit→Int×Unit} (hp3:∀a b,p3 ([a,b],())=true) (hf3:∀a b,f3 ([a,b],())=(or2 a b,())) (a b:List Int) (ha:a.length<1000000000):
  VZ (std 0) p3 f3 p1 f1 p2 f2 (a,b,()) (fun y=>y=(gG a b,())):=by
 dsimp only [VZ,Alg.cl,Alg.cg,Alg.rb,Alg.bd,Alg.l1,Tup.q,Tup.o]
 simp (disch:=omega) only [RR,hp1,hf1,hp2 a b ha,hf2 a b ha,hp3,hf3]
 rfl
end Go.TX.F
namespace Go.TX.F
open Go Go.AE Go.TX
noncomputable def bp (P:Prop):Bool:= @decide P (Classical.propDecidable P)
theorem dB {P:Prop} (h:P):bp P=true:=by simp [bp,h]
theorem gH {P:Prop} (h:¬P):bp P=false:=by simp [bp,h]
theorem bK {P:Prop}:bp P=true↔P:=by simp [bp]
theorem tZ {P:Prop}:bp P=false↔¬P:=by simp [bp]
theorem uf {P Q:Prop}:bp (P∧Q)=(bp P&&bp Q):=by by_cases h1:P<;>by_cases h2:Q<;>simp [bp,h1,h2]
theorem ug {P Q:Prop} (h:P↔Q):bp P=bp Q:=by simp [bp,h]
def All (n:Int) (G:Int→Prop):Prop:=∀j,0≤j→j<n→G j
theorem All.zero {G:Int→Prop}:All 0 G:=fun j h1 h2=>absurd h2 (by omega)
theorem All.snoc {n:Int} {G:Int→Prop} (h:All n G) (hi:G n):All (n+1) G:=fun j h1 h2=>by
 by_cases hj:j=n
 ·exact hj▸hi
 ·exact h j h1 (by omega)
theorem All.le {n m:Int} {G:Int→Prop} (h:All n G) (hi:m≤n):All m G:=fun j h1 h2=>h j h1 (by omega)
def Idx (n:Int) (G:Int→Prop) (r:Int):Prop:=(r= -1∧All n (fun j=>¬G j))∨(0≤r∧r<n∧G r∧All r (fun j=>¬G j))
theorem Idx.ge {n:Int} {G:Int→Prop} {r:Int} (h:Idx n G r):(0≤r)↔¬All n (fun j=>¬G j):=by
 rcases h with⟨rfl,h⟩ | ⟨h1,h2,h3,h4⟩
 ·simp [h]
 ·simp only [h1,true_iff];exact fun h=>h r h1 h2 h3
def Srt (l:List Int):Prop:=All (l.length-1) (fun i=>l.getD i.toNat default≤l.getD (i+1).toNat default)
theorem alJ {p:Int×Int×Unit→Bool} {f:Int×Int×Unit→Bool×Unit} (hp:∀a b,p (a,b,())=true) (hf:∀a b,f (a,b,())=(decide (a<b),())) (a:List Int) (ha:a.length<1000000000):
  V4 (std 0) p f (a,()) (fun y=>y=(bp (Srt a),())):=by
 dsimp only [V4,Alg.cl,Alg.cg,Alg.rb,Alg.bd,Alg.l1,Tup.q,Tup.o]
 simp (disch:=omega) only [RR,hp,hf]
 refine ay (fun(y:List Int×Int×Unit)=>y.1=a∧ -1≤y.2.1∧y.2.1≤a.length-1∧∀j,y.2.1≤j→0≤j→j< (a.length:Int)-1→a.getD j.toNat default≤a.getD (j+1).toNat default) (fun y=>(y.2.1+1).toNat) ⟨rfl,by simp;omega,by simp,by simp;omega⟩ ?_
 rintro⟨(l:List Int),(i:Int),⟨⟩⟩ hI
 dsimp only at hI ⊢
 obtain⟨rfl,h1,h2,h3⟩:=hI
 simp (disch:=omega) only [RR,hp,hf]
 refine⟨fun h4=>⟨by omega,by omega,by omega,by omega,fun h5=> ?_,fun h5=>⟨⟨by omega,by omega,fun j h6 h7 h8=> ?_⟩,by omega⟩⟩,fun h4=> ?_⟩
 ·rw [gH]
  intro h;have:=h (i-1) (by omega) (by omega)
  dsimp only at this
  rw [show i-1+1=i by omega]at this;omega
 ·by_cases hj:j=i-1
  ·subst hj;rw [show i-1+1=i by omega];omega
  ·exact h3 j (by omega) h7 h8
 ·rw [dB]
  exact fun j h6 h7=>h3 j (by omega) h6 h7
theorem ab4 (a n:Int):V7 (std 0) (a,n,()) (fun y=>y=(decide (n≤a),n,())):=by
 dsimp only [V7,Alg.cl,Alg.cg,Alg.rb,Alg.bd,Alg.l1,Tup.q,Tup.o]
 simp (disch:=omega) only [RR]
theorem alK {p:Int×Int×Unit→Bool} {f:Int×Int×Unit→Bool×Int×Unit} (hp:∀a b,p (a,b,())=true) (hf:∀a b,f (a,b,())=(decide (b≤a),b,())) (a:List Int) (n:Int) (ha:a.length<1000000000):
  V8 (std 0) p f (a,n,()) (fun y=>Idx a.length (fun i=>n≤a.getD i.toNat default) y.1∧y.2.1=n):=by
 dsimp only [V8,Alg.cl,Alg.cg,Alg.rb,Alg.bd,Alg.l1,Tup.q,Tup.o]
 refine ay (fun(y:List Int×Int×Int×Int×Unit)=>y.1=a∧y.2.1=a.length∧y.2.2.2.1=n∧0≤y.2.2.1∧y.2.2.1≤a.length∧All y.2.2.1 (fun i=>¬n≤a.getD i.toNat default)) (fun y=>(a.length-y.2.2.1).toNat) ⟨rfl,rfl,rfl,by simp,by simp,All.zero⟩ ?_
 rintro⟨(l:List Int),(m:Int),(i:Int),(n':Int),⟨⟩⟩ hI
 dsimp only at hI ⊢
 obtain⟨rfl,rfl,rfl,h1,h2,h3⟩:=hI
 simp (disch:=omega) only [RR,hp,hf]
 refine⟨fun h4=>⟨by omega,by omega,fun h5=> ?_,fun h5=>⟨⟨by omega,by omega,h3.snoc h5⟩,by omega⟩⟩,fun h4=> ?_⟩
 ·exact Or.inr ⟨by omega,by omega,h5,h3⟩
 ·exact Or.inl ⟨rfl,h3.le (by omega)⟩
theorem alL {p:List Int×Int×Unit→Bool} {f:List Int×Int×Unit→Int×Int×Unit} (hp:∀a b,a.length<1000000000→p (a,b,())=true)
  (hf:∀a n,a.length<1000000000→Idx a.length (fun i=>n≤a.getD i.toNat default) (f (a,n,())).1∧(f (a,n,())).2.1=n) (a:List Int) (n:Int) (ha:a.length<1000000000):
  V9 (std 0) p f (a,n,()) (fun y=>y=(bp (¬All a.length (fun i=>¬n≤a.getD i.toNat default)),n,())):=by
 obtain⟨h1,h2⟩:=hf a n ha
 dsimp only [V9,Alg.cl,Alg.cg,Alg.rb,Alg.bd,Alg.l1,Tup.q,Tup.o]
 simp (disch:=omega) only [RR,hp a n ha,h2]
 rw [show decide ((0:Int)≤(f (a,n,())).1)=bp (¬All a.length (fun i=>¬n≤a.getD i.toNat default))from ?_]
 rw [←ug h1.ge];simp [bp]
def QB (n:Int) (m:aj):Prop:=All m.atoms.length (fun i=>¬n≤m.atoms.getD i.toNat default)
def bf (p:List aj) (n:Int):Prop:=All p.length (fun i=>QB n (p.getD i.toNat default))
def Sh (p:List aj):Prop:=p.length<1000000000∧∀m∈p,m.atoms.length<1000000000
theorem Sh.at {p:List aj} (h:Sh p) (n:Nat):(p.getD n default).atoms.length<1000000000:=by
 by_cases h1:n<p.length
 ·rw [getD_lt h1];exact h.2 _ (List.getElem_mem _)
 ·simp only [List.getD,List.getElem?_eq_none (by omega:p.length≤n)];decide
theorem alM {p:List Int×Int×Unit→Bool} {f:List Int×Int×Unit→Bool×Int×Unit} (hp:∀a b,a.length<1000000000→p (a,b,())=true)
  (hf:∀a n,a.length<1000000000→f (a,n,())=(bp (¬All a.length (fun i=>¬n≤a.getD i.toNat default)),n,())) (a:List aj) (n:Int) (ha:Sh a):
  Wd (std 0) p f (a,n,()) (fun y=>y=(bp (bf a n),())):=by
 have hlen:=ha.1
 dsimp only [Wd,Alg.cl,Alg.cg,Alg.rb,Alg.bd,Alg.l1,Tup.q,Tup.o]
 refine ay (fun(y:List aj×Int×Int×Int×Unit)=>y.1=a∧y.2.1=a.length∧y.2.2.2.1=n∧0≤y.2.2.1∧y.2.2.1≤a.length∧All y.2.2.1 (fun i=>QB n (a.getD i.toNat default))) (fun y=>(a.length-y.2.2.1).toNat) ⟨rfl,rfl,rfl,by simp,by simp,All.zero⟩ ?_
 rintro⟨(l:List aj),(m:Int),(i:Int),(n':Int),⟨⟩⟩ hI
 dsimp only at hI ⊢
 obtain⟨rfl,rfl,rfl,h1,h2,h3⟩:=hI
 simp (disch:=omega) only [RR]
 refine⟨fun h4=> ?_,fun h4=> ?_⟩
 ·have h5:=ha.at i.toNat
  rw [hp _ _ h5,hf _ _ h5]
  refine⟨by omega,by omega,rfl,fun h6=> ?_,fun h6=>⟨⟨rfl,by omega,by omega,h3.snoc ?_⟩,by omega⟩⟩
  ·rw [gH (fun h=> ?_)]
   exact bK.1 h6 (h i h1 h4)
  ·exact Classical.byContradiction (fun h=>tZ.1 h6 h)
 ·rw [dB (show bf l n' from h3.le (by omega))]
theorem ab5 (m:aj):Wh (std 0) (m,()) (fun y=>y=(bp (0<m.atoms.length∧m.atoms.getD 0 default<0),())):=by
 dsimp only [Wh,Alg.cl,Alg.cg,Alg.rb,Alg.bd,Alg.l1,Tup.q,Tup.o]
 simp (disch:=omega) only [RR]
 refine⟨by omega,by omega,?_⟩
 rw [uf]
 by_cases h1:0<m.atoms.length
 ·by_cases h2:m.atoms.getD 0 default<0
  ·rw [dB h1,dB h2,show Int.toNat 0=0 from rfl,decide_eq_true h2,decide_eq_true (by omega)]
  ·rw [dB h1,gH h2,show Int.toNat 0=0 from rfl,decide_eq_false h2,Bool.and_false,Bool.and_false]
 ·rw [gH h1,decide_eq_false (by omega),Bool.false_and,Bool.false_and]
theorem alN {p:aj×Unit→Bool} {f:aj×Unit→Bool×Unit} (G:aj→Prop) (hp:∀a,p (a,())=true) (hf:∀a,f (a,())=(bp (G a),())) (a:List aj) (ha:a.length<1000000000):
  Wi (std 0) p f (a,()) (fun y=>Idx a.length (fun i=>G (a.getD i.toNat default)) y.1):=by
 dsimp only [Wi,Alg.cl,Alg.cg,Alg.rb,Alg.bd,Alg.l1,Tup.q,Tup.o]
 refine ay (fun(y:List aj×Int×Int×Unit)=>y.1=a∧y.2.1=a.length∧0≤y.2.2.1∧y.2.2.1≤a.length∧All y.2.2.1 (fun i=>¬G (a.getD i.toNat default))) (fun y=>(a.length-y.2.2.1).toNat) ⟨rfl,rfl,by simp,by simp,All.zero⟩ ?_
 rintro⟨(l:List aj),(m:Int),(i:Int),⟨⟩⟩ hI
 dsimp only at hI ⊢
 obtain⟨rfl,rfl,h1,h2,h3⟩:=hI
 simp (disch:=omega) only [RR,hp,hf]
 refine⟨fun h4=>⟨by omega,by omega,fun h5=> ?_,fun h5=>⟨⟨by omega,by omega,h3.snoc (tZ.1 h5)⟩,by omega⟩⟩,fun h4=> ?_⟩
 ·exact Or.inr ⟨by omega,by omega,bK.1 h5,h3⟩
 ·exact Or.inl ⟨rfl,h3.le (by omega)⟩
theorem alO {p:List aj×Unit→Bool} {f:List aj×Unit→Int×Unit} (G:aj→Prop) (hp:∀a,a.length<1000000000→p (a,())=true)
  (hf:∀a,a.length<1000000000→Idx a.length (fun i=>G (a.getD i.toNat default)) (f (a,())).1) (a:List aj) (ha:a.length<1000000000):
  Wj (std 0) p f (a,()) (fun y=>y=(bp (¬All a.length (fun i=>¬G (a.getD i.toNat default))),())):=by
 have h1:=hf a ha
 dsimp only [Wj,Alg.cl,Alg.cg,Alg.rb,Alg.bd,Alg.l1,Tup.q,Tup.o]
 simp (disch:=omega) only [RR,hp a ha]
 rw [show decide ((0:Int)≤(f (a,())).1)=bp (¬All a.length (fun i=>¬G (a.getD i.toNat default)))from ?_]
 rw [←ug h1.ge];simp [bp]
def mOk (m:aj):Prop:=(1≤m.iA∧m.iA≤65535)∧m.atoms.length≤4∧Srt m.atoms
def aT (p:List aj):Prop:=All p.length (fun i=>mOk (p.getD i.toNat default)∧(0<i→gG (p.getD (i-1).toNat default).atoms (p.getD i.toNat default).atoms<0))∧p.length≤12∧bf p 200
 ∧All p.length (fun i=>¬(0< (p.getD i.toNat default).atoms.length∧(p.getD i.toNat default).atoms.getD 0 default<0))
theorem alP {p1:Int×Int×Int×Unit→Bool} {f1:Int×Int×Int×Unit→Bool×Unit} (hp1:∀a b c,p1 (a,b,c,())=true) (hf1:∀a b c,f1 (a,b,c,())=(inB a b c,()))
  {p2:List aj×Int×Unit→Bool} {f2:List aj×Int×Unit→Bool×Unit} (hp2:∀a n,Sh a→p2 (a,n,())=true) (hf2:∀a n,Sh a→f2 (a,n,())=(bp (bf a n),()))
  {p3:List Int×Unit→Bool} {f3:List Int×Unit→Bool×Unit} (hp3:∀a,a.length<1000000000→p3 (a,())=true) (hf3:∀a,a.length<1000000000→f3 (a,())=(bp (Srt a),()))
  {p4:List Int×List Int×Unit→Bool} {f4:List Int×List Int×Unit→Int×Unit} (hp4:∀a b,a.length<1000000000→p4 (a,b,())=true) (hf4:∀a b,a.length<1000000000→f4 (a,b,())=(gG a b,()))
  {p5:List aj×Unit→Bool} {f5:List aj×Unit→Bool×Unit} (hp5:∀a,a.length<1000000000→p5 (a,())=true) (hf5:∀a,a.length<1000000000→f5 (a,())=(bp (¬All a.length (fun i=>¬(0< (a.getD i.toNat default).atoms.length∧(a.getD i.toNat default).atoms.getD 0 default<0))),()))
  (a:List aj) (ha:Sh a):Wm (std 0) p1 f1 p2 f2 p3 f3 p4 f4 p5 f5 (a,()) (fun y=>y=(bp (aT a),())):=by
 have hlen:=ha.1
 dsimp only [Wm,Alg.cl,Alg.cg,Alg.rb,Alg.bd,Alg.l1,Tup.q,Tup.o]
 refine ay (fun(y:List aj×Int×Int×List aj×Unit)=>y.1=a∧y.2.1=a.length∧y.2.2.2.1=a∧0≤y.2.2.1∧y.2.2.1≤a.length∧All y.2.2.1 (fun i=>mOk (a.getD i.toNat default)∧(0<i→gG (a.getD (i-1).toNat default).atoms (a.getD i.toNat default).atoms<0))) (fun y=>(a.length-y.2.2.1).toNat) ⟨rfl,rfl,rfl,by simp,by simp,All.zero⟩ ?_
 rintro⟨(l:List aj),(m:Int),(i:Int),(l':List aj),⟨⟩⟩ hI
 dsimp only at hI ⊢
 obtain⟨rfl,rfl,rfl,h1,h2,h3⟩:=hI
 simp (disch:=omega) only [RR,hp1,hf1,hp2 l' _ ha,hf2 l' _ ha,hp5 l' hlen,hf5 l' hlen]
 refine⟨fun h4=> ?_,fun h4=> ?_⟩
 ·simp (disch:=omega) only [RR,hp3 _ (ha.at _),hf3 _ (ha.at _),hp4 _ _ (ha.at _),hf4 _ _ (ha.at _),bK,tZ,inB]
  refine⟨by omega,by omega,by by_cases h:i≤0<;>simp [h]<;>omega,by omega,fun h5=> ?_,fun h5=>⟨⟨by omega,by omega,h3.snoc ?_⟩,by omega⟩⟩
  ·rw [gH (fun h=> ?_)]
   have:=h.1 i h1 h4
   dsimp only [mOk]at this
   obtain⟨⟨h6,h7,h8⟩,h9⟩:=this
   rcases h5 with((h5 | h5) | h5) | ⟨h5,h10⟩
   ·simp [-List.getD_eq_getElem?_getD]at h5;omega
   ·omega
   ·exact h5 h8
   ·have:=h9 h5;omega
  ·refine⟨⟨by omega,by omega,h5.1.2⟩,fun h6=> ?_⟩
   have:=h5.2;simp only [decide_eq_true h6,Bool.true_and,decide_eq_false_iff_not]at this;omega
 ·unfold aT
  rw [show All (↑l'.length) (fun i=>mOk (l'.getD i.toNat default)∧(0<i→gG (l'.getD (i-1).toNat default).atoms (l'.getD i.toNat default).atoms<0))=True from eq_true (h3.le (by omega))]
  rw [true_and,uf,uf,Bool.and_assoc]
  refine congrArg (fun b=>(b,())) ?_
  congr 1
  ·by_cases h:l'.length≤12<;>simp [bp,h]<;>omega
  ·congr 1
   simp [bp]
def Nw (a b:aj):Int:=or2 (gG a.atoms b.atoms) (mO a.iA b.iA)
def E9:List aj→List aj→Int
 | a::az,b::bs=>if Nw a b≠0 then Nw a b else E9 az bs
 | _,_=>0
def iO (a b:List aj):Int:=if mO a.length b.length≠0 then mO a.length b.length else E9 a b
theorem GV (a b:List aj) (i:Nat):(h1:i<a.length)→(h2:i<b.length)→E9 (a.drop i) (b.drop i)=if Nw a[i] b[i]≠0 then Nw a[i] b[i]else E9 (a.drop (i+1)) (b.drop (i+1)):=by
 intro h1 h2
 rw [List.drop_eq_getElem_cons h1,List.drop_eq_getElem_cons h2];rfl
theorem alQ {p1:List Int×Unit→Bool} {f1:List Int×Unit→Int×Unit} (hp1:∀a b,p1 ([a,b],())=true) (hf1:∀a b,f1 ([a,b],())=(or2 a b,()))
  {p2:Int×Int×Unit→Bool} {f2:Int×Int×Unit→Int×Unit} (hp2:∀a b,p2 (a,b,())=true) (hf2:∀a b,f2 (a,b,())=(mO a b,()))
  {p4:List Int×List Int×Unit→Bool} {f4:List Int×List Int×Unit→Int×Unit} (hp4:∀a b,a.length<1000000000→p4 (a,b,())=true) (hf4:∀a b,a.length<1000000000→f4 (a,b,())=(gG a b,()))
  (a b:List aj) (ha:Sh a):Wo (std 0) p1 f1 p2 f2 p4 f4 (a,b,()) (fun y=>y=(iO a b,())):=by
 have hlen:=ha.1
 dsimp only [Wo,Alg.cl,Alg.cg,Alg.rb,Alg.bd,Alg.l1,Tup.q,Tup.o]
 simp (disch:=omega) only [RR,hp2,hf2]
 refine⟨fun h=>by rw [iO,if_pos h],fun h=> ?_⟩
 have hl:a.length=b.length:=by unfold mO at h;split at h<;>(try split at h)<;>omega
 rw [show iO a b=E9 a b by rw [iO,if_neg (by simp [h])]]
 refine ay (fun(y:List aj×Int×Int×List aj×Unit)=>y.1=a∧y.2.1=a.length∧y.2.2.2.1=b∧0≤y.2.2.1∧y.2.2.1≤a.length∧E9 a b=E9 (a.drop y.2.2.1.toNat) (b.drop y.2.2.1.toNat)) (fun y=>(a.length-y.2.2.1).toNat) ⟨rfl,rfl,rfl,by simp,by simp,by simp⟩ ?_
 rintro⟨(l:List aj),(m:Int),(i:Int),(l':List aj),⟨⟩⟩ hI
 dsimp only at hI ⊢
 obtain⟨rfl,rfl,rfl,h1,h2,h3⟩:=hI
 simp (disch:=omega) only [RR,hp1,hf1,hp4 _ _ (ha.at _),hf4 _ _ (ha.at _)]
 refine⟨fun h4=>⟨by omega,by omega,by omega,by omega,by omega,by omega,fun h5=> ?_,fun h5=>⟨⟨by omega,by omega,?_⟩,by omega⟩⟩,fun h4=> ?_⟩
 ·rw [h3,GV _ _ _ (by omega) (by omega)]
  rw [getD_lt (by omega),getD_lt (by omega)]at h5 ⊢
  exact((if_pos (c:=Nw l[i.toNat] l'[i.toNat]≠0) h5).trans rfl).symm▸rfl
 ·rw [h3,GV _ _ _ (by omega) (by omega)]
  rw [getD_lt (by omega),getD_lt (by omega)]at h5
  rw [if_neg (show¬(Nw l[i.toNat] l'[i.toNat]≠0)from fun h=>h h5),show(i+1).toNat=i.toNat+1 by omega]
 ·rw [h3,List.drop_eq_nil_of_le (by omega)];rfl
theorem alR {p1:List aj×List aj×Unit→Bool} {f1:List aj×List aj×Unit→Int×Unit} (hp1:∀a b,Sh a→p1 (a,b,())=true) (hf1:∀a b,Sh a→f1 (a,b,())=(iO a b,())) (a b:List aj) (ha:Sh a):
  Ww (std 0) p1 f1 (a,b,()) (fun y=>y=(decide (iO a b=0),())):=by
 dsimp only [Ww,Alg.cl,Alg.cg,Alg.rb,Alg.bd,Alg.l1,Tup.q,Tup.o]
 simp (disch:=omega) only [RR,hp1 a b ha,hf1 a b ha]
end Go.TX.F
namespace Go.TX.F
open Go Go.AE Go.TX
theorem QC (k:IntKind) (x y:Int):gZ .and k x y=iT .and k x y:=rfl
theorem QD (k:IntKind) (x y:Int):gZ .xor k x y=iT .xor k x y:=rfl
theorem Yt (x:Int):iT .and .i64 x 65535=x%65536:=by
 unfold iT
 dsimp only
 rw [BitVec.toNat_and,BitVec.toNat_ofInt,BitVec.toNat_ofInt]
 have h1:((65535:Int)% ((2^IntKind.i64.bits:Nat):Int)).toNat=2^16-1:=by decide
 rw [h1,Nat.and_two_pow_sub_one_eq_mod]
 rw [w64 (by omega) (by omega)]
 have h2:((2^IntKind.i64.bits:Nat):Int)=18446744073709551616:=by decide
 rw [h2]
 omega
theorem aa6 {a b:Int} (ha:0≤a) (ha':a≤65535) (hb:0≤b) (hb':b≤65535):(0≤iT .and .i64 a b∧iT .and .i64 a b≤65535)∧(0≤iT .xor .i64 a b∧iT .xor .i64 a b≤65535):=by
 have h2:((2^IntKind.i64.bits:Nat):Int)=18446744073709551616:=by decide
 have e1:iT .and .i64 a b=((a.toNat&&&b.toNat:Nat):Int):=by
  unfold iT;dsimp only
  rw [BitVec.toNat_and,BitVec.toNat_ofInt,BitVec.toNat_ofInt,h2,show a%18446744073709551616=a by omega,show b%18446744073709551616=b by omega]
  have:=Nat.and_lt_two_pow (a.toNat) (show b.toNat<2^16 by omega)
  rw [w64 (by omega) (by omega)]
 have e2:iT .xor .i64 a b=((a.toNat^^^b.toNat:Nat):Int):=by
  unfold iT;dsimp only
  rw [BitVec.toNat_xor,BitVec.toNat_ofInt,BitVec.toNat_ofInt,h2,show a%18446744073709551616=a by omega,show b%18446744073709551616=b by omega]
  have:=Nat.xor_lt_two_pow (show a.toNat<2^16 by omega) (show b.toNat<2^16 by omega)
  rw [w64 (by omega) (by omega)]
 rw [e1,e2]
 have:=Nat.and_lt_two_pow (a.toNat) (show b.toNat<2^16 by omega)
 have:=Nat.xor_lt_two_pow (show a.toNat<2^16 by omega) (show b.toNat<2^16 by omega)
 omega
theorem ab6 (a:Int):XF (std 0) (a,()) (fun y=>y=(a%65536,())):=by
 dsimp only [XF,Alg.cl,Alg.cg,Alg.rb,Alg.bd,Alg.l1,Tup.q,Tup.o]
 simp (disch:=omega) only [RR,QC,Yt]
def wdo (op a b:Int):Int:=if(0≤a∧a≤65535)∧(0≤b∧b≤65535)then
 (if op=1 then(a+b)%65536 else if op=2 then(a-b)%65536 else if op=3 then(a*b)%65536 else if op=4 then iT .and .i64 a b else if op=5 then iT .xor .i64 a b else 0)else 0
theorem SE (op a b:Int):0≤wdo op a b∧wdo op a b≤65535:=by
 unfold wdo
 split
 ·rename_i h
  have:=aa6 h.1.1 h.1.2 h.2.1 h.2.2
  repeat' split
  all_goals omega
 ·omega
theorem eX {a b c:Int}:inB a b c=true↔(b≤a∧a≤c):=by simp [inB]
theorem rz {a b c:Int}:inB a b c=false↔¬(b≤a∧a≤c):=by rw [←eX,Bool.not_eq_true]
theorem alS {p1:Int×Unit→Bool} {f1:Int×Unit→Bool×Unit} (hp1:∀a,p1 (a,())=true) (hf1:∀a,f1 (a,())=(inB a 0 65535,()))
  {p2:Int×Unit→Bool} {f2:Int×Unit→Int×Unit} (hp2:∀a,p2 (a,())=true) (hf2:∀a,f2 (a,())=(a%65536,())) (op a b:Int):
  X6 (std 0) p1 f1 p2 f2 (op,a,b,()) (fun y=>y=(wdo op a b,())):=by
 dsimp only [X6,Alg.cl,Alg.cg,Alg.rb,Alg.bd,Alg.l1,Tup.q,Tup.o]
 simp (disch:=omega) only [RR,hp1,hf1,hp2,hf2,QC,QD,eX,rz]
 by_cases ha:(0≤a∧a≤65535)∧(0≤b∧b≤65535)
 ·have hm:0≤a*b∧a*b≤65535*65535:=⟨Int.mul_nonneg ha.1.1 ha.2.1,Int.mul_le_mul ha.1.2 ha.2.2 ha.2.1 (by omega)⟩
  rw [w64 (x:=a+b) (by omega) (by omega),w64 (x:=a-b) (by omega) (by omega),w64 (x:=a*b) (by omega) (by omega)]
  unfold wdo
  rw [if_pos ha]
  refine⟨fun h=>absurd h (by omega),fun _=>⟨fun h=> ?_,fun h=>⟨fun h1=> ?_,fun h1=>⟨fun h2=> ?_,fun h2=>⟨fun h3=> ?_,fun h3=>⟨fun h4=> ?_,fun h4=> ?_⟩⟩⟩⟩⟩⟩<;>(subst_vars;first | rfl | simp only [if_true,if_false, *])
 ·refine⟨fun h=> ?_,fun h=>absurd h ?_⟩
  ·unfold wdo;rw [if_neg ha]
  ·exact ha
def aX (n:Int):List aj:=if 1≤n∧n≤65535 then [⟨n,[]⟩]else []
theorem alT {p1:Int×Int×Int×Unit→Bool} {f1:Int×Int×Int×Unit→Bool×Unit} (hp1:∀a b c,p1 (a,b,c,())=true) (hf1:∀a b c,f1 (a,b,c,())=(inB a b c,())) (a:Int):
  XE (std 0) p1 f1 (a,()) (fun y=>y=(aX a,())):=by
 dsimp only [XE,Alg.cl,Alg.cg,Alg.rb,Alg.bd,Alg.l1,Tup.q,Tup.o]
 simp (disch:=omega) only [RR,hp1,hf1,eX,rz]
 unfold aX
 exact⟨fun h=>by rw [if_neg (by omega)],fun h=>by rw [if_pos (by omega)]⟩
def gX (n:Int):List aj:=if 0≤n∧n≤199 then [⟨1,[n]⟩]else []
theorem alU {p1:Int×Int×Int×Unit→Bool} {f1:Int×Int×Int×Unit→Bool×Unit} (hp1:∀a b c,p1 (a,b,c,())=true) (hf1:∀a b c,f1 (a,b,c,())=(inB a b c,())) (a:Int):
  Xm (std 0) p1 f1 (a,()) (fun y=>y=(gX a,())):=by
 dsimp only [Xm,Alg.cl,Alg.cg,Alg.rb,Alg.bd,Alg.l1,Tup.q,Tup.o]
 simp (disch:=omega) only [RR,hp1,hf1,eX,rz]
 unfold gX
 exact⟨fun h=>by rw [if_neg (by omega)],fun h=>by rw [if_pos (by omega)]⟩
noncomputable def dV (p:List aj):Int×Bool:=if bp (aT p)then(if p.length=0 then(0,true)else if p.length=1∧(p.getD 0 default).atoms.length=0 then((p.getD 0 default).iA,true)else(0,false))else(0,false)
theorem alV {p1:List aj×Unit→Bool} {f1:List aj×Unit→Bool×Unit} (hp1:∀a,Sh a→p1 (a,())=true) (hf1:∀a,Sh a→f1 (a,())=(bp (aT a),())) (a:List aj) (ha:Sh a):
  Wn (std 0) p1 f1 (a,()) (fun y=>y=((dV a).1,(dV a).2,())):=by
 dsimp only [Wn,Alg.cl,Alg.cg,Alg.rb,Alg.bd,Alg.l1,Tup.q,Tup.o]
 simp (disch:=omega) only [RR,hp1 a ha,hf1 a ha]
 unfold dV
 refine⟨fun h=> ?_,fun h=>⟨fun h1=> ?_,fun h1=>⟨by omega,by omega,fun h2=>⟨by omega,by omega,?_⟩,fun h2=> ?_⟩⟩⟩
 ·rw [if_neg (by simpa using h)]
 ·rw [if_pos h,if_pos (by omega)]
 ·have h3:=h2.2;rw [show Int.toNat 0=0 from rfl]at h3
  rw [if_pos h,if_neg (by omega),if_pos (show a.length=1∧(a.getD 0 default).atoms.length=0 by omega)];rfl
 ·rw [if_pos h,if_neg (by omega),if_neg]
  intro h3
  rw [decide_eq_true (by omega),Bool.true_and,decide_eq_false_iff_not]at h2
  apply h2;rw [show Int.toNat 0=0 from rfl];omega
theorem ab7 (a:List Int) (ha:a.length≤1073741824):Wp (std 0) (a,()) (fun y=>y=(a,())):=by
 dsimp only [Wp,Alg.cl,Alg.cg,Alg.rb,Alg.bd,Alg.l1,Tup.q,Tup.o]
 simp (disch:=omega) only [RR]
 omega
theorem jm {α:Type} {l:List α} {i:Int} {d x:α} (h0:0≤i) (h:i<l.length) (e:x=l.getD i.toNat d):l.take i.toNat++ [x]=l.take (i+1).toNat:=by
 rw [e,getD_lt (by omega),show(i+1).toNat=i.toNat+1 by omega,List.take_succ_eq_append_getElem (by omega)]
theorem alW {p1:List Int×Unit→Bool} {f1:List Int×Unit→List Int×Unit} (hp1:∀a,a.length≤1073741824→p1 (a,())=true) (hf1:∀a,a.length≤1073741824→f1 (a,())=(a,())) (a:List aj) (ha:Sh a):
  Wq (std 0) p1 f1 (a,()) (fun y=>y=(a,())):=by
 have hlen:=ha.1
 dsimp only [Wq,Alg.cl,Alg.cg,Alg.rb,Alg.bd,Alg.l1,Tup.q,Tup.o]
 refine ay (fun(y:List aj×Int×Int×List aj×Unit)=>y.1=a∧y.2.1=a.length∧y.2.2.2.1=a.take y.2.2.1.toNat∧0≤y.2.2.1∧y.2.2.1≤a.length) (fun y=>(a.length-y.2.2.1).toNat) ⟨rfl,rfl,by simp,by simp,by simp⟩ ?_
 rintro⟨(l:List aj),(m:Int),(i:Int),(o:List aj),⟨⟩⟩ hI
 dsimp only at hI ⊢
 obtain⟨rfl,rfl,rfl,h1,h2⟩:=hI
 simp (disch:=first | omega | (have:=ha.at i.toNat;omega)) only [RR,hp1,hf1]
 have h3:=ha.at i.toNat
 refine⟨fun h4=>⟨by omega,by omega,?_,⟨jm h1 h4 rfl,by omega,by omega⟩,by omega⟩,fun h4=>by rw [List.take_of_length_le (by omega)]⟩
 have:=List.length_take_le' i.toNat l
 simp only [List.length_cons,List.length_nil];omega
def ShA (a:Atom):Prop:=Sh a.x∧Sh a.y
def ShT (t:List Atom):Prop:=t.length<1000000000∧∀a∈t,ShA a
theorem ShT.at {p:List Atom} (h:ShT p) (n:Nat):ShA (p.getD n default):=by
 by_cases h1:n<p.length
 ·rw [getD_lt h1];exact h.2 _ (List.getElem_mem _)
 ·simp only [List.getD,List.getElem?_eq_none (by omega:p.length≤n)]
  refine⟨⟨by decide,fun m hm=> ?_⟩,⟨by decide,fun m hm=> ?_⟩⟩<;>exact absurd hm (by simp [default,instInhabitedAtom.default])
theorem alX {p1:List aj×Unit→Bool} {f1:List aj×Unit→List aj×Unit} (hp1:∀a,Sh a→p1 (a,())=true) (hf1:∀a,Sh a→f1 (a,())=(a,())) (a:List Atom) (ha:ShT a):
  Xv (std 0) p1 f1 (a,()) (fun y=>y=(a,())):=by
 have hlen:=ha.1
 dsimp only [Xv,Alg.cl,Alg.cg,Alg.rb,Alg.bd,Alg.l1,Tup.q,Tup.o]
 refine ay (fun(y:List Atom×Int×Int×List Atom×Unit)=>y.1=a∧y.2.1=a.length∧y.2.2.2.1=a.take y.2.2.1.toNat∧0≤y.2.2.1∧y.2.2.1≤a.length) (fun y=>(a.length-y.2.2.1).toNat) ⟨rfl,rfl,by simp,by simp,by simp⟩ ?_
 rintro⟨(l:List Atom),(m:Int),(i:Int),(o:List Atom),⟨⟩⟩ hI
 dsimp only at hI ⊢
 obtain⟨rfl,rfl,rfl,h1,h2⟩:=hI
 simp (disch:=omega) only [RR,hp1 _ (ha.at _).1,hf1 _ (ha.at _).1,hp1 _ (ha.at _).2,hf1 _ (ha.at _).2]
 refine⟨fun h4=>⟨by omega,by omega,?_,⟨jm h1 h4 rfl,by omega,by omega⟩,by omega⟩,fun h4=>by rw [List.take_of_length_le (by omega)]⟩
 have:=List.length_take_le' i.toNat l
 simp only [List.length_cons,List.length_nil];omega
theorem alY {p4:List Int×List Int×Unit→Bool} {f4:List Int×List Int×Unit→Int×Unit} (hp4:∀a b,a.length<1000000000→p4 (a,b,())=true) (hf4:∀a b,a.length<1000000000→f4 (a,b,())=(gG a b,())) (a b:aj) (ha:a.atoms.length<1000000000):
  XG (std 0) p4 f4 (a,b,()) (fun y=>y=(gG a.atoms b.atoms,())):=by
 dsimp only [XG,Alg.cl,Alg.cg,Alg.rb,Alg.bd,Alg.l1,Tup.q,Tup.o]
 simp (disch:=omega) only [RR,hp4 a.atoms b.atoms ha,hf4 a.atoms b.atoms ha]
theorem alZ (a:List Atom):Xg (std 0) (a,()) (fun y=>y=(a,())):=by
 dsimp only [Xg,Alg.cl,Alg.cg,Alg.rb,Alg.bd,Alg.l1,Tup.q,Tup.o]
 simp (disch:=omega) only [RR]
 refine⟨by omega,by omega,by omega,?_⟩
 rw [List.take_of_length_le (by omega)];rfl
def uh (a b:Atom):Bool:=decide (a.kind=b.kind)&&decide (a.k=b.k)&&decide (iO a.x b.x=0)&&decide (iO a.y b.y=0)
theorem al0 {p1:List aj×List aj×Unit→Bool} {f1:List aj×List aj×Unit→Bool×Unit} (hp1:∀a b,Sh a→p1 (a,b,())=true) (hf1:∀a b,Sh a→f1 (a,b,())=(decide (iO a b=0),())) (a b:Atom) (ha:ShA a):
  Xc (std 0) p1 f1 (a,b,()) (fun y=>y=(uh a b,())):=by
 dsimp only [Xc,Alg.cl,Alg.cg,Alg.rb,Alg.bd,Alg.l1,Tup.q,Tup.o]
 simp (disch:=omega) only [RR,hp1 a.x b.x ha.1,hf1 a.x b.x ha.1,hp1 a.y b.y ha.2,hf1 a.y b.y ha.2]
 rfl
theorem al1 {p1:Atom×Atom×Unit→Bool} {f1:Atom×Atom×Unit→Bool×Unit} (hp1:∀a b,ShA a→p1 (a,b,())=true) (hf1:∀a b,ShA a→f1 (a,b,())=(uh a b,())) (a b:Atom) (hb:ShA b):
  Xd (std 0) p1 f1 (a,b,()) (fun y=>y=(uh b a,b,())):=by
 dsimp only [Xd,Alg.cl,Alg.cg,Alg.rb,Alg.bd,Alg.l1,Tup.q,Tup.o]
 simp (disch:=omega) only [RR,hp1 b a hb,hf1 b a hb]
noncomputable def idxOf (n:Int) (G:Int→Prop):Int:= @dite _ (∃r,Idx n G r) (Classical.propDecidable _) (fun h=>Classical.choose h) (fun _=> -1)
theorem Idx.uniq {n:Int} {G:Int→Prop} {r s:Int} (h:Idx n G r) (h':Idx n G s):r=s:=by
 rcases h with⟨h1,h2⟩ | ⟨h1,h2,h3,h4⟩<;>rcases h' with⟨g1,g2⟩ | ⟨g1,g2,g3,g4⟩
 ·omega
 ·exact absurd g3 (h2 s g1 g2)
 ·exact absurd h3 (g2 r h1 h2)
 ·by_cases h5:r<s
  ·exact absurd h3 (g4 r h1 h5)
  ·by_cases h6:s<r
   ·exact absurd g3 (h4 s g1 h6)
   ·omega
theorem Idx.eq {n:Int} {G:Int→Prop} {r:Int} (h:Idx n G r):r=idxOf n G:=by
 unfold idxOf
 have he:∃r,Idx n G r:=⟨r,h⟩
 rw [dif_pos he];exact h.uniq (Classical.choose_spec he)
theorem al2 {p:Atom×Atom×Unit→Bool} {f:Atom×Atom×Unit→Bool×Atom×Unit} (hp:∀a b,ShA b→p (a,b,())=true) (hf:∀a b,ShA b→f (a,b,())=(uh b a,b,())) (a:List Atom) (b:Atom) (ha:a.length<1000000000) (hb:ShA b):
  Xe (std 0) p f (a,b,()) (fun y=>y=(idxOf a.length (fun i=>uh b (a.getD i.toNat default)=true),b,())):=by
 dsimp only [Xe,Alg.cl,Alg.cg,Alg.rb,Alg.bd,Alg.l1,Tup.q,Tup.o]
 refine ay (fun(y:List Atom×Int×Int×Atom×Unit)=>y.1=a∧y.2.1=a.length∧y.2.2.2.1=b∧0≤y.2.2.1∧y.2.2.1≤a.length∧All y.2.2.1 (fun i=>¬uh b (a.getD i.toNat default)=true)) (fun y=>(a.length-y.2.2.1).toNat) ⟨rfl,rfl,rfl,by simp,by simp,All.zero⟩ ?_
 rintro⟨(l:List Atom),(m:Int),(i:Int),(b':Atom),⟨⟩⟩ hI
 dsimp only at hI ⊢
 obtain⟨rfl,rfl,rfl,h1,h2,h3⟩:=hI
 simp (disch:=omega) only [RR,hp _ _ hb,hf _ _ hb]
 refine⟨fun h4=>⟨by omega,by omega,fun h5=> ?_,fun h5=>⟨⟨by omega,by omega,h3.snoc (by simp only [h5];simp)⟩,by omega⟩⟩,fun h4=> ?_⟩
 ·rw [←Idx.eq (Or.inr ⟨by omega,by omega,h5,h3⟩)]
 ·rw [←Idx.eq (Or.inl ⟨rfl,h3.le (by omega)⟩)]
noncomputable def wL (t:List Atom) (a:Atom):Int:=idxOf t.length (fun i=>uh a (t.getD i.toNat default)=true)
theorem al3 {p:List Atom×Atom×Unit→Bool} {f:List Atom×Atom×Unit→Int×Atom×Unit} (hp:∀a b,a.length<1000000000→ShA b→p (a,b,())=true)
  (hf:∀a b,a.length<1000000000→ShA b→f (a,b,())=(idxOf a.length (fun i=>uh b (a.getD i.toNat default)=true),b,())) (a:List Atom) (b:Atom) (ha:a.length<1000000000) (hb:ShA b):
  Xf (std 0) p f (a,b,()) (fun y=>y=(wL a b,())):=by
 dsimp only [Xf,Alg.cl,Alg.cg,Alg.rb,Alg.bd,Alg.l1,Tup.q,Tup.o]
 simp (disch:=omega) only [RR,hp a b ha hb,hf a b ha hb]
 rfl
def kH (a:Atom) (n:Int):Prop:=if a.kind=4 then(1≤a.k∧a.k≤5)∧aT a.x∧aT a.y∧bf a.x n∧bf a.y n else
 (a.x=[]∧a.y=[])∧((a.kind=1∧0≤a.k∧a.k≤3)∨(a.kind=2∨a.kind=3)∧0≤a.k∧a.k≤199)
theorem al4 {p1:Int×Int×Int×Unit→Bool} {f1:Int×Int×Int×Unit→Bool×Unit} (hp1:∀a b c,p1 (a,b,c,())=true) (hf1:∀a b c,f1 (a,b,c,())=(inB a b c,()))
  {p2:Int×Unit→Bool} {f2:Int×Unit→Bool×Unit} (hp2:∀a,p2 (a,())=true) (hf2:∀a,f2 (a,())=(inB a 1 5,()))
  {p3:List aj×Int×Unit→Bool} {f3:List aj×Int×Unit→Bool×Unit} (hp3:∀a n,Sh a→p3 (a,n,())=true) (hf3:∀a n,Sh a→f3 (a,n,())=(bp (bf a n),()))
  {p4:List aj×Unit→Bool} {f4:List aj×Unit→Bool×Unit} (hp4:∀a,Sh a→p4 (a,())=true) (hf4:∀a,Sh a→f4 (a,())=(bp (aT a),()))
  {p5:Int×Unit→Bool} {f5:Int×Unit→Bool×Unit} (hp5:∀a,p5 (a,())=true) (hf5:∀a,f5 (a,())=(inB a 0 3,())) (a:Atom) (n:Int) (ha:ShA a):
  Xb (std 0) p1 f1 p2 f2 p3 f3 p4 f4 p5 f5 (a,n,()) (fun y=>y=(bp (kH a n),())):=by
 obtain⟨hx,hy⟩:=ha
 have hx1:=hx.1
 have hy1:=hy.1
 dsimp only [Xb,Alg.cl,Alg.cg,Alg.rb,Alg.bd,Alg.l1,Tup.q,Tup.o]
 simp (disch:=omega) only [RR,hp1,hf1,hp2,hf2,hp3 a.x n hx,hf3 a.x n hx,hp3 a.y n hy,hf3 a.y n hy,hp4 a.x hx,hf4 a.x hx,hp4 a.y hy,hf4 a.y hy,hp5,hf5]
 unfold kH
 refine⟨fun h=> ?_,fun h=>⟨fun h1=> ?_,fun h1=> ?_⟩⟩
 ·rw [if_pos h]
  congr 1
  rw [Bool.eq_iff_iff,bK]
  simp only [Bool.and_eq_true,eX,bK,and_assoc]
 ·rw [if_neg h,gH]
  rintro⟨⟨h2,h3⟩, -⟩
  rw [h2,h3]at h1;exact absurd h1 (by simp)
 ·rw [if_neg h]
  have h2:a.x=[]:=List.eq_nil_of_length_eq_zero (by omega)
  have h3:a.y=[]:=List.eq_nil_of_length_eq_zero (by omega)
  congr 1
  rw [Bool.eq_iff_iff,bK]
  simp only [Bool.or_eq_true,Bool.and_eq_true,decide_eq_true_eq,eX,h2,h3,true_and]
def aI (t:List Atom):Prop:=All t.length (fun i=>kH (t.getD i.toNat default) i∧wL t (t.getD i.toNat default)=i)∧t.length≤200
theorem al5 {p1:Atom×Int×Unit→Bool} {f1:Atom×Int×Unit→Bool×Unit} (hp1:∀a n,ShA a→p1 (a,n,())=true) (hf1:∀a n,ShA a→f1 (a,n,())=(bp (kH a n),()))
  {p2:List Atom×Atom×Unit→Bool} {f2:List Atom×Atom×Unit→Int×Unit} (hp2:∀a b,a.length<1000000000→ShA b→p2 (a,b,())=true) (hf2:∀a b,a.length<1000000000→ShA b→f2 (a,b,())=(wL a b,())) (a:List Atom) (ha:ShT a):
  XB (std 0) p1 f1 p2 f2 (a,()) (fun y=>y=(bp (aI a),())):=by
 have hlen:=ha.1
 dsimp only [XB,Alg.cl,Alg.cg,Alg.rb,Alg.bd,Alg.l1,Tup.q,Tup.o]
 refine ay (fun(y:List Atom×Int×Int×List Atom×Unit)=>y.1=a∧y.2.1=a.length∧y.2.2.2.1=a∧0≤y.2.2.1∧y.2.2.1≤a.length∧All y.2.2.1 (fun i=>kH (a.getD i.toNat default) i∧wL a (a.getD i.toNat default)=i)) (fun y=>(a.length-y.2.2.1).toNat) ⟨rfl,rfl,rfl,by simp,by simp,All.zero⟩ ?_
 rintro⟨(l:List Atom),(m:Int),(i:Int),(b':List Atom),⟨⟩⟩ hI
 dsimp only at hI ⊢
 obtain⟨rfl,rfl,rfl,h1,h2,h3⟩:=hI
 simp (disch:=omega) only [RR,hp1 _ _ (ha.at _),hf1 _ _ (ha.at _),hp2 _ _ ha.1 (ha.at _),hf2 _ _ ha.1 (ha.at _),bK,tZ]
 refine⟨fun h4=>⟨by omega,by omega,fun h5=> ?_,fun h5=>⟨⟨by omega,by omega,h3.snoc h5⟩,by omega⟩⟩,fun h4=> ?_⟩
 ·rw [gH (fun h=> ?_)]
  have:=h.1 i h1 h4
  rcases h5 with h5 | h5
  ·exact h5 this.1
  ·exact h5 this.2
 ·by_cases h5:b'.length≤200
  ·rw [dB (show aI b' from⟨h3.le (by omega),h5⟩),decide_eq_true (by omega)]
  ·rw [gH (show¬aI b' from fun h=>h5 h.2),decide_eq_false (by omega)]
noncomputable def bI (t:List Atom) (a:Atom):List Atom×Int:=if 0≤wL t a then(t,wL t a)else @ite _ (¬kH a t.length∨t.length=200) (Classical.propDecidable _) (t, -1) (t++ [a],(t.length:Int))
theorem al6 {p1:Atom×Int×Unit→Bool} {f1:Atom×Int×Unit→Bool×Unit} (hp1:∀a n,ShA a→p1 (a,n,())=true) (hf1:∀a n,ShA a→f1 (a,n,())=(bp (kH a n),()))
  {p2:List Atom×Atom×Unit→Bool} {f2:List Atom×Atom×Unit→Int×Unit} (hp2:∀a b,a.length<1000000000→ShA b→p2 (a,b,())=true) (hf2:∀a b,a.length<1000000000→ShA b→f2 (a,b,())=(wL a b,()))
  {p3:List Atom×Unit→Bool} {f3:List Atom×Unit→List Atom×Unit} (hp3:∀a,p3 (a,())=true) (hf3:∀a,f3 (a,())=(a,())) (t:List Atom) (a:Atom) (ht:t.length<1000000000) (ha:ShA a):
  Xh (std 0) p1 f1 p2 f2 p3 f3 (t,a,()) (fun y=>y=((bI t a).1,(bI t a).2,())):=by
 dsimp only [Xh,Alg.cl,Alg.cg,Alg.rb,Alg.bd,Alg.l1,Tup.q,Tup.o]
 simp (disch:=omega) only [RR,hp1 a t.length ha,hf1 a t.length ha,hp2 t a ht ha,hf2 t a ht ha,hp3,hf3,bK,tZ]
 unfold bI
 refine⟨fun h=>by rw [if_pos h],fun h=>⟨fun h1=> ?_,fun h1=>⟨?_,?_,?_⟩⟩⟩
 ·rw [if_neg h,if_pos (by rcases h1 with h1 | h1;exact Or.inl h1;exact Or.inr (by omega))]
 ·exact Or.inl (by simp)
 ·simp only [List.length_cons,List.length_nil];omega
 ·rw [if_neg h,if_neg (by rintro(h2 | h2);exact h2 h1.1;exact absurd h2 (by omega))]
end Go.TX.F
namespace Go.TX.F
open Go Go.AE Go.TX
theorem GX (a b:Int):mO b a= -mO a b:=by unfold mO;repeat' split<;>omega
theorem lS {a b:Int}:mO a b=0↔a=b:=by unfold mO;constructor<;>intro h<;>(repeat' split at*)<;>omega
theorem GY:∀a b:List Int,jV b a= -jV a b
 | [],[]=>rfl | [],_::_=>rfl | _::_,[]=>rfl
 | a::az,b::bs=>by
  simp only [jV,GX a b,GY az bs]
  split<;>split<;>omega
theorem GZ:∀ {a b:List Int},jV a b=0→a=b
 | [],[],_=>rfl | [],_::_,h=>by simp [jV]at h
 | _::_,[],h=>by simp [jV]at h
 | a::az,b::bs,h=>by
  simp only [jV]at h
  split at h
  ·exact absurd h (by assumption)
  ·rename_i h1
   rw [lS.1 (Classical.not_not.1 h1),GZ h]
theorem G5:∀a:List Int,jV a a=0
 | []=>rfl
 | a::az=>by simp only [jV,show mO a a=0 from lS.2 rfl];simp [G5 az]
theorem Fa:∀ {a b c:List Int},jV a b≤0→jV b c≤0→jV a c≤0
 | [],_,[],_,_=>by simp [jV]
 | [],_,_::_,_,_=>by simp [jV]
 | _::_,[],_,h,_=>by simp [jV]at h
 | _::_,_::_,[],_,h=>by simp [jV]at h
 | a::az,b::bs,c::cs,h1,h2=>by
  have ih:= @Fa az bs cs
  simp only [jV]at h1 h2 ⊢
  unfold mO at h1 h2 ⊢
  repeat' split at h1
  all_goals (repeat' split at h2)
  all_goals (repeat' split)
  all_goals omega
theorem vC (a b:List Int):gG b a= -gG a b:=by
 unfold gG or2;rw [GX,GY];repeat' split<;>omega
theorem jW {a b:List Int}:gG a b=0↔a=b:=by
 constructor
 ·intro h;unfold gG or2 at h
  split at h
  ·exact absurd h (by assumption)
  ·exact GZ h
 ·rintro rfl;unfold gG or2;rw [show mO (a.length:Int) a.length=0 from lS.2 rfl,G5];rfl
theorem xR {a b c:List Int} (h1:gG a b≤0) (h2:gG b c≤0):gG a c≤0:=by
 have ih:= @Fa a b c
 unfold gG or2 mO at*
 repeat' split at h1
 all_goals (repeat' split at h2)
 all_goals (repeat' split)
 all_goals omega
def le (x y:aj):Prop:=gG x.atoms y.atoms≤0
theorem le.trans {x y z:aj} (h1:le x y) (h2:le y z):le x z:=xR h1 h2
theorem pY {x y:aj} (h:¬gG y.atoms x.atoms<0):le x y:=by unfold le;rw [vC];omega
theorem le_of_lt {x y:aj} (h:gG x.atoms y.atoms<0):le x y:=by unfold le;omega
theorem le_refl (x:aj):le x x:=by unfold le;rw [jW.2 rfl];omega
theorem dH {x y z:aj} (h1:le x y) (h2:gG y.atoms z.atoms<0):gG x.atoms z.atoms<0:=by
 have h3:=xR h1 (le_of_lt h2)
 by_cases h:gG x.atoms z.atoms=0
 ·have e:=jW.1 h
  unfold le at h1;rw [e,vC]at h1;omega
 ·omega
theorem jo {x y z:aj} (h1:gG x.atoms y.atoms<0) (h2:le y z):gG x.atoms z.atoms<0:=by
 have h3:=xR (le_of_lt h1) h2
 by_cases h:gG x.atoms z.atoms=0
 ·have e:=jW.1 h
  unfold le at h2;rw [←e,vC]at h2;omega
 ·omega
theorem I8 (g:aj→Int) (x:aj):∀(d:List aj) (n:Nat) (h:n<d.length),((d.set n x).map g).sum=(d.map g).sum-g d[n]+g x
 | [],_,h=>absurd h (by simp)
 | a::d,0,h=>by simp;omega
 | a::d,n+1,h=>by
  have:=I8 g x d n (by simpa using h)
  simp only [List.set_cons_succ,List.map_cons,List.sum_cons,List.getElem_cons_succ];omega
structure Sm (d d':List aj):Prop where
 len:d'.length=d.length
 sum:∀g:aj→Int,(d'.map g).sum=(d.map g).sum
theorem Sm.refl (d:List aj):Sm d d:=⟨rfl,fun _=>rfl⟩
theorem Sm.trans {a b c:List aj} (h1:Sm a b) (h2:Sm b c):Sm a c:=⟨h2.1.trans h1.1,fun g=>(h2.2 g).trans (h1.2 g)⟩
theorem Sm.symm {a b:List aj} (h1:Sm a b):Sm b a:=⟨h1.1.symm,fun g=>(h1.2 g).symm⟩
theorem I9 (x:aj):∀d:List aj,0≤(d.map (fun y=>if y=x then(1:Int)else 0)).sum∧(0< (d.map (fun y=>if y=x then(1:Int)else 0)).sum↔x∈d)
 | []=>by simp
 | a::d=>by
  have:=I9 x d
  simp only [List.map_cons,List.sum_cons,List.mem_cons]
  by_cases h:a=x
  ·rw [if_pos h];refine⟨by omega,⟨fun _=>Or.inl h.symm,fun _=>by omega⟩⟩
  ·rw [if_neg h];refine⟨by omega,⟨fun h2=>Or.inr (this.2.1 (by omega)),fun h2=> ?_⟩⟩
   rcases h2 with h2 | h2
   ·exact absurd h2.symm h
   ·have:=this.2.2 h2;omega
theorem Sm.mem {a b:List aj} (h:Sm a b) {x:aj} (hx:x∈b):x∈a:=by
 rw [←(I9 x a).2,←h.2];exact(I9 x b).2.2 hx
theorem Sm.sh {a b:List aj} (h:Sm a b) (hs:Sh a):Sh b:=⟨by have:=hs.1;have:=h.1;omega,fun m hm=>hs.2 m (h.mem hm)⟩
def swp (d:List aj) (i j:Int):List aj:=(d.set i.toNat ((d).getD (j).toNat default)).set j.toNat ((d).getD (i).toNat default)
theorem aa7 (d:List aj) (i j:Int):(swp d i j).length=d.length:=by simp [swp]
theorem at_set {d:List aj} {i j:Int} {x:aj} (h1:0≤i) (h2:i<d.length) (h3:0≤j):((d.set i.toNat x).getD (j).toNat default)=if j=i then x else((d).getD (j).toNat default):=by
 simp only [List.getD]
 by_cases h:j=i
 ·subst h;rw [if_pos rfl,List.getElem?_set_self (by omega)];rfl
 ·rw [if_neg h,List.getElem?_set_ne (by omega)]
theorem uj {d:List aj} {i j k:Int} (h1:0≤i) (h2:i<d.length) (h3:0≤j) (h4:j<d.length) (h5:0≤k):((swp d i j).getD (k).toNat default)=if k=j then((d).getD (i).toNat default)else if k=i then((d).getD (j).toNat default)else((d).getD (k).toNat default):=by
 unfold swp
 rw [at_set h3 (by simp;omega) h5,at_set h1 h2 h5]
theorem Ja {d:List aj} {i j:Int} (h1:0≤i) (h2:i<d.length) (h3:0≤j) (h4:j<d.length):Sm d (swp d i j):=by
 refine⟨aa7 d i j,fun g=> ?_⟩
 unfold swp
 rw [getD_lt (show i.toNat<d.length by omega),getD_lt (show j.toNat<d.length by omega),I8 g _ _ _ (by simp;omega),I8 g _ _ _ (by omega),List.getElem_set]
 split
 ·rename_i h;have:i=j:=by omega
  subst this;omega
 ·omega
def Swp (d d':List aj) (a b n:Int):Prop:=Sm d d'∧∀k,0≤k→((d').getD (k).toNat default)=if a≤k∧k<a+n then((d).getD (k+(b-a)).toNat default)else if b≤k∧k<b+n then((d).getD (k- (b-a)).toNat default)else((d).getD (k).toNat default)
theorem Yu (a b n:Int) (d:List aj) (hl:d.length<1000000000) (h1:0≤a) (h2:0≤n) (h3:a+n≤b) (h4:b+n≤d.length):
  Qy (std 0) (a,b,n,d,()) (fun y=>Swp d y.1 a b n):=by
 dsimp only [Qy,Alg.cl,Alg.cg,Alg.rb,Alg.bd,Alg.l1,Tup.q,Tup.o]
 refine ay (fun(y:Int×Int×Int×Int×List aj×Unit)=>y.1=a∧y.2.1=b∧y.2.2.1=n∧0≤y.2.2.2.1∧y.2.2.2.1≤n∧Swp d y.2.2.2.2.1 a b y.2.2.2.1) (fun y=>(n-y.2.2.2.1).toNat)
  ⟨rfl,rfl,rfl,by simp,by simp;omega,Sm.refl d,fun k hk=>by dsimp only;rw [if_neg (by omega),if_neg (by omega)]⟩ ?_
 rintro⟨(a':Int),(b':Int),(n':Int),(i:Int),(e:List aj),⟨⟩⟩ hI
 dsimp only at hI ⊢
 obtain⟨rfl,rfl,rfl,h5,h6,h7,h8⟩:=hI
 have hle:=h7.1
 simp (disch:=omega) only [RR,List.length_set]
 refine⟨fun h9=> ?_,fun h9=> ?_⟩
 ·have e1:(e.set (a'+i).toNat ((e).getD (b'+i).toNat default)).set (b'+i).toNat ((e).getD (a'+i).toNat default)=swp e (a'+i) (b'+i):=rfl
  rw [e1]
  refine⟨by omega,by omega,by omega,by omega,by omega,by omega,by omega,by omega,by omega,by omega,by omega,by omega,by omega,by omega,by omega,by omega,⟨by omega,by omega,h7.trans (Ja (by omega) (by omega) (by omega) (by omega)),fun k hk=> ?_⟩,by omega⟩
  rw [uj (by omega) (by omega) (by omega) (by omega) hk]
  rw [h8 _ (by omega),h8 _ (by omega),h8 _ hk]
  repeat' split
  all_goals first | rfl | (exfalso;omega) | (congr 2;omega)
 ·have:i=n':=by omega
  subst this;exact⟨h7,h8⟩
end Go.TX.F
namespace Go.TX.F
open Go Go.AE Go.TX
def Rot (d d':List aj) (a m b:Int):Prop:=Sm d d'∧∀k,0≤k→((d').getD (k).toNat default)=if a≤k∧k<a+(b-m)then((d).getD (k+(m-a)).toNat default)else if a+(b-m)≤k∧k<b then((d).getD (k- (b-m)).toNat default)else((d).getD (k).toNat default)
theorem al7 {p:Int×Int×Int×List aj×Unit→Bool} {f:Int×Int×Int×List aj×Unit→List aj×Unit}
  (hp:∀(a b n:Int) (d:List aj),d.length<1000000000→0≤a→0≤n→a+n≤b→b+n≤d.length→p (a,b,n,d,())=true) (hf:∀(a b n:Int) (d:List aj),d.length<1000000000→0≤a→0≤n→a+n≤b→b+n≤d.length→Swp d (f (a,b,n,d,())).1 a b n)
  (a m b:Int) (d:List aj) (hl:d.length<1000000000) (h1:0≤a) (h2:a<m) (h3:m<b) (h4:b≤d.length):
  XI (std 0) p f (a,m,b,d,()) (fun y=>Rot d y.1 a m b):=by
 dsimp only [XI,Alg.cl,Alg.cg,Alg.rb,Alg.bd,Alg.l1,Tup.q,Tup.o]
 simp (disch:=omega) only [RR]
 refine ay (fun(y:Int×Int×Int×List aj×Unit)=>y.1=m∧0<y.2.1∧0<y.2.2.1∧a≤m-y.2.1∧m+y.2.2.1≤b∧Sm d y.2.2.2.1∧
   ∀k,0≤k→(if a≤k∧k<a+(b-m)then((d).getD (k+(m-a)).toNat default)else if a+(b-m)≤k∧k<b then((d).getD (k- (b-m)).toNat default)else((d).getD (k).toNat default))
    =(if m-y.2.1≤k∧k<m-y.2.1+y.2.2.1 then((y.2.2.2.1).getD (k+y.2.1).toNat default)else if m-y.2.1+y.2.2.1≤k∧k<m+y.2.2.1 then((y.2.2.2.1).getD (k-y.2.2.1).toNat default)else((y.2.2.2.1).getD (k).toNat default))) (fun y=>(y.2.1+y.2.2.1).toNat)
  ⟨rfl,by simp;omega,by simp;omega,by simp;omega,by simp;omega,Sm.refl d,fun k hk=>by
   dsimp only;rw [show m- (m-a)=a by omega,show m+(b-m)=b by omega]⟩ ?_
 rintro⟨(m':Int),(i:Int),(j:Int),(e:List aj),⟨⟩⟩ hI
 dsimp only at hI ⊢
 obtain⟨rfl,h5,h6,h7,h8,h9,h10⟩:=hI
 have hle:=h9.1
 simp (disch:=omega) only [RR]
 refine⟨fun h11=>⟨fun h12=> ?_,fun h12=> ?_⟩,fun h11=> ?_⟩
 ·obtain⟨s1,s2⟩:=hf (m'-i) m' j e (by omega) (by omega) (by omega) (by omega) (by omega)
  refine⟨hp _ _ _ _ (by omega) (by omega) (by omega) (by omega) (by omega),⟨by omega,by omega,by omega,by omega,h9.trans s1,fun k hk=> ?_⟩,by omega⟩
  rw [h10 k hk]
  generalize (f (m'-i,m',j,e,())).1=e' at s1 s2 ⊢
  by_cases c1:m'-i≤k∧k<m'-i+j
  ·rw [if_pos c1,if_neg (by omega),if_neg (by omega),s2 k hk,if_pos c1];congr 2;omega
  ·rw [if_neg c1]
   by_cases c2:m'-i+j≤k∧k<m'+j
   ·rw [if_pos c2]
    by_cases c3:m'- (i-j)≤k∧k<m'- (i-j)+j
    ·rw [if_pos c3,s2 _ (by omega),if_neg (by omega),if_pos (by omega)];congr 2;omega
    ·rw [if_neg c3,if_pos (by omega),s2 _ (by omega),if_neg (by omega),if_neg (by omega)]
   ·rw [if_neg c2,if_neg (by omega),if_neg (by omega),s2 _ hk,if_neg (by omega),if_neg (by omega)]
 ·obtain⟨s1,s2⟩:=hf (m'-i) (m'+j-i) i e (by omega) (by omega) (by omega) (by omega) (by omega)
  refine⟨hp _ _ _ _ (by omega) (by omega) (by omega) (by omega) (by omega),⟨by omega,by omega,by omega,by omega,h9.trans s1,fun k hk=> ?_⟩,by omega⟩
  rw [h10 k hk]
  generalize (f (m'-i,m'+j-i,i,e,())).1=e' at s1 s2 ⊢
  by_cases c1:m'-i≤k∧k<m'-i+j
  ·rw [if_pos c1]
   by_cases c3:k<m'-i+(j-i)
   ·rw [if_pos (by omega),s2 _ (by omega)]
    by_cases c4:k<m'
    ·by_cases c5:k+i<m'+j-i
     ·rw [if_neg (by omega),if_neg (by omega)]
     ·exfalso;omega
    ·by_cases c5:k+i<m'+j-i
     ·rw [if_neg (by omega),if_neg (by omega)]
     ·exfalso;omega
   ·by_cases c6:k<m'
    ·rw [if_neg (by omega),if_pos (by omega),s2 _ (by omega),if_pos (by omega)];congr 2;omega
    ·rw [if_neg (by omega),if_pos (by omega),s2 _ (by omega)]
     by_cases c7:k- (j-i)<m'
     ·rw [if_pos (by omega)];congr 2;omega
     ·exfalso;omega
  ·rw [if_neg c1]
   by_cases c2:m'-i+j≤k∧k<m'+j
   ·rw [if_pos c2,if_neg (by omega),if_neg (by omega),s2 _ hk,if_neg (by omega),if_pos (by omega)];congr 2;omega
   ·rw [if_neg c2,if_neg (by omega),if_neg (by omega),s2 _ hk,if_neg (by omega),if_neg (by omega)]
 ·have hij:i=j:=by omega
  subst hij
  obtain⟨s1,s2⟩:=hf (m'-i) m' i e (by omega) (by omega) (by omega) (by omega) (by omega)
  refine⟨hp _ _ _ _ (by omega) (by omega) (by omega) (by omega) (by omega),h9.trans s1,fun k hk=> ?_⟩
  rw [h10 k hk,s2 k hk]
  repeat' split
  all_goals first | rfl | (exfalso;omega) | (congr 2;omega)
def kU (d:List aj) (a b:Int):Prop:=∀p q,a≤p→p≤q→q<b→le ((d).getD (p).toNat default) ((d).getD (q).toNat default)
def Out (d d':List aj) (a b:Int):Prop:=∀k,0≤k→(k<a∨b≤k)→((d').getD (k).toNat default)=((d).getD (k).toNat default)
theorem al8 {p:aj×aj×Unit→Bool} {f:aj×aj×Unit→Int×Unit} (hp:∀x y,x.atoms.length<1000000000→p (x,y,())=true) (hf:∀x y,x.atoms.length<1000000000→f (x,y,())=(gG x.atoms y.atoms,()))
  (a b:Int) (d:List aj) (hd:Sh d) (h1:0≤a) (h2:a≤b) (h3:b≤d.length):
  XH (std 0) p f (a,b,d,()) (fun y=>Sm d y.1∧Out d y.1 a b∧kU y.1 a b):=by
 have hlen:=hd.1
 dsimp only [XH,Alg.cl,Alg.cg,Alg.rb,Alg.bd,Alg.l1,Tup.q,Tup.o]
 simp (disch:=omega) only [RR]
 refine ay (fun(y:Int×Int×Int×List aj×Unit)=>y.1=a∧y.2.1=b∧a+1≤y.2.2.1∧(y.2.2.1≤b∨y.2.2.1=a+1)∧Sm d y.2.2.2.1∧Out d y.2.2.2.1 a b∧kU y.2.2.2.1 a y.2.2.1) (fun y=>(b-y.2.2.1).toNat)
  ⟨rfl,rfl,by simp,Or.inr rfl,Sm.refl d,fun k _ _=>rfl,fun p q h1 h2 h3=>by dsimp only at h3;rw [show p=q by omega];exact le_refl _⟩ ?_
 rintro⟨(a':Int),(b':Int),(i:Int),(e:List aj),⟨⟩⟩ hI
 dsimp only at hI ⊢
 obtain⟨rfl,rfl,h4,h5,h6,h7,h8⟩:=hI
 have hle:=h6.1
 simp (disch:=omega) only [RR]
 refine⟨fun h9=> ?_,fun h9=>⟨h6,h7,fun p q g1 g2 g3=>h8 p q g1 g2 (by omega)⟩⟩
 refine ay (fun(y:Int×Int×Int×Int×List aj×Unit)=>y.1=a'∧y.2.1=b'∧y.2.2.1=i∧a'≤y.2.2.2.1∧y.2.2.2.1≤i∧Sm d y.2.2.2.2.1∧Out d y.2.2.2.2.1 a' b'
   ∧(∀p q,a'≤p→p≤q→q≤i→p≠y.2.2.2.1→q≠y.2.2.2.1→le ((y.2.2.2.2.1).getD (p).toNat default) ((y.2.2.2.2.1).getD (q).toNat default))∧(∀q,y.2.2.2.1<q→q≤i→le ((y.2.2.2.2.1).getD (y.2.2.2.1).toNat default) ((y.2.2.2.2.1).getD (q).toNat default))) (fun y=>y.2.2.2.1.toNat)
  ⟨rfl,rfl,rfl,by simp;omega,by simp,h6,h7,fun p q g1 g2 g3 g4 g5=>h8 p q g1 g2 (by dsimp only at g3 g5;omega),fun q g1 g2=>by dsimp only at g1;omega⟩ ?_
 rintro⟨(a'':Int),(b'':Int),(i':Int),(j:Int),(e':List aj),⟨⟩⟩ hI
 dsimp only at hI ⊢
 obtain⟨rfl,rfl,rfl,h10,h11,h12,h13,h14,h15⟩:=hI
 have hle':=h12.1
 have hs:=h12.sh hd
 simp (disch:=omega) only [RR,List.length_set,hp _ _ (hs.at _),hf _ _ (hs.at _)]
 have e1:(e'.set j.toNat ((e').getD (j-1).toNat default)).set (j-1).toNat ((e').getD (j).toNat default)=swp e' j (j-1):=rfl
 rw [e1]
 repeat' (refine And.intro ?_ ?_)
 all_goals try omega
 ·intro ⟨g1,g2⟩
  repeat' (refine And.intro ?_ ?_)
  all_goals try omega
  ·exact h12.trans (Ja (by omega) (by omega) (by omega) (by omega))
  ·intro k hk hk2
   rw [uj (by omega) (by omega) (by omega) (by omega) hk,if_neg (by omega),if_neg (by omega)]
   exact h13 k hk hk2
  ·intro p q k1 k2 k3 k4 k5
   rw [uj (by omega) (by omega) (by omega) (by omega) (by omega),if_neg k4,uj (by omega) (by omega) (by omega) (by omega) (by omega),if_neg k5]
   by_cases c1:p=j
   ·rw [if_pos c1]
    by_cases c2:q=j
    ·rw [if_pos c2];exact le_refl _
    ·rw [if_neg c2];exact h14 _ _ (by omega) (by omega) (by omega) (by omega) (by omega)
   ·rw [if_neg c1]
    by_cases c2:q=j
    ·rw [if_pos c2];exact h14 _ _ (by omega) (by omega) (by omega) (by omega) (by omega)
    ·rw [if_neg c2];exact h14 _ _ (by omega) (by omega) (by omega) (by omega) (by omega)
  ·intro q k1 k2
   rw [uj (by omega) (by omega) (by omega) (by omega) (by omega),if_pos rfl,uj (by omega) (by omega) (by omega) (by omega) (by omega),if_neg (by omega)]
   by_cases c2:q=j
   ·rw [if_pos c2];exact le_of_lt g2
   ·rw [if_neg c2];exact h15 q (by omega) k2
 ·intro g
  refine⟨⟨by omega,by omega,h12,h13,?_⟩,by omega⟩
  have hj:a''<j→le ((e').getD (j-1).toNat default) ((e').getD (j).toNat default):=fun c=>pY (by
   simp only [decide_eq_true c,Bool.true_and,decide_eq_false_iff_not]at g;exact g)
  intro p q k1 k2 k3
  by_cases c1:p=j
  ·subst c1
   by_cases c2:q=p
   ·rw [c2];exact le_refl _
   ·exact h15 q (by omega) (by omega)
  ·by_cases c2:q=j
   ·subst c2
    by_cases c3:p=q-1
    ·rw [c3];exact hj (by omega)
    ·exact(h14 p (q-1) k1 (by omega) (by omega) c1 (by omega)).trans (hj (by omega))
   ·exact h14 p q k1 k2 (by omega) c1 c2
end Go.TX.F
namespace Go.TX.F
open Go Go.AE Go.TX
theorem half {x:Int} (h1:0≤x) (h2:x≤4000000000):IntKind.i64.wrap (gZ .shr .u64 (IntKind.u64.wrap x) 1)=x/2:=by
 have e1:IntKind.u64.wrap x=x:=by simp [IntKind.wrap,IntKind.bits,IntKind.signed];omega
 have e2:gZ .shr .u64 x 1=x/2:=by
  show x.fdiv (2^ (min (Int.toNat 1) IntKind.u64.bits))=x/2
  rw [show(2:Int)^ (min (Int.toNat 1) IntKind.u64.bits)=2 by decide,Int.fdiv_eq_ediv_of_nonneg _ (by omega)]
 rw [e1,e2,w64 (by omega) (by omega)]
structure Mrg (d d':List aj) (a b:Int):Prop where
 sm:Sm d d'
 out:Out d d' a b
 ins:∀k,a≤k→k<b→∃j,a≤j∧j<b∧((d').getD (k).toNat default)=((d).getD (j).toNat default)
 srt:kU d' a b
structure zY (a m b:Int) (d:List aj):Prop where
 sh:Sh d
 h1:0≤a
 h2:a<m
 h3:m<b
 h4:b≤d.length
 s1:kU d a m
 s2:kU d m b
theorem zZ {P Q:Prop} [Decidable P] [Decidable Q]:((decide P&&decide Q)=false)↔¬(P∧Q):=by by_cases h1:P<;>by_cases h2:Q<;>simp [h1,h2]
theorem Ny {p2:Int×Int×Int×List aj×Unit→Bool} {f2:Int×Int×Int×List aj×Unit→List aj×Unit}
    (hp2:∀(a m b:Int) (d:List aj),d.length<1000000000→0≤a→a<m→m<b→b≤d.length→p2 (a,m,b,d,())=true) (hf2:∀(a m b:Int) (d:List aj),d.length<1000000000→0≤a→a<m→m<b→b≤d.length→Rot d (f2 (a,m,b,d,())).1 a m b)
    {p3:Int×Int×Int×List aj×Unit→Bool} {f3:Int×Int×Int×List aj×Unit→List aj×Unit}
    (K:Int) (hp3:∀(a m b:Int) (d:List aj),zY a m b d→b-a<K→p3 (a,m,b,d,())=true) (hf3:∀(a m b:Int) (d:List aj),zY a m b d→b-a<K→Mrg d (f3 (a,m,b,d,())).1 a b)
    (a m b mid i E:Int) (d:List aj) (hd:zY a m b d) (hK:b-a≤K) (hmid:mid=(a+b)/2) (hE:E=mid+m-i)
    (b1:a≤i) (b2:i≤m) (b3:m≤E) (b4:E≤b) (b5:a<mid) (b6:mid<b)
    (fA:i=a∨E=b∨le ((d).getD (i-1).toNat default) ((d).getD (E).toNat default)) (fB:E=m∨i=m∨le ((d).getD (E-1).toNat default) ((d).getD (i).toNat default)):
      (i<m∧m<E→
          p2 (i,m,E,d,())=true∧
            (a<i∧i<mid→
                p3 (a,i,mid,(f2 (i,m,E,d,())).fst,())=true∧
                  (mid<E∧E<b→
                      p3 (mid,E,b,(f3 (a,i,mid,(f2 (i,m,E,d,())).fst,())).fst,())=true∧
                        Mrg d (f3 (mid,E,b,(f3 (a,i,mid,(f2 (i,m,E,d,())).fst,())).fst,())).fst
                          a b)∧
                    ((decide (mid<E)&&decide (E<b))=false→
                      Mrg d (f3 (a,i,mid,(f2 (i,m,E,d,())).fst,())).fst a b))∧
              ((decide (a<i)&&decide (i<mid))=false→
                (mid<E∧E<b→
                    p3 (mid,E,b,(f2 (i,m,E,d,())).fst,())=true∧
                      Mrg d (f3 (mid,E,b,(f2 (i,m,E,d,())).fst,())).fst a b)∧
                  ((decide (mid<E)&&decide (E<b))=false→
                    Mrg d (f2 (i,m,E,d,())).fst a b)))∧
        ((decide (i<m)&&decide (m<E))=false→
          (a<i∧i<mid→
              p3 (a,i,mid,d,())=true∧
                (mid<E∧E<b→
                    p3 (mid,E,b,(f3 (a,i,mid,d,())).fst,())=true∧
                      Mrg d (f3 (mid,E,b,(f3 (a,i,mid,d,())).fst,())).fst a b)∧
                  ((decide (mid<E)&&decide (E<b))=false→
                    Mrg d (f3 (a,i,mid,d,())).fst a b))∧
            ((decide (a<i)&&decide (i<mid))=false→
              (mid<E∧E<b→
                  p3 (mid,E,b,d,())=true∧Mrg d (f3 (mid,E,b,d,())).fst a b)∧
                ((decide (mid<E)&&decide (E<b))=false→Mrg d d a b))):=by
  obtain⟨hs,h1,h2,h3,h4,hA,hB⟩:=hd
  have hlen:=hs.1
  have cross:∀x y,((a≤x∧x<i)∨(m≤x∧x<E))→((i≤y∧y<m)∨(E≤y∧y<b))→le ((d).getD (x).toNat default) ((d).getD (y).toNat default):=by
    rintro x y (hx | hx) (hy | hy)
    · exact hA x y hx.1 (by omega) hy.2
    · rcases fA with fA | fA | fA
      · omega
      · omega
      · exact((hA x (i-1) hx.1 (by omega) (by omega)).trans fA).trans (hB E y b3 hy.1 hy.2)
    · rcases fB with fB | fB | fB
      · omega
      · omega
      · exact((hB x (E-1) hx.1 (by omega) (by omega)).trans fB).trans (hA i y b1 hy.1 hy.2)
    · exact hB x y hx.1 (by omega) hy.2
  have al9 : ∀ e, Rot d e i m E → ∀ R : Prop, R = Mrg d e a b → (a < i ∧ i < mid →
              p3 (a,i,mid,e,())=true∧
                (mid<E∧E<b→
                    p3 (mid,E,b,(f3 (a,i,mid,e,())).fst,())=true∧
                      Mrg d (f3 (mid,E,b,(f3 (a,i,mid,e,())).fst,())).fst a b)∧
                  ((decide (mid<E)&&decide (E<b))=false→
                    Mrg d (f3 (a,i,mid,e,())).fst a b))∧
            ((decide (a<i)&&decide (i<mid))=false→
              (mid<E∧E<b→
                  p3 (mid,E,b,e,())=true∧Mrg d (f3 (mid,E,b,e,())).fst a b)∧
                ((decide (mid<E)&&decide (E<b))=false→R)):=by
    rintro e ⟨r1,r2⟩ R rfl
    have hle:=r1.1
    have hes:=r1.sh hs
    have lo:∀k,a≤k→k<mid→∃x,((a≤x∧x<i)∨(m≤x∧x<E))∧((e).getD (k).toNat default)=((d).getD (x).toNat default):=by
      intro k k1 k2
      rw [r2 k (by omega)]
      by_cases c1:i≤k∧k<i+(E-m)
      · rw [if_pos c1];exact⟨k+(m-i),by omega,rfl⟩
      · rw [if_neg c1,if_neg (by omega)];exact⟨k,by omega,rfl⟩
    have hi:∀k,mid≤k→k<b→∃x,((i≤x∧x<m)∨(E≤x∧x<b))∧((e).getD (k).toNat default)=((d).getD (x).toNat default):=by
      intro k k1 k2
      rw [r2 k (by omega),if_neg (by omega)]
      by_cases c1:i+(E-m)≤k∧k<E
      · rw [if_pos c1];exact⟨k- (E-m),by omega,rfl⟩
      · rw [if_neg c1];exact⟨k,by omega,rfl⟩
    have S1:kU e a i:=by
      intro p q q1 q2 q3
      rw [r2 p (by omega),r2 q (by omega),if_neg (by omega),if_neg (by omega),if_neg (by omega),if_neg (by omega)]
      exact hA p q q1 q2 (by omega)
    have S2:kU e i mid:=by
      intro p q q1 q2 q3
      rw [r2 p (by omega),r2 q (by omega),if_pos (by omega),if_pos (by omega)]
      exact hB _ _ (by omega) (by omega) (by omega)
    have S3:kU e mid E:=by
      intro p q q1 q2 q3
      rw [r2 p (by omega),r2 q (by omega),if_neg (by omega),if_pos (by omega),if_neg (by omega),if_pos (by omega)]
      exact hA _ _ (by omega) (by omega) (by omega)
    have S4:kU e E b:=by
      intro p q q1 q2 q3
      rw [r2 p (by omega),r2 q (by omega),if_neg (by omega),if_neg (by omega),if_neg (by omega),if_neg (by omega)]
      exact hB _ _ (by omega) (by omega) (by omega)
    have fin:∀e1 e2,Mrg e e1 a mid→Mrg e1 e2 mid b→Mrg d e2 a b:=by
      intro e1 e2 m1 m2
      refine⟨(r1.trans m1.sm).trans m2.sm,fun k k1 k2=> ?_,fun k k1 k2=> ?_,fun p q q1 q2 q3=> ?_⟩
      · rw [m2.out k k1 (by omega),m1.out k k1 (by omega),r2 k k1,if_neg (by omega),if_neg (by omega)]
      · by_cases c:k<mid
        · rw [m2.out k (by omega) (by omega)]
          obtain⟨j,j1,j2,j3⟩:=m1.ins k k1 c
          obtain⟨x,x1,x2⟩:=lo j j1 j2
          rw [j3,x2];exact⟨x,by omega,by omega,rfl⟩
        · obtain⟨j,j1,j2,j3⟩:=m2.ins k (by omega) k2
          rw [j3,m1.out j (by omega) (by omega)]
          obtain⟨x,x1,x2⟩:=hi j j1 j2
          rw [x2];exact⟨x,by omega,by omega,rfl⟩
      · by_cases c:q<mid
        · rw [m2.out p (by omega) (by omega),m2.out q (by omega) (by omega)];exact m1.srt p q q1 q2 c
        · by_cases c2:mid≤p
          · exact m2.srt p q c2 q2 q3
          · rw [m2.out p (by omega) (by omega)]
            obtain⟨j,j1,j2,j3⟩:=m1.ins p q1 (by omega)
            obtain⟨x,x1,x2⟩:=lo j j1 j2
            obtain⟨j',j1',j2',j3'⟩:=m2.ins q (by omega) q3
            obtain⟨x',x1',x2'⟩:=hi j' j1' j2'
            rw [j3,x2,j3',m1.out j' (by omega) (by omega),x2']
            exact cross x x' x1 x1'
    have triv:∀e' a' b',kU e' a' b'→Mrg e' e' a' b':=fun e' a' b' h=>⟨Sm.refl _,fun _ _ _=>rfl,fun k k1 k2=>⟨k,k1,k2,rfl⟩,h⟩
    have last : ∀ e1, Mrg e e1 a mid → (mid < E ∧ E < b →
                    p3 (mid,E,b,e1,())=true∧
                      Mrg d (f3 (mid,E,b,e1,())).fst a b)∧
                  ((decide (mid<E)&&decide (E<b))=false→
                    Mrg d e1 a b):=by
      intro e1 m1
      have hle1:=m1.sm.1
      have O:∀a' b',mid≤a'→b'≤b→kU e a' b'→kU e1 a' b':=fun a' b' g1 g2 g p q q1 q2 q3=>by
        rw [m1.out p (by omega) (by omega),m1.out q (by omega) (by omega)];exact g p q q1 q2 q3
      refine⟨fun c=> ?_,fun c=> ?_⟩
      · have pre:zY mid E b e1:=⟨m1.sm.sh hes,by omega,c.1,c.2,by omega,O _ _ (by omega) (by omega) S3,O _ _ (by omega) (by omega) S4⟩
        exact⟨hp3 _ _ _ _ pre (by omega),fin _ _ m1 (hf3 _ _ _ _ pre (by omega))⟩
      · rw [zZ]at c
        refine fin _ _ m1 (triv _ _ _ ?_)
        by_cases c2:mid<E
        · have:E=b:=by omega
          subst this;exact O _ _ (by omega) (by omega) S3
        · have:E=mid:=by omega
          rw [this]at S4;exact O _ _ (by omega) (by omega) S4
    refine⟨fun c=> ?_,fun c=> ?_⟩
    · have pre:zY a i mid e:=⟨hes,by omega,c.1,c.2,by omega,S1,S2⟩
      exact⟨hp3 _ _ _ _ pre (by omega),last _ (hf3 _ _ _ _ pre (by omega))⟩
    · rw [zZ]at c
      refine last e (triv _ _ _ ?_)
      by_cases c2:a<i
      · have:i=mid:=by omega
        rw [←this];exact S1
      · have:i=a:=by omega
        rw [this]at S2;exact S2
  refine⟨fun c=>⟨hp2 _ _ _ _ hlen (by omega) c.1 c.2 (by omega),al9 _ (hf2 _ _ _ _ hlen (by omega) c.1 c.2 (by omega)) _ rfl⟩,fun c=>al9 d ?_ _ rfl⟩
  rw [zZ]at c
  refine⟨Sm.refl _,fun k k1=> ?_⟩
  repeat' split
  all_goals first | rfl | (exfalso;omega) | (congr 2;omega)
theorem afF {p:aj×aj×Unit→Bool} {f:aj×aj×Unit→Int×Unit} (hp:∀x y,x.atoms.length<1000000000→p (x,y,())=true) (hf:∀x y,x.atoms.length<1000000000→f (x,y,())=(gG x.atoms y.atoms,()))
  {p2:Int×Int×Int×List aj×Unit→Bool} {f2:Int×Int×Int×List aj×Unit→List aj×Unit}
  (hp2:∀(a m b:Int) (d:List aj),d.length<1000000000→0≤a→a<m→m<b→b≤d.length→p2 (a,m,b,d,())=true) (hf2:∀(a m b:Int) (d:List aj),d.length<1000000000→0≤a→a<m→m<b→b≤d.length→Rot d (f2 (a,m,b,d,())).1 a m b)
  {p3:Int×Int×Int×List aj×Unit→Bool} {f3:Int×Int×Int×List aj×Unit→List aj×Unit}
  (K:Int) (hp3:∀(a m b:Int) (d:List aj),zY a m b d→b-a<K→p3 (a,m,b,d,())=true) (hf3:∀(a m b:Int) (d:List aj),zY a m b d→b-a<K→Mrg d (f3 (a,m,b,d,())).1 a b)
  (a m b:Int) (d:List aj) (hd:zY a m b d) (hK:b-a≤K):
  Ej (std 0) p f p2 f2 p3 f3 (a,m,b,d,()) (fun y=>Mrg d y.1 a b):=by
 obtain⟨hs,h1,h2,h3,h4,hA,hB⟩:=hd
 have hlen:=hs.1
 dsimp only [Ej,Alg.cl,Alg.cg,Alg.rb,Alg.bd,Alg.l1,Tup.q,Tup.o]
 simp (disch:=omega) only [RR]
 refine⟨fun h5=> ?_,fun h5=>⟨fun h6=> ?_,fun h6=> ?_⟩⟩
 ·
  have hm:m=a+1:=by omega
  subst hm
  refine ay (fun(y:Int×Int×Int×List aj×Unit)=>y.1=a∧y.2.2.2.1=d∧a+1≤y.2.1∧y.2.1≤y.2.2.1∧y.2.2.1≤b∧(∀q,a+1≤q→q<y.2.1→gG ((d).getD (q).toNat default).atoms ((d).getD (a).toNat default).atoms<0)∧(∀q,y.2.2.1≤q→q<b→¬gG ((d).getD (q).toNat default).atoms ((d).getD (a).toNat default).atoms<0)) (fun y=>(y.2.2.1-y.2.1).toNat)
   ⟨rfl,rfl,by simp,by simp;omega,by simp,fun q g1 g2=>by dsimp only at g2;omega,fun q g1 g2=>by dsimp only at g1;omega⟩ ?_
  rintro⟨(a':Int),(i:Int),(j:Int),(d':List aj),⟨⟩⟩ hI
  dsimp only at hI ⊢
  obtain⟨rfl,rfl,g1,g2,g3,g4,g5⟩:=hI
  simp (disch:=omega) only [RR,half,hp _ _ (hs.at _),hf _ _ (hs.at _)]
  refine⟨fun g6=>⟨by omega,by omega,by omega,by omega,by omega,by omega,by omega,by omega,by omega,fun g7=>⟨⟨by omega,by omega,by omega,fun q k1 k2=> ?_,g5⟩,by omega⟩,fun g7=>⟨⟨by omega,by omega,by omega,g4,fun q k1 k2=> ?_⟩,by omega⟩⟩,fun g6=> ?_⟩
  ·exact dH (hB q ((i+j)/2) k1 (by omega) (by omega)) g7
  ·intro g8;exact g7 (dH (hB ((i+j)/2) q (by omega) (by omega) k2) g8)
  have hij:i=j:=by omega
  subst hij
  refine ay (fun(y:Int×Int×List aj×Unit)=>y.1=i∧a'≤y.2.1∧y.2.1≤i-1∧Sm d' y.2.2.1∧(∀k,0≤k→((y.2.2.1).getD (k).toNat default)=if a'≤k∧k<y.2.1 then((d').getD (k+1).toNat default)else if k=y.2.1 then((d').getD (a').toNat default)else((d').getD (k).toNat default))) (fun y=>(i-y.2.1).toNat)
   ⟨rfl,by simp,by simp;omega,Sm.refl _,fun k hk=>by dsimp only;rw [if_neg (by omega)];split;(· congr 2);(· rfl)⟩ ?_
  rintro⟨(i':Int),(k:Int),(e:List aj),⟨⟩⟩ hI
  dsimp only at hI ⊢
  obtain⟨rfl,k1,k2,k3,k4⟩:=hI
  have hle:=k3.1
  simp (disch:=omega) only [RR,List.length_set]
  have e1:(e.set k.toNat ((e).getD (k+1).toNat default)).set (k+1).toNat ((e).getD (k).toNat default)=swp e k (k+1):=rfl
  rw [e1]
  refine⟨fun g7=>⟨by omega,by omega,by omega,by omega,by omega,by omega,by omega,by omega,by omega,by omega,by omega,by omega,by omega,by omega,by omega,by omega,⟨by omega,by omega,k3.trans (Ja (by omega) (by omega) (by omega) (by omega)),fun q hq=> ?_⟩,by omega⟩,fun g7=> ?_⟩
  ·rw [uj (by omega) (by omega) (by omega) (by omega) hq,k4 _ (by omega),k4 _ (by omega),k4 _ hq]
   repeat' split
   all_goals first | rfl | (exfalso;omega) | (congr 2;omega)
  ·have hk:k=i'-1:=by omega
   subst hk
   refine⟨k3,fun q hq hq2=> ?_,fun q hq hq2=> ?_,fun q r q1 q2 q3=> ?_⟩
   ·rw [k4 q hq,if_neg (by omega),if_neg (by omega)]
   ·rw [k4 q (by omega)]
    repeat' split
    ·exact⟨q+1,by omega,by omega,rfl⟩
    ·exact⟨a',by omega,by omega,rfl⟩
    ·exact⟨q,by omega,by omega,rfl⟩
   ·rw [k4 q (by omega),k4 r (by omega)]
    by_cases c1:a'≤q∧q<i'-1
    ·rw [if_pos c1]
     by_cases c2:a'≤r∧r<i'-1
     ·rw [if_pos c2];exact hB _ _ (by omega) (by omega) (by omega)
     ·rw [if_neg c2]
      by_cases c3:r=i'-1
      ·rw [if_pos c3];exact le_of_lt (g4 _ (by omega) (by omega))
      ·rw [if_neg c3];exact hB _ _ (by omega) (by omega) (by omega)
    ·rw [if_neg c1,if_neg (by omega:¬(a'≤r∧r<i'-1))]
     by_cases c3:q=i'-1
     ·rw [if_pos c3]
      by_cases c4:r=i'-1
      ·rw [if_pos c4];exact le_refl _
      ·rw [if_neg c4];exact pY (g5 r (by omega) (by omega))
     ·rw [if_neg c3,if_neg (by omega)];exact hB _ _ (by omega) (by omega) (by omega)
 ·
  have hm:b=m+1:=by omega
  subst hm
  refine ay (fun(y:Int×Int×Int×List aj×Unit)=>y.1=m∧y.2.2.2.1=d∧a≤y.2.1∧y.2.1≤y.2.2.1∧y.2.2.1≤m∧(∀q,a≤q→q<y.2.1→¬gG ((d).getD (m).toNat default).atoms ((d).getD (q).toNat default).atoms<0)∧(∀q,y.2.2.1≤q→q<m→gG ((d).getD (m).toNat default).atoms ((d).getD (q).toNat default).atoms<0)) (fun y=>(y.2.2.1-y.2.1).toNat)
   ⟨rfl,rfl,by simp,by simp;omega,by simp,fun q g1 g2=>by dsimp only at g2;omega,fun q g1 g2=>by dsimp only at g1;omega⟩ ?_
  rintro⟨(m':Int),(i:Int),(j:Int),(d':List aj),⟨⟩⟩ hI
  dsimp only at hI ⊢
  obtain⟨rfl,rfl,g1,g2,g3,g4,g5⟩:=hI
  simp (disch:=omega) only [RR,half,hp _ _ (hs.at _),hf _ _ (hs.at _)]
  refine⟨fun g6=>⟨by omega,by omega,by omega,by omega,by omega,by omega,by omega,by omega,by omega,fun g7=>⟨⟨by omega,by omega,by omega,fun q k1 k2=> ?_,g5⟩,by omega⟩,fun g7=>⟨⟨by omega,by omega,by omega,g4,fun q k1 k2=> ?_⟩,by omega⟩⟩,fun g6=> ?_⟩
  ·intro g8
   have:=hA q ((i+j)/2) k1 (by omega) (by omega)
   apply g7
   have h7:=jo g8 this
   exact h7
  ·exact jo g7 (hA ((i+j)/2) q (by omega) (by omega) k2)
  have hij:i=j:=by omega
  subst hij
  refine ay (fun(y:Int×Int×List aj×Unit)=>y.1=i∧i≤y.2.1∧y.2.1≤m'∧Sm d' y.2.2.1∧(∀k,0≤k→((y.2.2.1).getD (k).toNat default)=if y.2.1<k∧k≤m' then((d').getD (k-1).toNat default)else if k=y.2.1 then((d').getD (m').toNat default)else((d').getD (k).toNat default))) (fun y=>(y.2.1-i).toNat)
   ⟨rfl,by simp;omega,by simp,Sm.refl _,fun k hk=>by dsimp only;rw [if_neg (by omega)];split;(· congr 2);(· rfl)⟩ ?_
  rintro⟨(i':Int),(k:Int),(e:List aj),⟨⟩⟩ hI
  dsimp only at hI ⊢
  obtain⟨rfl,k1,k2,k3,k4⟩:=hI
  have hle:=k3.1
  simp (disch:=omega) only [RR,List.length_set]
  have e1:(e.set k.toNat ((e).getD (k-1).toNat default)).set (k-1).toNat ((e).getD (k).toNat default)=swp e k (k-1):=rfl
  rw [e1]
  refine⟨fun g7=>⟨by omega,by omega,by omega,by omega,by omega,by omega,by omega,by omega,by omega,by omega,by omega,by omega,by omega,by omega,by omega,by omega,⟨by omega,by omega,k3.trans (Ja (by omega) (by omega) (by omega) (by omega)),fun q hq=> ?_⟩,by omega⟩,fun g7=> ?_⟩
  ·rw [uj (by omega) (by omega) (by omega) (by omega) hq,k4 _ (by omega),k4 _ (by omega),k4 _ hq]
   repeat' split
   all_goals first | rfl | (exfalso;omega) | (congr 2;omega)
  ·have hk:k=i':=by omega
   subst hk
   refine⟨k3,fun q hq hq2=> ?_,fun q hq hq2=> ?_,fun q r q1 q2 q3=> ?_⟩
   ·rw [k4 q hq,if_neg (by omega),if_neg (by omega)]
   ·rw [k4 q (by omega)]
    repeat' split
    ·exact⟨q-1,by omega,by omega,rfl⟩
    ·exact⟨m',by omega,by omega,rfl⟩
    ·exact⟨q,by omega,by omega,rfl⟩
   ·rw [k4 q (by omega),k4 r (by omega)]
    by_cases c1:k<q∧q≤m'
    ·rw [if_pos c1,if_pos (by omega)];exact hA _ _ (by omega) (by omega) (by omega)
    ·rw [if_neg c1]
     by_cases c3:q=k
     ·rw [if_pos c3]
      by_cases c2:k<r∧r≤m'
      ·rw [if_pos c2];exact le_of_lt (g5 _ (by omega) (by omega))
      ·rw [if_neg c2,if_pos (by omega)];exact le_refl _
     ·rw [if_neg c3]
      by_cases c2:k<r∧r≤m'
      ·rw [if_pos c2];exact hA _ _ (by omega) (by omega) (by omega)
      ·rw [if_neg c2]
       by_cases c4:r=k
       ·rw [if_pos c4];exact pY (g4 _ (by omega) (by omega))
       ·rw [if_neg c4];exact hA _ _ (by omega) (by omega) (by omega)
 ·
  simp (disch:=omega) only [RR,half]
  refine⟨by omega,fun h7=> ?_,fun h7=> ?_⟩
  ·refine ay (fun(y:Int×Int×Int×Int×Int×Int×Int×Int×List aj×Unit)=>y.1=a∧y.2.1=m∧y.2.2.1=b∧y.2.2.2.1=(a+b)/2∧y.2.2.2.2.1=(a+b)/2+m∧y.2.2.2.2.2.2.2.1=(a+b)/2+m-1∧y.2.2.2.2.2.2.2.2.1=d∧(a+b)/2+m-b≤y.2.2.2.2.2.1∧y.2.2.2.2.2.1≤y.2.2.2.2.2.2.1∧y.2.2.2.2.2.2.1≤(a+b)/2
     ∧(∀q,(a+b)/2+m-b≤q→q<y.2.2.2.2.2.1→¬gG ((d).getD ((a+b)/2+m-1-q).toNat default).atoms ((d).getD (q).toNat default).atoms<0)∧(∀q,y.2.2.2.2.2.2.1≤q→q< (a+b)/2→gG ((d).getD ((a+b)/2+m-1-q).toNat default).atoms ((d).getD (q).toNat default).atoms<0)) (fun y=>(y.2.2.2.2.2.2.1-y.2.2.2.2.2.1).toNat)
    ⟨rfl,rfl,rfl,rfl,rfl,rfl,rfl,by simp,by simp;omega,by simp,fun q g1 g2=>by dsimp only at g2;omega,fun q g1 g2=>by dsimp only at g1;omega⟩ ?_
   rintro⟨(a':Int),(m':Int),(b':Int),(mid:Int),(n:Int),(i:Int),(j:Int),(r:Int),(d':List aj),⟨⟩⟩ hI
   dsimp only at hI ⊢
   obtain⟨rfl,rfl,rfl,hmid,hn,hr,rfl,g1,g2,g3,g4,g5⟩:=hI
   rw [←hmid]at g1 g3 g4 g5 h7
   simp (disch:=omega) only [RR,half,hp _ _ (hs.at _),hf _ _ (hs.at _)]
   refine⟨fun g6=>⟨by omega,by omega,by omega,by omega,by omega,by omega,by omega,by omega,by omega,fun g7=>⟨⟨hmid,hn,hr,by omega,by omega,by omega,fun q k1 k2=> ?_,by rw [←hmid];exact g5⟩,by omega⟩,fun g7=>⟨⟨hmid,hn,hr,by omega,by omega,by omega,by rw [←hmid];exact g4,fun q k1 k2=> ?_⟩,by omega⟩⟩,fun g6=> ?_⟩
   ·rw [←hmid]at k1 ⊢
    intro g8
    apply g7
    rw [hr,←hmid]
    exact dH (hB _ _ (by omega) (by omega) (by omega)) (jo g8 (hA _ _ (by omega) (by omega) (by omega)))
   ·rw [←hmid]at k2 ⊢
    rw [hr,←hmid]at g7
    exact dH (hB _ _ (by omega) (by omega) (by omega)) (jo g7 (hA _ _ (by omega) (by omega) (by omega)))
   ·have hij:i=j:=by omega
    subst hij
    refine Ny hp2 hf2 K hp3 hf3 a' m' b' mid i (n-i) d' ⟨hs,h1,h2,h3,h4,hA,hB⟩ hK hmid (by omega) (by omega) (by omega) (by omega) (by omega) (by omega) (by omega) ?_ ?_
    ·by_cases c:i=mid+m'-b'
     ·first | exact Or.inl (by omega) | exact Or.inr (Or.inl (by omega))
     ·refine Or.inr (Or.inr ?_)
      have:=g4 (i-1) (by omega) (by omega)
      rw [show mid+m'-1- (i-1)=n-i by omega]at this
      exact pY this
    ·by_cases c:i=mid
     ·first | exact Or.inl (by omega) | exact Or.inr (Or.inl (by omega))
     ·refine Or.inr (Or.inr ?_)
      have:=g5 i (by omega) (by omega)
      rw [show mid+m'-1-i=n-i-1 by omega]at this
      exact le_of_lt this
  ·refine ay (fun(y:Int×Int×Int×Int×Int×Int×Int×Int×List aj×Unit)=>y.1=a∧y.2.1=m∧y.2.2.1=b∧y.2.2.2.1=(a+b)/2∧y.2.2.2.2.1=(a+b)/2+m∧y.2.2.2.2.2.2.2.1=(a+b)/2+m-1∧y.2.2.2.2.2.2.2.2.1=d∧a≤y.2.2.2.2.2.1∧y.2.2.2.2.2.1≤y.2.2.2.2.2.2.1∧y.2.2.2.2.2.2.1≤m
     ∧(∀q,a≤q→q<y.2.2.2.2.2.1→¬gG ((d).getD ((a+b)/2+m-1-q).toNat default).atoms ((d).getD (q).toNat default).atoms<0)∧(∀q,y.2.2.2.2.2.2.1≤q→q<m→gG ((d).getD ((a+b)/2+m-1-q).toNat default).atoms ((d).getD (q).toNat default).atoms<0)) (fun y=>(y.2.2.2.2.2.2.1-y.2.2.2.2.2.1).toNat)
    ⟨rfl,rfl,rfl,rfl,rfl,rfl,rfl,by simp,by simp;omega,by simp,fun q g1 g2=>by dsimp only at g2;omega,fun q g1 g2=>by dsimp only at g1;omega⟩ ?_
   rintro⟨(a':Int),(m':Int),(b':Int),(mid:Int),(n:Int),(i:Int),(j:Int),(r:Int),(d':List aj),⟨⟩⟩ hI
   dsimp only at hI ⊢
   obtain⟨rfl,rfl,rfl,hmid,hn,hr,rfl,g1,g2,g3,g4,g5⟩:=hI
   rw [←hmid]at g4 g5 h7
   simp (disch:=omega) only [RR,half,hp _ _ (hs.at _),hf _ _ (hs.at _)]
   refine⟨fun g6=>⟨by omega,by omega,by omega,by omega,by omega,by omega,by omega,by omega,by omega,fun g7=>⟨⟨hmid,hn,hr,by omega,by omega,by omega,fun q k1 k2=> ?_,by rw [←hmid];exact g5⟩,by omega⟩,fun g7=>⟨⟨hmid,hn,hr,by omega,by omega,by omega,by rw [←hmid];exact g4,fun q k1 k2=> ?_⟩,by omega⟩⟩,fun g6=> ?_⟩
   ·rw [←hmid]
    intro g8
    apply g7
    rw [hr,←hmid]
    exact dH (hB _ _ (by omega) (by omega) (by omega)) (jo g8 (hA _ _ (by omega) (by omega) (by omega)))
   ·rw [←hmid]
    rw [hr,←hmid]at g7
    exact dH (hB _ _ (by omega) (by omega) (by omega)) (jo g7 (hA _ _ (by omega) (by omega) (by omega)))
   ·have hij:i=j:=by omega
    subst hij
    refine Ny hp2 hf2 K hp3 hf3 a' m' b' mid i (n-i) d' ⟨hs,h1,h2,h3,h4,hA,hB⟩ hK hmid (by omega) (by omega) (by omega) (by omega) (by omega) (by omega) (by omega) ?_ ?_
    ·by_cases c:i=a'
     ·first | exact Or.inl (by omega) | exact Or.inr (Or.inl (by omega))
     ·refine Or.inr (Or.inr ?_)
      have:=g4 (i-1) (by omega) (by omega)
      rw [show mid+m'-1- (i-1)=n-i by omega]at this
      exact pY this
    ·by_cases c:i=m'
     ·first | exact Or.inl (by omega) | exact Or.inr (Or.inl (by omega))
     ·refine Or.inr (Or.inr ?_)
      have:=g5 i (by omega) (by omega)
      rw [show mid+m'-1-i=n-i-1 by omega]at this
      exact le_of_lt this
end Go.TX.F
namespace Go.TX.F
open Go Go.AE Go.TX
theorem vD {s a x:Int} (h:s ∣ a) (h1:a<x) (h2:x<a+s):¬s ∣ x:=fun h3=>by
 have:=Int.le_of_dvd (by omega) (Int.dvd_sub h3 h);omega
theorem kU.adj {d:List aj} {a b:Int} (h:∀p,a≤p→p+1<b→le ((d).getD (p).toNat default) ((d).getD (p+1).toNat default)):kU d a b:=by
 intro p q h1 h2 h3
 obtain⟨n,hn⟩:∃n:Nat,q=p+n:=⟨(q-p).toNat,by omega⟩
 subst hn
 clear h2
 induction n with
 | zero=>rw [show p+((0:Nat):Int)=p by omega];exact le_refl _
 | succ n ih=>
  have:=h (p+n) (by omega) (by omega)
  rw [show p+((n+1:Nat):Int)=p+n+1 by omega]
  exact(ih (by omega)).trans this
theorem kU.at1 {d:List aj} {a b p:Int} (h:kU d a b) (h1:a≤p) (h2:p+1<b):le ((d).getD (p).toNat default) ((d).getD (p+1).toNat default):=h p (p+1) h1 (by omega) h2
def Bl (d:List aj) (s n:Int):Prop:=∀p,0≤p→p+1<n→¬s ∣ p+1→le ((d).getD (p).toNat default) ((d).getD (p+1).toNat default)
theorem ama {p:Int×Int×List aj×Unit→Bool} {f:Int×Int×List aj×Unit→List aj×Unit}
  (hp:∀(a b:Int) (d:List aj),Sh d→0≤a→a≤b→b≤d.length→p (a,b,d,())=true) (hf:∀(a b:Int) (d:List aj),Sh d→0≤a→a≤b→b≤d.length→Sm d (f (a,b,d,())).1∧Out d (f (a,b,d,())).1 a b∧kU (f (a,b,d,())).1 a b)
  {p3:Int×Int×Int×List aj×Unit→Bool} {f3:Int×Int×Int×List aj×Unit→List aj×Unit}
  (hp3:∀(a m b:Int) (d:List aj),zY a m b d→p3 (a,m,b,d,())=true) (hf3:∀(a m b:Int) (d:List aj),zY a m b d→Mrg d (f3 (a,m,b,d,())).1 a b)
  (n:Int) (d:List aj) (hd:Sh d) (hn:n=d.length):
  XJ (std 0) p f p3 f3 (n,d,()) (fun y=>Sm d y.1∧kU y.1 0 n):=by
 have hlen:=hd.1
 dsimp only [XJ,Alg.cl,Alg.cg,Alg.rb,Alg.bd,Alg.l1,Tup.q,Tup.o]
 simp (disch:=omega) only [RR]
 refine ay (fun(y:Int×Int×Int×Int×List aj×Unit)=>y.1=n∧y.2.1=20∧0≤y.2.2.1∧y.2.2.1≤n∧(20:Int) ∣ y.2.2.1∧y.2.2.2.1=y.2.2.1+20∧Sm d y.2.2.2.2.1∧Bl y.2.2.2.2.1 20 y.2.2.1) (fun y=>(n+20-y.2.2.2.1).toNat)
  ⟨rfl,rfl,by simp,by simp;omega,⟨0,by simp⟩,rfl,Sm.refl _,fun p h1 h2=>by dsimp only at h2;omega⟩ ?_
 rintro⟨(n':Int),(s:Int),(a:Int),(b:Int),(e:List aj),⟨⟩⟩ hI
 dsimp only at hI ⊢
 obtain⟨rfl,rfl,h1,h2,h3,rfl,h5,h6⟩:=hI
 have hle:=h5.1
 have hs:=h5.sh hd
 simp (disch:=omega) only [RR]
 have bl:∀a c (e e':List aj),0≤a→(20:Int) ∣ a→c≤a+20→Bl e 20 a→Out e e' a c→kU e' a c→Bl e' 20 c:=by
  intro a c e e' c0 c1 c2 c3 c4 c5 q q1 q2 q3
  by_cases k1:q+1<a
  ·rw [c4 q q1 (by omega),c4 (q+1) (by omega) (by omega)];exact c3 q q1 k1 q3
  ·exact c5.at1 (by omega) q2
 refine⟨fun h7=> ?_,fun h7=> ?_⟩
 ·obtain⟨t1,t2,t3⟩:=hf a (a+20) e hs h1 (by omega) (by omega)
  exact⟨hp a (a+20) e hs h1 (by omega) (by omega),⟨by omega,by omega,by omega,h5.trans t1,bl a (a+20) _ _ h1 h3 (by omega) h6 t2 t3⟩,by omega⟩
 obtain⟨t1,t2,t3⟩:=hf a n' e hs h1 (by omega) (by omega)
 refine⟨hp a n' e hs h1 (by omega) (by omega),?_⟩
 have t4:=bl a n' _ _ h1 h3 (by omega) h6 t2 t3
 generalize (f (a,n',e,())).1=e2 at t1 t2 t3 t4 ⊢
 have u1:=h5.trans t1
 clear t1 t2 t3 h5 h6
 refine ay (fun(y:Int×Int×List aj×Unit)=>y.1=n'∧0<y.2.1∧(y.2.1≤20∨y.2.1≤2*n')∧Sm d y.2.2.1∧Bl y.2.2.1 y.2.1 n') (fun y=>(n'-y.2.1).toNat)
  ⟨rfl,by simp,Or.inl (by simp),u1,t4⟩ ?_
 rintro⟨(n:Int),(s:Int),(e3:List aj),⟨⟩⟩ hI
 dsimp only at hI ⊢
 obtain⟨rfl,g1,g2,g3,g4⟩:=hI
 simp (disch:=omega) only [RR]
 refine⟨fun g5=> ?_,fun g5=>⟨g3,kU.adj fun q q1 q2=>g4 q q1 q2 (vD (a:=0) ⟨0,by simp⟩ (by omega) (by omega))⟩⟩
 refine ay (fun(y:Int×Int×Int×Int×List aj×Unit)=>y.1=n∧y.2.1=s∧0≤y.2.2.1∧y.2.2.1≤n∧(2*s) ∣ y.2.2.1∧y.2.2.2.1=y.2.2.1+2*s∧Sm d y.2.2.2.2.1
   ∧∀p,0≤p→p+1<n→¬(2*s) ∣ p+1→(p+1<y.2.2.1∨¬s ∣ p+1)→le ((y.2.2.2.2.1).getD (p).toNat default) ((y.2.2.2.2.1).getD (p+1).toNat default)) (fun y=>(n+2*s-y.2.2.2.1).toNat)
  ⟨rfl,rfl,by simp,by simp;omega,⟨0,by simp⟩,by simp,g3,fun q q1 q2 q3 q4=>g4 q q1 q2 (by dsimp only at q4;rcases q4 with q4 | q4;(· omega);(· exact q4))⟩ ?_
 rintro⟨(n':Int),(s':Int),(a:Int),(b:Int),(e4:List aj),⟨⟩⟩ hI
 dsimp only at hI ⊢
 obtain⟨rfl,rfl,k1,k2,k3,rfl,k5,k6⟩:=hI
 have hle:=k5.1
 have hs:=k5.sh hd
 have ks:s' ∣ a:=Int.dvd_trans ⟨2,by omega⟩ k3
 simp (disch:=omega) only [RR]
 have blk:∀x,x≤n'→a+s'<x→x≤a+2*s'→zY a (a+s') x e4:=fun x x1 x2 x3=>
  ⟨hs,k1,by omega,x2,by omega,kU.adj fun q q1 q2=>by
   refine k6 q (by omega) (by omega) (vD k3 (by omega) (by omega)) (Or.inr (vD ks (by omega) (by omega))),
   kU.adj fun q q1 q2=>by
   refine k6 q (by omega) (by omega) (vD k3 (by omega) (by omega)) (Or.inr (vD (Int.dvd_add ks (Int.dvd_refl s')) (by omega) (by omega)))⟩
 have stp:∀x e5,x≤n'→(x=a+2*s'∨x=n')→x≤a+2*s'→Mrg e4 e5 a x→∀p,0≤p→p+1<n'→¬(2*s') ∣ p+1→(p+1<x∨¬s' ∣ p+1)→le ((e5).getD (p).toNat default) ((e5).getD (p+1).toNat default):=by
  intro x e5 x1 x2 x3 m1 q q1 q2 q3 q4
  by_cases c1:q+1<a
  ·rw [m1.out q q1 (by omega),m1.out (q+1) (by omega) (by omega)];exact k6 q q1 q2 q3 (Or.inl c1)
  ·by_cases c2:q+1=a
   ·rw [c2]at q3;exact absurd k3 q3
   ·by_cases c3:q+1<x
    ·exact m1.srt.at1 (by omega) c3
    ·by_cases c4:q+1=x
     ·exfalso
      rcases x2 with x2 | x2
      ·rw [c4,x2]at q3;exact q3 (Int.dvd_add k3 (Int.dvd_refl _))
      ·omega
     ·rw [m1.out q q1 (by omega),m1.out (q+1) (by omega) (by omega)]
      refine k6 q q1 q2 q3 (Or.inr ?_)
      rcases q4 with q4 | q4
      ·omega
      ·exact q4
 refine⟨fun k7=> ?_,fun k7=>⟨fun k8=> ?_,fun k8=> ?_⟩⟩
 ·have pre:=blk (a+2*s') k7 (by omega) (by omega)
  have m1:=hf3 _ _ _ _ pre
  exact⟨hp3 _ _ _ _ pre,⟨by omega,by omega,Int.dvd_add k3 (Int.dvd_refl _),k5.trans m1.sm,stp _ _ k7 (Or.inl rfl) (by omega) m1⟩,by omega⟩
 ·have pre:=blk n' (by omega) k8 (by omega)
  have m1:=hf3 _ _ _ _ pre
  refine⟨hp3 _ _ _ _ pre,⟨by omega,Or.inr (by omega),k5.trans m1.sm,fun q q1 q2 q3=> ?_⟩,by omega⟩
  exact stp _ _ (by omega) (Or.inr rfl) (by omega) m1 q q1 q2 (by rw [Int.mul_comm];exact q3) (Or.inl q2)
 ·refine⟨⟨by omega,Or.inr (by omega),k5,fun q q1 q2 q3=> ?_⟩,by omega⟩
  rw [Int.mul_comm]at q3
  by_cases c1:q+1<a
  ·exact k6 q q1 q2 q3 (Or.inl c1)
  ·by_cases c2:q+1=a
   ·rw [c2]at q3;exact absurd k3 q3
   ·exact k6 q q1 q2 q3 (Or.inr (vD ks (by omega) (by omega)))
theorem amb {p:Int×List aj×Unit→Bool} {f:Int×List aj×Unit→List aj×Unit} (hp:∀(n:Int) (d:List aj),Sh d→n=d.length→p (n,d,())=true)
  (hf:∀(n:Int) (d:List aj),Sh d→n=d.length→Sm d (f (n,d,())).1∧kU (f (n,d,())).1 0 n) (d:List aj) (hd:Sh d):
  XK (std 0) p f (d,()) (fun y=>Sm d y.1∧kU y.1 0 d.length):=by
 have:=hf _ d hd rfl
 dsimp only [XK,Alg.cl,Alg.cg,Alg.rb,Alg.bd,Alg.l1,Tup.q,Tup.o]
 exact⟨hp _ d hd rfl,this⟩
end Go.TX.F
namespace Go.TX.F
open Go Go.AE Go.TX
def cf (l:List aj) (k:List Int):Int:=(l.map fun m=>if m.atoms=k then m.iA else 0).sum
theorem mP (k:List Int):cf [] k=0:=rfl
theorem eU (m:aj) (l:List aj) (k:List Int):cf (m::l) k=(if m.atoms=k then m.iA else 0)+cf l k:=by simp [cf]
theorem lT (a b:List aj) (k:List Int):cf (a++b) k=cf a k+cf b k:=by simp [cf]
theorem iR {k:List Int}:∀ {l:List aj},(∀m∈l,m.atoms≠k)→cf l k=0
 | [],_=>rfl
 | m::l,h=>by rw [eU,if_neg (h m (by simp)),iR (fun m hm=>h m (by simp [hm]))];rfl
theorem Sm.cf {a b:List aj} (h:Sm a b) (k:List Int):cf b k=cf a k:=h.sum _
def lt (a b:aj):Prop:=gG a.atoms b.atoms<0
theorem lt.ne {a b:aj} (h:lt a b):a.atoms≠b.atoms:=fun e=>by unfold lt at h;rw [e,jW.2 rfl]at h;omega
structure Nf (o:List aj):Prop where
 ss:o.Pairwise lt
 co:∀m∈o,1≤m.iA∧m.iA≤65535
theorem SF:∀ {o1 o2:List aj},Nf o1→Nf o2→(∀k,cf o1 k=cf o2 k)→o1=o2
 | [],[],_,_,_=>rfl
 | [],m::o,_,h2,h=>by
  have:=h m.atoms
  rw [eU,if_pos rfl,iR (fun m' hm'=>((List.rel_of_pairwise_cons h2.ss hm').ne).symm),mP]at this
  have:=(h2.co m (by simp));omega
 | m::o,[],h1,_,h=>by
  have:=h m.atoms
  rw [eU,if_pos rfl,iR (fun m' hm'=>((List.rel_of_pairwise_cons h1.ss hm').ne).symm),mP]at this
  have:=(h1.co m (by simp));omega
 | m1::o1,m2::o2,h1,h2,h=>by
  have c1:=h1.co m1 (by simp)
  have c2:=h2.co m2 (by simp)
  have z1:cf o1 m1.atoms=0:=iR fun m' hm'=>((List.rel_of_pairwise_cons h1.ss hm').ne).symm
  have z2:cf o2 m2.atoms=0:=iR fun m' hm'=>((List.rel_of_pairwise_cons h2.ss hm').ne).symm
  have tr:∀ {a b c:aj},lt a b→lt b c→lt a c:=fun g1 g2=>dH (le_of_lt g1) g2
  have e:m1.atoms=m2.atoms:=by
   by_cases g1:lt m1 m2
   ·have:=h m1.atoms
    rw [eU,if_pos rfl,z1,eU,if_neg (fun e=>g1.ne e.symm),iR (fun m' hm'=>((tr g1 (List.rel_of_pairwise_cons h2.ss hm')).ne).symm)]at this
    omega
   ·by_cases g2:lt m2 m1
    ·have:=h m2.atoms
     rw [eU,if_neg (fun e=>g2.ne e.symm),iR (fun m' hm'=>((tr g2 (List.rel_of_pairwise_cons h1.ss hm')).ne).symm),eU,if_pos rfl,z2]at this
     omega
    ·unfold lt at g1 g2
     rw [vC]at g2
     exact jW.1 (by omega)
  have ec:m1.iA=m2.iA:=by
   have:=h m1.atoms
   rw [eU,if_pos rfl,z1,eU,if_pos e.symm,e,z2]at this;omega
  have em:m1=m2:=by cases m1;cases m2;simp_all
  subst em
  refine congrArg _ (SF ⟨h1.ss.tail,fun m hm=>h1.co m (by simp [hm])⟩ ⟨h2.ss.tail,fun m hm=>h2.co m (by simp [hm])⟩ (fun k=>by
   have:=h k;rw [eU,eU]at this;omega))
noncomputable def nf (l:List aj):List aj:= @dite _ (∃o,Nf o∧∀k,cf o k=cf l k%65536) (Classical.propDecidable _) (fun h=>Classical.choose h) (fun _=> [])
theorem Yv {l o:List aj} (h:Nf o) (h2:∀k,cf o k=cf l k%65536):nf l=o:=by
 have he:∃o,Nf o∧∀k,cf o k=cf l k%65536:=⟨o,h,h2⟩
 unfold nf;rw [dif_pos he]
 have:=Classical.choose_spec he
 exact SF this.1 h (fun k=>(this.2 k).trans (h2 k).symm)
noncomputable def um (l:List aj):Bool×List aj:=(bp (aT (nf l)),if bp (aT (nf l))then nf l else [])
def Cb (l:List aj):Prop:=∀m∈l,0≤m.iA∧m.iA≤65535
theorem amc {p1:List Int×List Int×Unit→Bool} {f1:List Int×List Int×Unit→Int×Unit} (hp1:∀a b,a.length<1000000000→p1 (a,b,())=true) (hf1:∀a b,a.length<1000000000→f1 (a,b,())=(gG a b,()))
  {p2:List aj×Unit→Bool} {f2:List aj×Unit→Bool×Unit} (hp2:∀a,Sh a→p2 (a,())=true) (hf2:∀a,Sh a→f2 (a,())=(bp (aT a),()))
  {p3:Int×Unit→Bool} {f3:Int×Unit→Int×Unit} (hp3:∀a,p3 (a,())=true) (hf3:∀a,f3 (a,())=(a%65536,()))
  {p4:List Int×Unit→Bool} {f4:List Int×Unit→List Int×Unit} (hp4:∀a,a.length≤1073741824→p4 (a,())=true) (hf4:∀a,a.length≤1073741824→f4 (a,())=(a,()))
  {p5:List aj×Unit→Bool} {f5:List aj×Unit→List aj×Unit} (hp5:∀d,Sh d→p5 (d,())=true) (hf5:∀d,Sh d→Sm d (f5 (d,())).1∧kU (f5 (d,())).1 0 d.length)
  (l:List aj) (hl:Sh l) (hc:Cb l):XL (std 0) p1 f1 p2 f2 p3 f3 p4 f4 p5 f5 (l,()) (fun y=>y.1=(um l).1∧y.2.2.1=(um l).2):=by
 obtain⟨s1,s2⟩:=hf5 l hl
 dsimp only [XL,Alg.cl,Alg.cg,Alg.rb,Alg.bd,Alg.l1,Tup.q,Tup.o]
 simp (disch:=omega) only [RR,hp5 l hl]
 generalize (f5 (l,())).1=d at s1 s2 ⊢
 have hle:=s1.1
 have hs:=s1.sh hl
 have hlen:=hs.1
 have hcd:Cb d:=fun m hm=>hc m (s1.mem hm)
 refine ay (fun(y:Int×List aj×List aj×Unit)=>0≤y.1∧y.1≤d.length∧y.2.1=d∧Nf y.2.2.1∧y.2.2.1.length≤y.1∧(∀k,cf y.2.2.1 k=cf (d.take y.1.toNat) k%65536)∧(∀m∈y.2.2.1,m∈y.2.2.1→m.atoms.length<1000000000)
   ∧(y.1<d.length→(∀m∈y.2.2.1,lt m ((d).getD (y.1).toNat default))∧(∀m∈d.take y.1.toNat,lt m ((d).getD (y.1).toNat default)))) (fun y=>(d.length-y.1).toNat)
  ⟨by simp,by simp,rfl,⟨List.Pairwise.nil,fun m hm=>absurd hm (by simp)⟩,by simp,fun k=>by simp [cf],fun m hm=>absurd hm (by simp),fun _=>⟨fun m hm=>absurd hm (by simp),fun m hm=>absurd hm (by simp)⟩⟩ ?_
 rintro⟨(i:Int),(d':List aj),(o:List aj),⟨⟩⟩ hI
 dsimp only at hI ⊢
 obtain⟨h1,h2,rfl,h4,h5,h6,h7,h8⟩:=hI
 have ho:Sh o:=⟨by omega,fun m hm=>h7 m hm hm⟩
 simp (disch:=omega) only [RR,hp2 o ho,hf2 o ho]
 refine⟨fun h9=>⟨by omega,by omega,by omega,by omega,?_⟩,fun h9=> ?_⟩
 ·obtain⟨g1,g2⟩:=h8 h9
  have z:cf (d'.take i.toNat) ((d').getD (i).toNat default).atoms=0:=iR fun m hm=>(g2 m hm).ne
  refine ay (fun(y:Int×Int×List aj×aj×List aj×Unit)=>i≤y.1∧y.1≤d'.length∧y.2.2.1=d'∧y.2.2.2.1=((d').getD (i).toNat default)∧y.2.2.2.2.1=o∧y.2.1=cf (d'.take y.1.toNat) ((d').getD (i).toNat default).atoms%65536
    ∧(∀k,k≠((d').getD (i).toNat default).atoms→cf (d'.take y.1.toNat) k=cf (d'.take i.toNat) k)∧(∀m∈d'.take y.1.toNat,lt m ((d').getD (i).toNat default)∨m.atoms=((d').getD (i).toNat default).atoms)) (fun y=>(d'.length-y.1).toNat)
   ⟨by simp,by simp;omega,rfl,rfl,rfl,by rw [z];rfl,fun k _=>rfl,fun m hm=>Or.inl (g2 m hm)⟩ ?_
  rintro⟨(j:Int),(c:Int),(d'':List aj),(fi:aj),(o':List aj),⟨⟩⟩ hI
  dsimp only at hI ⊢
  obtain⟨k1,k2,rfl,rfl,rfl,k6,k7,k8⟩:=hI
  have hc0:0≤c∧c<65536:=by omega
  have hcj:j<d''.length→0≤((d'').getD (j).toNat default).iA∧((d'').getD (j).toNat default).iA≤65535:=fun h=>hcd _ (kG (by omega) h)
  simp (disch:=omega) only [RR,hp1 _ _ (hs.at _),hf1 _ _ (hs.at _),hp3,hf3,hp4 _ (Nat.le_trans (Nat.le_of_lt (hs.at _)) (by omega)),hf4 _ (Nat.le_trans (Nat.le_of_lt (hs.at _)) (by omega))]
  refine⟨by omega,by omega,by omega,by omega,fun⟨m1,m2⟩=> ?_,fun m1=>⟨fun m2=>⟨?_,?_,?_⟩,fun m2=>⟨?_,?_⟩⟩⟩
  ·have e:=jW.1 m2
   have:=hcj m1
   rw [w64 (by omega) (by omega)]
   have ts:d''.take (j+1).toNat=d''.take j.toNat++ [((d'').getD (j).toNat default)]:=(jm (by omega) m1 rfl).symm
   refine⟨by omega,by omega,by omega,by omega,⟨by omega,by omega,?_,fun k hk=> ?_,fun m hm=> ?_⟩,by omega⟩
   ·rw [ts,lT,eU,if_pos e.symm,mP,k6];omega
   ·rw [ts,lT,eU,if_neg (fun h=>hk (by rw [e,h])),mP,k7 k hk];omega
   ·rw [ts,List.mem_append,List.mem_singleton]at hm
    rcases hm with hm | hm
    ·exact k8 m hm
    ·right;rw [hm,e]
  all_goals
   have hb:j<d''.length→lt ((d'').getD (i).toNat default) ((d'').getD (j).toNat default):=fun hj=>by
    rw [decide_eq_true hj,Bool.true_and,decide_eq_false_iff_not]at m1
    have:=s2 i j h1 k1 (by omega)
    unfold le at this;unfold lt;omega
   have hij:i<j:=by
    by_cases hj:j<d''.length
    ·by_cases e:i=j
     ·have:=(hb hj).ne;rw [e]at this;exact absurd rfl this
     ·omega
    ·omega
  ·simp only [List.length_append,List.length_cons,List.length_nil];omega
  ·have co:∀k,cf (o'++ [⟨c,((d'').getD (i).toNat default).atoms⟩]) k=cf (d''.take j.toNat) k%65536:=fun k=>by
    rw [lT,eU,mP]
    dsimp only
    by_cases hk:((d'').getD (i).toNat default).atoms=k
    ·subst hk
     rw [if_pos rfl,iR (fun m hm=>(g1 m hm).ne),k6];omega
    ·rw [if_neg hk,k7 k (fun e=>hk e.symm),h6 k];omega
   refine⟨by omega,by omega,⟨?_,?_⟩,?_,co,?_,fun hj=>⟨?_,?_⟩⟩
   ·rw [List.pairwise_append]
    exact⟨h4.ss,List.pairwise_singleton _ _,fun a ha b hb=>by rw [List.mem_singleton]at hb;subst hb;exact g1 a ha⟩
   ·intro m hm
    rw [List.mem_append,List.mem_singleton]at hm
    rcases hm with hm | rfl
    ·exact h4.co m hm
    ·dsimp only;omega
   ·simp only [List.length_append,List.length_cons,List.length_nil];omega
   ·intro m hm _
    rw [List.mem_append,List.mem_singleton]at hm
    rcases hm with hm | rfl
    ·exact h7 m hm hm
    ·exact hs.at _
   ·intro m hm
    rw [List.mem_append,List.mem_singleton]at hm
    rcases hm with hm | rfl
    ·exact dH (le_of_lt (g1 m hm)) (hb hj)
    ·exact hb hj
   ·intro m hm
    rcases k8 m hm with k | k
    ·exact dH (le_of_lt k) (hb hj)
    ·have:=hb hj;unfold lt at this ⊢;rw [k];exact this
  ·omega
  ·refine⟨by omega,by omega,h4,by omega,fun k=> ?_,h7,fun hj=>⟨?_,?_⟩⟩
   ·by_cases hk:((d'').getD (i).toNat default).atoms=k
    ·subst hk
     rw [iR (fun m hm=>(g1 m hm).ne)];omega
    ·rw [k7 k (fun e=>hk e.symm),h6 k]
   ·intro m hm
    exact dH (le_of_lt (g1 m hm)) (hb hj)
   ·intro m hm
    rcases k8 m hm with k | k
    ·exact dH (le_of_lt k) (hb hj)
    ·have:=hb hj;unfold lt at this ⊢;rw [k];exact this
  ·omega
 ·have e:nf l=o:=Yv h4 (fun k=>by rw [h6 k,List.take_of_length_le (by omega),s1.cf k])
  unfold um
  rw [e]
  refine⟨fun h=> ?_,fun h=> ?_⟩
  ·rw [h];exact⟨rfl,by simp⟩
  ·rw [h];exact⟨rfl,by simp⟩
end Go.TX.F
namespace Go.TX.F
open Go Go.AE Go.TX
theorem amd (n:Int) (h1:0≤n) (h2:n≤1073741824):XM (std 0) (n,()) (fun y=>y=([],())):=by
 dsimp only [XM,Alg.cl,Alg.cg,Alg.rb,Alg.bd,Alg.l1,Tup.q,Tup.o]
 simp (disch:=omega) only [RR]
 refine⟨fun h=>by omega,fun _ h=>⟨by omega,by omega,by rw [List.length_replicate];omega,by omega,by omega,by omega,by omega,by omega,?_⟩⟩
 rfl
theorem ame {p:Int×Unit→Bool} {f:Int×Unit→List aj×Unit} (hp:∀n:Int,0≤n→n≤1073741824→p (n,())=true) (hf:∀n:Int,0≤n→n≤1073741824→f (n,())=([],()))
  (a b:List aj) (ha:a.length≤100000000) (hb:b.length≤100000000):XO (std 0) p f ([a,b],()) (fun y=>y=(a++b,())):=by
 dsimp only [XO,Alg.cl,Alg.cg,Alg.rb,Alg.bd,Alg.l1,Tup.q,Tup.o]
 refine ay (fun(y:List (List aj)×Int×List (List aj)×Int×Int×Unit)=>y.1=[a,b]∧y.2.2.1=[a,b]∧y.2.2.2.1=2∧((y.2.2.2.2.1=0∧y.2.1=0)∨(y.2.2.2.2.1=1∧y.2.1=a.length)∨(y.2.2.2.2.1=2∧y.2.1=a.length+b.length))) (fun y=>(2-y.2.2.2.2.1).toNat)
  ⟨rfl,rfl,rfl,Or.inl ⟨rfl,rfl⟩⟩ ?_
 rintro⟨(l:List (List aj)),(s:Int),(l2:List (List aj)),(n:Int),(i:Int),⟨⟩⟩ hI
 dsimp only at hI ⊢
 obtain⟨rfl,rfl,rfl,h⟩:=hI
 simp (disch:=omega) only [RR]
 have g0: [a,b].getD (Int.toNat 0) default=a:=rfl
 have g1: [a,b].getD (Int.toNat 1) default=b:=rfl
 have gl:([a,b].length:Int)=2:=rfl
 refine⟨fun hi=> ?_,fun hi=> ?_⟩
 ·rcases h with⟨rfl,rfl⟩ | ⟨rfl,rfl⟩ | ⟨rfl,rfl⟩
  ·rw [g0,w64 (by omega) (by omega)]
   exact⟨by omega,by omega,fun h=>by omega,fun h=>⟨Or.inr (Or.inl ⟨by omega,by omega⟩),by omega⟩⟩
  ·rw [g1,w64 (by omega) (by omega)]
   exact⟨by omega,by omega,fun h=>by omega,fun h=>⟨Or.inr (Or.inr ⟨by omega,by omega⟩),by omega⟩⟩
  ·omega
 ·have hs:0≤s∧s≤200000000:=by omega
  refine⟨hp s (by omega) (by omega),?_⟩
  rw [hf s (by omega) (by omega)]
  refine ay (fun(y:List (List aj)×Int×Int×List aj×Unit)=>y.1=[a,b]∧y.2.1=2∧((y.2.2.1=0∧y.2.2.2.1=[])∨(y.2.2.1=1∧y.2.2.2.1=a)∨(y.2.2.1=2∧y.2.2.2.1=a++b))) (fun y=>(2-y.2.2.1).toNat)
   ⟨rfl,rfl,Or.inl ⟨rfl,rfl⟩⟩ ?_
  rintro⟨(l:List (List aj)),(n:Int),(j:Int),(o:List aj),⟨⟩⟩ hI
  dsimp only at hI ⊢
  obtain⟨rfl,rfl,h3⟩:=hI
  simp (disch:=omega) only [RR]
  refine⟨fun hj=> ?_,fun hj=> ?_⟩
  ·rcases h3 with⟨rfl,rfl⟩ | ⟨rfl,rfl⟩ | ⟨rfl,rfl⟩
   ·rw [g0]
    exact⟨by omega,by omega,by simp only [List.length_nil];omega,Or.inr (Or.inl ⟨by omega,rfl⟩),by omega⟩
   ·rw [g1]
    exact⟨by omega,by omega,by omega,Or.inr (Or.inr ⟨by omega,rfl⟩),by omega⟩
   ·omega
  ·rcases h3 with⟨rfl,rfl⟩ | ⟨rfl,rfl⟩ | ⟨rfl,rfl⟩
   ·omega
   ·omega
   ·rfl
theorem ab8 (n:Int) (h1:0≤n) (h2:n≤1073741824):XU (std 0) (n,()) (fun y=>y=([],())):=by
 dsimp only [XU,Alg.cl,Alg.cg,Alg.rb,Alg.bd,Alg.l1,Tup.q,Tup.o]
 simp (disch:=omega) only [RR]
 refine⟨fun h=>by omega,fun _ h=>⟨by omega,by omega,by rw [List.length_replicate];omega,by omega,by omega,by omega,by omega,by omega,?_⟩⟩
 rfl
theorem amf {p:Int×Unit→Bool} {f:Int×Unit→List Int×Unit} (hp:∀n:Int,0≤n→n≤1073741824→p (n,())=true) (hf:∀n:Int,0≤n→n≤1073741824→f (n,())=([],()))
  (a b:List Int) (ha:a.length≤100000000) (hb:b.length≤100000000):XV (std 0) p f ([a,b],()) (fun y=>y=(a++b,())):=by
 dsimp only [XV,Alg.cl,Alg.cg,Alg.rb,Alg.bd,Alg.l1,Tup.q,Tup.o]
 refine ay (fun(y:List (List Int)×Int×List (List Int)×Int×Int×Unit)=>y.1=[a,b]∧y.2.2.1=[a,b]∧y.2.2.2.1=2∧((y.2.2.2.2.1=0∧y.2.1=0)∨(y.2.2.2.2.1=1∧y.2.1=a.length)∨(y.2.2.2.2.1=2∧y.2.1=a.length+b.length))) (fun y=>(2-y.2.2.2.2.1).toNat)
  ⟨rfl,rfl,rfl,Or.inl ⟨rfl,rfl⟩⟩ ?_
 rintro⟨(l:List (List Int)),(s:Int),(l2:List (List Int)),(n:Int),(i:Int),⟨⟩⟩ hI
 dsimp only at hI ⊢
 obtain⟨rfl,rfl,rfl,h⟩:=hI
 simp (disch:=omega) only [RR]
 have g0: [a,b].getD (Int.toNat 0) default=a:=rfl
 have g1: [a,b].getD (Int.toNat 1) default=b:=rfl
 have gl:([a,b].length:Int)=2:=rfl
 refine⟨fun hi=> ?_,fun hi=> ?_⟩
 ·rcases h with⟨rfl,rfl⟩ | ⟨rfl,rfl⟩ | ⟨rfl,rfl⟩
  ·rw [g0,w64 (by omega) (by omega)]
   exact⟨by omega,by omega,fun h=>by omega,fun h=>⟨Or.inr (Or.inl ⟨by omega,by omega⟩),by omega⟩⟩
  ·rw [g1,w64 (by omega) (by omega)]
   exact⟨by omega,by omega,fun h=>by omega,fun h=>⟨Or.inr (Or.inr ⟨by omega,by omega⟩),by omega⟩⟩
  ·omega
 ·have hs:0≤s∧s≤200000000:=by omega
  refine⟨hp s (by omega) (by omega),?_⟩
  rw [hf s (by omega) (by omega)]
  refine ay (fun(y:List (List Int)×Int×Int×List Int×Unit)=>y.1=[a,b]∧y.2.1=2∧((y.2.2.1=0∧y.2.2.2.1=[])∨(y.2.2.1=1∧y.2.2.2.1=a)∨(y.2.2.1=2∧y.2.2.2.1=a++b))) (fun y=>(2-y.2.2.1).toNat)
   ⟨rfl,rfl,Or.inl ⟨rfl,rfl⟩⟩ ?_
  rintro⟨(l:List (List Int)),(n:Int),(j:Int),(o:List Int),⟨⟩⟩ hI
  dsimp only at hI ⊢
  obtain⟨rfl,rfl,h3⟩:=hI
  simp (disch:=omega) only [RR]
  refine⟨fun hj=> ?_,fun hj=> ?_⟩
  ·rcases h3 with⟨rfl,rfl⟩ | ⟨rfl,rfl⟩ | ⟨rfl,rfl⟩
   ·rw [g0]
    exact⟨by omega,by omega,by simp only [List.length_nil];omega,Or.inr (Or.inl ⟨by omega,rfl⟩),by omega⟩
   ·rw [g1]
    exact⟨by omega,by omega,by omega,Or.inr (Or.inr ⟨by omega,rfl⟩),by omega⟩
   ·omega
  ·rcases h3 with⟨rfl,rfl⟩ | ⟨rfl,rfl⟩ | ⟨rfl,rfl⟩
   ·omega
   ·omega
   ·rfl
theorem mOk.le {m:aj} (h:mOk m):m.atoms.length≤4:=h.2.1
theorem aT.at {p:List aj} (h:aT p) {m:aj} (hm:m∈p):mOk m:=by
 obtain⟨i,hi,rfl⟩:=List.getElem_of_mem hm
 have:=(h.1 i (by omega) (by omega)).1
 rw [show(i:Int).toNat=i from rfl,getD_lt hi]at this;exact this
theorem aT.len {p:List aj} (h:aT p):p.length≤12:=h.2.1
noncomputable def vM (a b:List aj):Bool×List aj:=if bp (aT a)&&bp (aT b)then um (a++b)else(false,[])
theorem amg {p1:List aj×Unit→Bool} {f1:List aj×Unit→Bool×Unit} (hp1:∀a,Sh a→p1 (a,())=true) (hf1:∀a,Sh a→f1 (a,())=(bp (aT a),()))
  {p2:List aj×Unit→Bool} {f2:List aj×Unit→Bool×List aj×List aj×Unit} (hp2:∀a,Sh a→Cb a→p2 (a,())=true) (hf2:∀a,Sh a→Cb a→(f2 (a,())).1=(um a).1∧(f2 (a,())).2.2.1=(um a).2)
  {p3:List (List aj)×Unit→Bool} {f3:List (List aj)×Unit→List aj×Unit} (hp3:∀a b:List aj,a.length≤100000000→b.length≤100000000→p3 ([a,b],())=true) (hf3:∀a b:List aj,a.length≤100000000→b.length≤100000000→f3 ([a,b],())=(a++b,()))
  (a b:List aj) (ha:Sh a) (hb:Sh b):XP (std 0) p1 f1 p2 f2 p3 f3 (a,b,()) (fun y=>y=((vM a b).1,(vM a b).2,())):=by
 dsimp only [XP,Alg.cl,Alg.cg,Alg.rb,Alg.bd,Alg.l1,Tup.q,Tup.o]
 simp (disch:=omega) only [RR,hp1 a ha,hf1 a ha,hp1 b hb,hf1 b hb,bK,tZ]
 unfold vM
 refine⟨fun h=> ?_,fun⟨h1,h2⟩=> ?_⟩
 ·rw [if_neg]
  rw [Bool.and_eq_true,bK,bK];rintro⟨g1,g2⟩
  rcases h with h | h
  ·exact h g1
  ·exact h g2
 ·have l1:=h1.len
  have l2:=h2.len
  rw [hp3 a b (by omega) (by omega),hf3 a b (by omega) (by omega)]
  have hs:Sh (a++b):=⟨by rw [List.length_append];omega,fun m hm=>by
   rw [List.mem_append]at hm
   rcases hm with hm | hm
   ·exact ha.2 m hm
   ·exact hb.2 m hm⟩
  have hc:Cb (a++b):=fun m hm=>by
   rw [List.mem_append]at hm
   rcases hm with hm | hm
   ·have:=(h1.at hm).1;omega
   ·have:=(h2.at hm).1;omega
  obtain⟨g1,g2⟩:=hf2 _ hs hc
  refine⟨rfl,hp2 _ hs hc,?_⟩
  rw [if_pos (by rw [dB h1,dB h2];rfl),g1,g2]
def wM (l:List Int):List Int:=l.mergeSort fun x y=>decide (x≤y)
theorem Uz (l:List Int):(wM l).length=l.length:=List.length_mergeSort l
def mulM (m n:aj):aj:=⟨m.iA*n.iA%65536,wM (m.atoms++n.atoms)⟩
def prods (a b:List aj):List aj:=a.flatMap fun m=>b.map (mulM m)
theorem QE (a b:List aj) (m:aj):prods (a++ [m]) b=prods a b++b.map (mulM m):=by simp [prods]
noncomputable def rO (a b:List aj):Bool×List aj:=if bp (aT a)&&bp (aT b)then um (prods a b)else(false,[])
theorem SG {a b:Int} (h1:0≤a) (h2:a≤65535) (h3:0≤b) (h4:b≤65535):0≤a*b∧a*b≤65535*65535:=⟨Int.mul_nonneg h1 h3,Int.mul_le_mul h2 h4 h3 (by omega)⟩
theorem amh {p1:List aj×Unit→Bool} {f1:List aj×Unit→Bool×Unit} (hp1:∀a,Sh a→p1 (a,())=true) (hf1:∀a,Sh a→f1 (a,())=(bp (aT a),()))
  {p0:Int×Unit→Bool} {f0:Int×Unit→Int×Unit} (hp0:∀a,p0 (a,())=true) (hf0:∀a,f0 (a,())=(a%65536,()))
  {p2:List aj×Unit→Bool} {f2:List aj×Unit→Bool×List aj×List aj×Unit} (hp2:∀a,Sh a→Cb a→p2 (a,())=true) (hf2:∀a,Sh a→Cb a→(f2 (a,())).1=(um a).1∧(f2 (a,())).2.2.1=(um a).2)
  {p3:List (List Int)×Unit→Bool} {f3:List (List Int)×Unit→List Int×Unit} (hp3:∀a b:List Int,a.length≤100000000→b.length≤100000000→p3 ([a,b],())=true) (hf3:∀a b:List Int,a.length≤100000000→b.length≤100000000→f3 ([a,b],())=(a++b,()))
  {p4:List Int×Unit→Bool} {f4:List Int×Unit→List Int×Unit} (hp4:∀a:List Int,a.length≤8→p4 (a,())=true) (hf4:∀a:List Int,a.length≤8→f4 (a,())=(wM a,()))
  (a b:List aj) (ha:Sh a) (hb:Sh b):X0 (std 0) p1 f1 p0 f0 p2 f2 p3 f3 p4 f4 (a,b,()) (fun y=>y=((rO a b).1,(rO a b).2,())):=by
 dsimp only [X0,Alg.cl,Alg.cg,Alg.rb,Alg.bd,Alg.l1,Tup.q,Tup.o]
 simp (disch:=omega) only [RR,hp1 a ha,hf1 a ha,hp1 b hb,hf1 b hb,bK,tZ]
 unfold rO
 refine⟨fun h=> ?_,fun⟨h1,h2⟩=> ?_⟩
 ·rw [if_neg]
  rw [Bool.and_eq_true,bK,bK];rintro⟨g1,g2⟩
  rcases h with h | h
  ·exact h g1
  ·exact h g2
 have l1:=h1.len
 have l2:=h2.len
 rw [if_pos (by rw [dB h1,dB h2];rfl)]
 have mm:∀i j:Int,0≤i→i<a.length→0≤j→j<b.length→mOk ((a).getD (i).toNat default)∧mOk ((b).getD (j).toNat default):=fun i j i1 i2 j1 j2=>⟨h1.at (kG i1 i2),h2.at (kG j1 j2)⟩
 refine ay (fun(y:List aj×Int×Int×List aj×List aj×Unit)=>y.1=a∧y.2.1=a.length∧0≤y.2.2.1∧y.2.2.1≤a.length∧y.2.2.2.1=b∧y.2.2.2.2.1=prods (a.take y.2.2.1.toNat) b∧y.2.2.2.2.1.length≤12*y.2.2.1∧Sh y.2.2.2.2.1∧Cb y.2.2.2.2.1) (fun y=>(a.length-y.2.2.1).toNat)
  ⟨rfl,rfl,by simp,by simp,rfl,rfl,by simp,⟨by simp,fun m hm=>absurd hm (by simp)⟩,fun m hm=>absurd hm (by simp)⟩ ?_
 rintro⟨(a':List aj),(n:Int),(i:Int),(b':List aj),(o:List aj),⟨⟩⟩ hI
 dsimp only at hI ⊢
 obtain⟨rfl,rfl,h3,h4,rfl,h5,h6,h7,h8⟩:=hI
 simp (disch:=omega) only [RR]
 refine⟨fun h9=>⟨by omega,by omega,?_⟩,fun h9=> ?_⟩
 ·refine ay (fun(y:List aj×Int×Int×List aj×Int×Int×List aj×List aj×aj×Unit)=>y.1=a'∧y.2.1=a'.length∧y.2.2.1=i∧y.2.2.2.1=b'∧y.2.2.2.2.1=b'.length∧0≤y.2.2.2.2.2.1∧y.2.2.2.2.2.1≤b'.length∧y.2.2.2.2.2.2.1=b'∧y.2.2.2.2.2.2.2.2.1=((a').getD (i).toNat default)
    ∧y.2.2.2.2.2.2.2.1=o++(b'.take y.2.2.2.2.2.1.toNat).map (mulM ((a').getD (i).toNat default))∧Sh y.2.2.2.2.2.2.2.1∧Cb y.2.2.2.2.2.2.2.1) (fun y=>(b'.length-y.2.2.2.2.2.1).toNat)
   ⟨rfl,rfl,rfl,rfl,rfl,by simp,by simp,rfl,rfl,by simp,h7,h8⟩ ?_
  rintro⟨(a'':List aj),(n:Int),(i':Int),(b'':List aj),(nb:Int),(j:Int),(b3:List aj),(o':List aj),(m:aj),⟨⟩⟩ hI
  dsimp only at hI ⊢
  obtain⟨rfl,rfl,rfl,rfl,rfl,k1,k2,rfl,rfl,k3,k4,k5⟩:=hI
  have lo:(o'.length:Int)≤12*i'+j:=by
   rw [k3,List.length_append,List.length_map];have:=List.length_take_le j.toNat b3;omega
  by_cases hj:j<b3.length
  ·obtain⟨m1,m2⟩:=mm i' j h3 h9 k1 hj
   have e1:=m1.le
   have e2:=m2.le
   have la:(((a'').getD (i').toNat default).atoms++((b3).getD (j).toNat default).atoms).length≤8:=by rw [List.length_append];omega
   have hm:=SG (show 0≤((a'').getD (i').toNat default).iA by have:=m1.1;omega) (by have:=m1.1;omega) (show 0≤((b3).getD (j).toNat default).iA by have:=m2.1;omega) (by have:=m2.1;omega)
   simp (disch:=omega) only [RR,hp3 ((a'').getD (i').toNat default).atoms ((b3).getD (j).toNat default).atoms (by omega) (by omega),hf3 ((a'').getD (i').toNat default).atoms ((b3).getD (j).toNat default).atoms (by omega) (by omega),hp4 _ la,hf4 _ la,hp0,hf0]
   refine⟨fun _=>⟨by omega,by omega,by simp only [List.length_cons,List.length_nil];omega,⟨by omega,by omega,?_,⟨?_,?_⟩,?_⟩,by omega⟩,fun h=>by omega⟩
   ·rw [←jm (d:=default) k1 hj rfl,List.map_append,k3,List.append_assoc];rfl
   ·rw [List.length_append];simp only [List.length_cons,List.length_nil];omega
   ·intro m hm
    rw [List.mem_append,List.mem_singleton]at hm
    rcases hm with hm | rfl
    ·exact k4.2 m hm
    ·dsimp only;rw [Uz];omega
   ·intro m hm
    rw [List.mem_append,List.mem_singleton]at hm
    rcases hm with hm | rfl
    ·exact k5 m hm
    ·dsimp only;omega
  ·simp (disch:=omega) only [RR]
   refine⟨fun h=>absurd h hj,fun _=>⟨⟨by omega,by omega,?_,by omega,k4,k5⟩,by omega⟩⟩
   rw [←jm (d:=default) h3 h9 rfl,QE,←h5,k3,List.take_of_length_le (by omega)]
 ·obtain⟨g1,g2⟩:=hf2 _ h7 h8
  refine⟨hp2 _ h7 h8,?_⟩
  rw [g1,g2,h5,List.take_of_length_le (by omega)]
noncomputable def kV (a:List aj) (n:Int):List aj:=if bp (aT a)&&inB n 0 65535 then(rO a (aX n)).2 else []
theorem G6 (n:Int):Sh (aX n):=by
 unfold aX;split
 ·exact⟨by simp,fun m hm=>by rw [List.mem_singleton]at hm;subst hm;simp⟩
 ·exact⟨by simp,fun m hm=>absurd hm (by simp)⟩
theorem ami {p1:List aj×Unit→Bool} {f1:List aj×Unit→Bool×Unit} (hp1:∀a,Sh a→p1 (a,())=true) (hf1:∀a,Sh a→f1 (a,())=(bp (aT a),()))
  {p2:Int×Unit→Bool} {f2:Int×Unit→List aj×Unit} (hp2:∀n,p2 (n,())=true) (hf2:∀n,f2 (n,())=(aX n,()))
  {p3:Int×Unit→Bool} {f3:Int×Unit→Bool×Unit} (hp3:∀a,p3 (a,())=true) (hf3:∀a,f3 (a,())=(inB a 0 65535,()))
  {p4:List aj×List aj×Unit→Bool} {f4:List aj×List aj×Unit→Bool×List aj×Unit} (hp4:∀a b,Sh a→Sh b→p4 (a,b,())=true) (hf4:∀a b,Sh a→Sh b→f4 (a,b,())=((rO a b).1,(rO a b).2,()))
  (a:List aj) (n:Int) (ha:Sh a):X3 (std 0) p1 f1 p2 f2 p3 f3 p4 f4 (a,n,()) (fun y=>y=(kV a n,())):=by
 dsimp only [X3,Alg.cl,Alg.cg,Alg.rb,Alg.bd,Alg.l1,Tup.q,Tup.o]
 simp (disch:=omega) only [RR,hp1 a ha,hf1 a ha,hp2,hf2,hp3,hf3,hp4 a _ ha (G6 n),hf4 a _ ha (G6 n)]
 unfold kV
 refine⟨fun h=> ?_,fun⟨h1,h2⟩=> ?_⟩
 ·rw [if_neg];rw [Bool.and_eq_true];rintro⟨g1,g2⟩
  rcases h with h | h
  ·rw [g1]at h;cases h
  ·rw [g2]at h;cases h
 ·rw [h1,h2];rfl
end Go.TX.F
namespace Go.TX.F
open Go Go.AE Go.TX
noncomputable def UA (op:Int) (x y:List aj):List aj×Bool:=
 if(dV x).2&& (dV y).2 then(aX (wdo op (dV x).1 (dV y).1),true)
 else if iO x y=0∧op=4 then(x,true)
 else if iO x y=0 then([],true)
 else if(dV x).2 then
  (if op=4∧(dV x).1=0 then([],true)else if(op=4∧(dV x).1=65535)∨(op=5∧(dV x).1=0)then(y,true)else([],false))
 else if(dV y).2 then
  (if op=4∧(dV y).1=0 then([],true)else if(op=4∧(dV y).1=65535)∨(op=5∧(dV y).1=0)then(x,true)else([],false))
 else([],false)
noncomputable def jF (op:Int) (x y:List aj):List aj×Bool:=
 if op=1 then((vM x y).2,(vM x y).1)else if op=2 then((vM x (kV y 65535)).2,(vM x (kV y 65535)).1)else if op=3 then((rO x y).2,(rO x y).1)else UA op x y
theorem aT.sh {l:List aj}:aT l→Sh l:=fun h=>⟨by have:=h.len;omega,fun m hm=>by have:=(h.at hm).le;omega⟩
theorem aa8 (l:List aj):Sh (um l).2:=by
 unfold um
 by_cases h:aT (nf l)
 ·rw [dB h];exact h.sh
 ·rw [gH h];exact⟨by simp,fun m hm=>absurd hm (by simp)⟩
theorem mQ:Sh []:=⟨by simp,fun m hm=>absurd hm (by simp)⟩
theorem aa9 (a b:List aj):Sh (rO a b).2:=by unfold rO;split;exact aa8 _;exact mQ
theorem G7 (a:List aj) (n:Int):Sh (kV a n):=by unfold kV;split;exact aa9 _ _;exact mQ
theorem amj {p1:List aj×List aj×Unit→Bool} {f1:List aj×List aj×Unit→Bool×Unit} (hp1:∀a b,Sh a→p1 (a,b,())=true) (hf1:∀a b,Sh a→f1 (a,b,())=(decide (iO a b=0),()))
  {p2:Int×Unit→Bool} {f2:Int×Unit→List aj×Unit} (hp2:∀n,p2 (n,())=true) (hf2:∀n,f2 (n,())=(aX n,()))
  {p3:Int×Int×Int×Unit→Bool} {f3:Int×Int×Int×Unit→Int×Unit} (hp3:∀op a b,p3 (op,a,b,())=true) (hf3:∀op a b,f3 (op,a,b,())=(wdo op a b,()))
  {p4:List aj×List aj×Unit→Bool} {f4:List aj×List aj×Unit→Bool×List aj×Unit} (hp4:∀a b,Sh a→Sh b→p4 (a,b,())=true) (hf4:∀a b,Sh a→Sh b→f4 (a,b,())=((vM a b).1,(vM a b).2,()))
  {p5:List aj×List aj×Unit→Bool} {f5:List aj×List aj×Unit→Bool×List aj×Unit} (hp5:∀a b,Sh a→Sh b→p5 (a,b,())=true) (hf5:∀a b,Sh a→Sh b→f5 (a,b,())=((rO a b).1,(rO a b).2,()))
  {p6:List aj×Int×Unit→Bool} {f6:List aj×Int×Unit→List aj×Unit} (hp6:∀a n,Sh a→p6 (a,n,())=true) (hf6:∀a n,Sh a→f6 (a,n,())=(kV a n,()))
  {p7:List aj×Unit→Bool} {f7:List aj×Unit→Int×Bool×Unit} (hp7:∀a,Sh a→p7 (a,())=true) (hf7:∀a,Sh a→f7 (a,())=((dV a).1,(dV a).2,()))
  (op:Int) (x y:List aj) (hx:Sh x) (hy:Sh y):X7 (std 0) p1 f1 p2 f2 p3 f3 p4 f4 p5 f5 p6 f6 p7 f7 (op,x,y,()) (fun z=>z=((jF op x y).1,(jF op x y).2,())):=by
 dsimp only [X7,Alg.cl,Alg.cg,Alg.rb,Alg.bd,Alg.l1,Tup.q,Tup.o]
 simp (disch:=omega) only [RR,hp1 x y hx,hf1 x y hx,hp2,hf2,hp3,hf3,hp4 x y hx hy,hf4 x y hx hy,hp4 x _ hx (G7 y 65535),hf4 x _ hx (G7 y 65535),hp5 x y hx hy,hf5 x y hx hy,hp6 y _ hy,hf6 y _ hy,hp7 x hx,hf7 x hx,hp7 y hy,hf7 y hy]
 unfold jF
 refine⟨fun h=>by rw [if_pos h],fun h=>⟨fun h1=>by rw [if_neg h,if_pos h1],fun h1=>⟨fun h2=>by rw [if_neg h,if_neg h1,if_pos h2],fun h2=> ?_⟩⟩⟩
 rw [if_neg h,if_neg h1,if_neg h2]
 unfold UA
 generalize dV x=nx
 generalize dV y=ny
 obtain⟨n,bn⟩:=nx
 obtain⟨m,bm⟩:=ny
 dsimp only
 by_cases e:iO x y=0<;>by_cases o4:op=4<;>cases bn<;>cases bm<;>simp [e,o4]
 ·by_cases c:m=0<;>by_cases c2:m=65535<;>simp [c,c2]
 ·by_cases c:n=0<;>by_cases c2:n=65535<;>simp [c,c2]
 ·by_cases c:op=5<;>by_cases c2:m=0<;>simp [c,c2]
 ·by_cases c:op=5<;>by_cases c2:n=0<;>simp [c,c2]
noncomputable def tDo (t:List Atom) (op:Int) (x y:List aj):List Atom×List aj:=
 if(jF op x y).2 then(t,(jF op x y).1)else
 if op≠2∧0<iO x y then(if(bI t ⟨4,op,y,x⟩).2<0 then([],[])else((bI t ⟨4,op,y,x⟩).1,gX (bI t ⟨4,op,y,x⟩).2))
 else(if(bI t ⟨4,op,x,y⟩).2<0 then([],[])else((bI t ⟨4,op,x,y⟩).1,gX (bI t ⟨4,op,x,y⟩).2))
noncomputable def tOk (t:List Atom) (op:Int) (x y:List aj):Bool:=(jF op x y).2 || !decide ((if op≠2∧0<iO x y then(bI t ⟨4,op,y,x⟩).2 else(bI t ⟨4,op,x,y⟩).2)<0)
theorem amk {p1:List aj×List aj×Unit→Bool} {f1:List aj×List aj×Unit→Int×Unit} (hp1:∀a b,Sh a→p1 (a,b,())=true) (hf1:∀a b,Sh a→f1 (a,b,())=(iO a b,()))
  {p2:Int×List aj×List aj×Unit→Bool} {f2:Int×List aj×List aj×Unit→List aj×Bool×Unit} (hp2:∀op x y,Sh x→Sh y→p2 (op,x,y,())=true) (hf2:∀op x y,Sh x→Sh y→f2 (op,x,y,())=((jF op x y).1,(jF op x y).2,()))
  {p3:List Atom×Atom×Unit→Bool} {f3:List Atom×Atom×Unit→List Atom×Int×Unit} (hp3:∀t a,t.length<1000000000→ShA a→p3 (t,a,())=true) (hf3:∀t a,t.length<1000000000→ShA a→f3 (t,a,())=((bI t a).1,(bI t a).2,()))
  {p4:Int×Unit→Bool} {f4:Int×Unit→List aj×Unit} (hp4:∀n,p4 (n,())=true) (hf4:∀n,f4 (n,())=(gX n,()))
  (t:List Atom) (op:Int) (x y:List aj) (ht:t.length<1000000000) (hx:Sh x) (hy:Sh y):X8 (std 0) p1 f1 p2 f2 p3 f3 p4 f4 (t,op,x,y,()) (fun z=>z.1=(tDo t op x y).1∧z.2.1=(tDo t op x y).2∧z.2.2.1=tOk t op x y):=by
 have s1:ShA ⟨4,op,x,y⟩:=⟨hx,hy⟩
 have s2:ShA ⟨4,op,y,x⟩:=⟨hy,hx⟩
 dsimp only [X8,Alg.cl,Alg.cg,Alg.rb,Alg.bd,Alg.l1,Tup.q,Tup.o]
 simp (disch:=omega) only [RR,hp1 x y hx,hf1 x y hx,hp2 op x y hx hy,hf2 op x y hx hy,hp3 t _ ht s1,hf3 t _ ht s1,hp3 t _ ht s2,hf3 t _ ht s2,hp4,hf4]
 unfold tDo tOk
 refine⟨fun h=>by rw [if_pos h,h];exact⟨rfl,rfl,rfl⟩,fun h=> ?_⟩
 rw [if_neg (by rw [h];simp),h,Bool.false_or]
 generalize bI t ⟨4,op,y,x⟩=r1
 generalize bI t ⟨4,op,x,y⟩=r2
 generalize iO x y=o
 by_cases c1:op=2<;>by_cases c2:0<o<;>by_cases c3:r1.2<0<;>by_cases c4:r2.2<0<;>simp [c1,c2,c3,c4]
theorem abb:ShT []:=⟨by simp,fun m hm=>absurd hm (by simp)⟩
theorem Jb {α:Type} {d:α} {a b:List α} (h:a.length=b.length) (h2:All a.length (fun i=>a.getD i.toNat d=b.getD i.toNat d)):a=b:=by
 refine List.ext_getElem h fun i h3 h4=> ?_
 have:=h2 i (by omega) (by omega)
 dsimp only at this
 rw [show(i:Int).toNat=i from rfl,getD_lt h3,getD_lt h4]at this;exact this
end Go.TX.F
namespace Go.TX.F
open Go Go.AE Go.TX
theorem Yw {a b:Int}:or2 a b=0↔a=0∧b=0:=by unfold or2;split<;>omega
theorem G8 {a b:aj}:Nw a b=0↔a=b:=by
 unfold Nw;rw [Yw,jW,lS]
 constructor
 ·rintro⟨h1,h2⟩;cases a;cases b;simp_all
 ·rintro rfl;exact⟨rfl,rfl⟩
theorem G9:∀ {a b:List aj},a.length=b.length→E9 a b=0→a=b
 | [],[],_,_=>rfl | [],_::_,h,_=>by simp at h
 | _::_,[],h,_=>by simp at h
 | a::az,b::bs,hl,h=>by
  simp only [E9]at h
  split at h
  ·exact absurd h (by assumption)
  ·rename_i h1
   rw [G8.1 (Classical.not_not.1 h1),G9 (by simpa using hl) h]
theorem Hg:∀a:List aj,E9 a a=0
 | []=>rfl
 | a::az=>by simp only [E9,G8.2 rfl];simp [Hg az]
theorem lU {a b:List aj}:iO a b=0↔a=b:=by
 unfold iO
 constructor
 ·intro h
  split at h
  ·exact absurd h (by assumption)
  ·rename_i h1
   have:=lS.1 (Classical.not_not.1 h1)
   exact G9 (by omega) h
 ·rintro rfl;rw [if_neg (by rw [lS.2 rfl];simp),Hg]
theorem Hl {a b:Atom}:uh a b=true↔a=b:=by
 unfold uh
 rw [Bool.and_eq_true,Bool.and_eq_true,Bool.and_eq_true,decide_eq_true_eq,decide_eq_true_eq,decide_eq_true_eq,decide_eq_true_eq,lU,lU]
 constructor
 ·rintro⟨⟨⟨h1,h2⟩,h3⟩,h4⟩;cases a;cases b;simp_all
 ·rintro rfl;exact⟨⟨⟨rfl,rfl⟩,rfl⟩,rfl⟩
theorem yX {α:Type} {d:α} {l:List α} {G:α→Prop}:All l.length (fun i=>G (l.getD i.toNat d))↔∀m∈l,G m:=by
 constructor
 ·intro h m hm
  obtain⟨i,hi,rfl⟩:=List.getElem_of_mem hm
  have:=h i (by omega) (by omega)
  dsimp only at this
  rw [show(i:Int).toNat=i from rfl,getD_lt hi]at this;exact this
 ·intro h i h1 h2
  exact h _ (kG h1 h2)
theorem bV {p:List aj} {n:Int}:bf p n↔∀m∈p,∀k∈m.atoms,k<n:=by
 unfold bf QB
 rw [yX (d:=default) (G:=fun m:aj=>All m.atoms.length (fun i=>¬n≤m.atoms.getD i.toNat default))]
 refine forall_congr' fun m=>forall_congr' fun _=> ?_
 rw [yX (d:=default) (G:=fun k:Int=>¬n≤k)]
 exact forall_congr' fun k=>forall_congr' fun _=>by omega
theorem lQ {α:Type} {d:α} {R:α→α→Prop} (tr:∀ {a b c},R a b→R b c→R a c) {l:List α}:l.Pairwise R↔∀i:Int,0<i→i<l.length→R (l.getD (i-1).toNat d) (l.getD i.toNat d):=by
 rw [List.pairwise_iff_getElem]
 constructor
 ·intro h i h1 h2
  rw [getD_lt (by omega),getD_lt (by omega)]
  exact h _ _ (by omega) (by omega) (by omega)
 ·intro h i j hi hj hij
  obtain⟨n,rfl⟩:∃n,j=i+1+n:=⟨j-i-1,by omega⟩
  clear hij
  induction n with
  | zero=>
   have:=h (i+1:Nat) (by omega) (by omega)
   rw [show(((i+1:Nat):Int)-1).toNat=i by omega,show(((i+1:Nat):Int)).toNat=i+1 by omega,getD_lt hi,getD_lt (by omega)]at this
   exact this
  | succ n ih=>
   have h1:=ih (by omega)
   have:=h (i+1+n+1:Nat) (by omega) (by omega)
   rw [show(((i+1+n+1:Nat):Int)-1).toNat=i+1+n by omega,show(((i+1+n+1:Nat):Int)).toNat=i+1+n+1 by omega,getD_lt (by omega),getD_lt (by omega)]at this
   exact tr h1 this
theorem Jc {l:List Int}:Srt l↔l.Pairwise (· ≤ ·):=by
 rw [lQ (d:=default) (R:=fun a b:Int=>a≤b) (fun h1 h2=>Int.le_trans h1 h2)]
 unfold Srt
 constructor
 ·intro h i h1 h2
  have:=h (i-1) (by omega) (by omega)
  dsimp only at this
  rw [show i-1+1=i by omega]at this;exact this
 ·intro h i h1 h2
  have:=h (i+1) (by omega) (by omega)
  rw [show i+1-1=i by omega]at this;exact this
theorem Ho {a b c:aj} (h1:lt a b) (h2:lt b c):lt a c:=dH (le_of_lt h1) h2
def aok (l:List Int):Prop:=l.Pairwise (· ≤ ·)∧∀k∈l,0≤k∧k≤199
theorem lV {p:List aj}:aT p↔Nf p∧p.length≤12∧∀m∈p,m.atoms.length≤4∧aok m.atoms:=by
 constructor
 ·rintro⟨h1,h2,h3,h4⟩
  have h1':∀m∈p,mOk m:=yX (d:=default) (G:=mOk).1 (fun i g1 g2=>(h1 i g1 g2).1)
  have h4':∀m∈p,¬(0<m.atoms.length∧m.atoms.getD 0 default<0):=yX (d:=default) (G:=fun m:aj=>¬(0<m.atoms.length∧m.atoms.getD 0 default<0)).1 h4
  refine⟨⟨(lQ (d:=default) (R:=lt) Ho).2 fun i g1 g2=>(h1 i (by omega) g2).2 g1,fun m hm=>(h1' m hm).1⟩,h2,fun m hm=>⟨(h1' m hm).2.1,Jc.1 (h1' m hm).2.2,fun k hk=>⟨?_,by have:=bV.1 h3 m hm k hk;omega⟩⟩⟩
  have hs:=Jc.1 (h1' m hm).2.2
  have hn:=h4' m hm
  cases ha:m.atoms with
  | nil=>rw [ha]at hk;exact absurd hk (by simp)
  | cons b l=>
   rw [ha]at hk hs hn
   simp at hn
   rcases List.mem_cons.1 hk with rfl | hk
   ·exact hn
   ·have:=List.rel_of_pairwise_cons hs hk;omega
 ·rintro⟨h1,h2,h3⟩
  refine⟨fun i g1 g2=>⟨⟨h1.co _ (kG g1 g2),(h3 _ (kG g1 g2)).1,Jc.2 (h3 _ (kG g1 g2)).2.1⟩,fun g3=>(lQ (d:=default) (R:=lt) Ho).1 h1.ss i g3 g2⟩,h2,bV.2 fun m hm k hk=>by have:=((h3 m hm).2.2 k hk);omega,?_⟩
  refine yX (d:=default) (G:=fun m:aj=>¬(0<m.atoms.length∧m.atoms.getD 0 default<0)).2 fun m hm=> ?_
  rintro⟨g1,g2⟩
  have:=(h3 m hm).2.2 _ (kG (i:=0) (d:=default) (xs:=m.atoms) (by omega) (by omega))
  rw [show Int.toNat 0=0 from rfl]at this;omega
theorem Yx {l:List aj} {k:List Int} (h:cf l k≠0):∃m∈l,m.atoms=k:=Classical.byContradiction fun h2=>h (iR fun m hm e=>h2 ⟨m,hm,e⟩)
theorem Nf.cf {o:List aj} (h:Nf o) {m:aj} (hm:m∈o):cf o m.atoms=m.iA:=by
 induction o with
 | nil=>exact absurd hm (by simp)
 | cons a o ih=>
  rw [eU]
  rcases List.mem_cons.1 hm with rfl | hm
  ·rw [if_pos rfl,iR (fun m' hm'=>((List.rel_of_pairwise_cons h.ss hm').ne).symm)];omega
  ·rw [if_neg (List.rel_of_pairwise_cons h.ss hm).ne,ih ⟨h.ss.tail,fun m hm=>h.co m (by simp [hm])⟩ hm];omega
theorem Nf.from {o l:List aj} (h:Nf o) (h2:∀k,F.cf o k=F.cf l k%65536) {m:aj} (hm:m∈o):∃m'∈l,m'.atoms=m.atoms:=by
 refine Yx fun e=> ?_
 have:=h2 m.atoms
 rw [h.cf hm,e]at this
 have:=h.co m hm;omega
theorem Nf.bnd {o:List aj} (h:Nf o) (k:List Int):0≤F.cf o k∧F.cf o k≤65535:=by
 by_cases e:F.cf o k=0
 ·omega
 ·obtain⟨m,hm,rfl⟩:=Yx e
  rw [h.cf hm];have:=h.co m hm;omega
end Go.TX.F
namespace Go.TX.F
open Go Go.AE Go.TX
theorem Yy (a b c:Int):O9 (std 0) (a,b,c,()) (fun y=>y=(inB a b c,())):=by
 dsimp only [O9,Alg.cl,Alg.cg,Alg.rb,Alg.bd,Alg.l1,Tup.q,Tup.o]
 simp (disch:=omega) only [RR]
 rfl
theorem Yz (a:Int):Pg (std 0) (a,()) (fun y=>y=(inB a 0 65535,())):=by
 dsimp only [Pg,Alg.cl,Alg.cg,Alg.rb,Alg.bd,Alg.l1,Tup.q,Tup.o]
 simp (disch:=omega) only [RR]
 refine congrArg (fun b=>(b,())) ?_
 rw [Bool.eq_iff_iff,eX,Bool.and_eq_true,decide_eq_true_eq,decide_eq_true_eq];omega
theorem YA (a:Int):a.tmod 65536=if 0≤a then a%65536 else- (-a%65536):=by
 split
 ·rw [Int.tmod_eq_emod_of_nonneg (by omega)]
 ·have:=Int.neg_tmod (-a) 65536
  rw [Int.neg_neg]at this;rw [this,Int.tmod_eq_emod_of_nonneg (by omega)]
theorem YB (a:Int):Pb (std 0) (a,()) (fun y=>y=(a%65536,())):=by
 dsimp only [Pb,Alg.cl,Alg.cg,Alg.rb,Alg.bd,Alg.l1,Tup.q,Tup.o]
 simp only [Yo]
 by_cases h:0≤a
 ·rw [show a.tmod 65536=a%65536 by rw [YA,if_pos h]]
  simp (disch:=omega) only [RR]
  refine⟨by omega,fun h2=> ?_⟩
  exfalso;omega
 ·rw [show a.tmod 65536= - (-a%65536) by rw [YA,if_neg h]]
  simp (disch:=omega) only [RR]
  refine⟨by omega,fun h2=> ?_,fun h2=> ?_⟩
  ·rw [show-(-a%65536)+65536=a%65536 by omega]
  ·rw [show-(-a%65536)=a%65536 by omega]
end Go.TX.F
namespace Go.TX.F
open Go Go.AE Go.TX
theorem YC (G:Int→Prop):∀n:Nat,∃r,Idx n G r
 | 0=>⟨-1,Or.inl ⟨rfl,All.zero⟩⟩
 | n+1=>by
  obtain⟨r,h⟩:=YC G n
  rcases h with⟨h1,h2⟩ | ⟨h1,h2,h3,h4⟩
  ·by_cases g:G n
   ·exact⟨n,Or.inr ⟨by omega,by omega,g,h2⟩⟩
   ·exact⟨-1,Or.inl ⟨rfl,by have:=h2.snoc g;exact this.le (by omega)⟩⟩
  ·exact⟨r,Or.inr ⟨h1,by omega,h3,h4⟩⟩
theorem QF (G:Int→Prop) (n:Nat):Idx n G (idxOf n G):=by
 obtain⟨r,h⟩:=YC G n
 rw [←h.eq];exact h
theorem mR (t:List Atom) (a:Atom):Idx t.length (fun i=>a=t.getD i.toNat default) (wL t a):=by
 have:=QF (fun i=>uh a (t.getD i.toNat default)=true) t.length
 simp only [Hl]at this
 unfold wL;simp only [Hl];exact this
theorem vE {t:List Atom}:aI t↔All t.length (fun i=>kH (t.getD i.toNat default) i∧All i (fun j=>¬t.getD i.toNat default=t.getD j.toNat default))∧t.length≤200:=by
 unfold aI
 refine and_congr ⟨fun h i h1 h2=>⟨(h i h1 h2).1,?_⟩,fun h i h1 h2=>⟨(h i h1 h2).1,?_⟩⟩ Iff.rfl
 ·have:=mR t (t.getD i.toNat default)
  rw [(h i h1 h2).2]at this
  rcases this with⟨g1,_⟩ | ⟨_,_,_,g⟩
  ·omega
  ·exact g
 ·exact((mR t (t.getD i.toNat default)).uniq (Or.inr ⟨h1,h2,rfl,(h i h1 h2).2⟩))
theorem afG {p1:Int×Unit→Bool} {f1:Int×Unit→Bool×Unit} (hp1:∀a,p1 (a,())=true) (hf1:∀a,f1 (a,())=(inB a 0 65535,()))
  {p2:Int×Unit→Bool} {f2:Int×Unit→Int×Unit} (hp2:∀a,p2 (a,())=true) (hf2:∀a,f2 (a,())=(a%65536,())) (op a b:Int):
  Pp (std 0) p2 f2 p1 f1 (op,a,b,()) (fun y=>y=(wdo op a b,())):=by
 dsimp only [Pp,Alg.cl,Alg.cg,Alg.rb,Alg.bd,Alg.l1,Tup.q,Tup.o]
 simp (disch:=omega) only [RR,hp1,hf1,hp2,hf2,QC,QD,eX,rz]
 by_cases ha:(0≤a∧a≤65535)∧(0≤b∧b≤65535)
 ·have hm:0≤a*b∧a*b≤65535*65535:=⟨Int.mul_nonneg ha.1.1 ha.2.1,Int.mul_le_mul ha.1.2 ha.2.2 ha.2.1 (by omega)⟩
  rw [w64 (x:=a+b) (by omega) (by omega),w64 (x:=a-b) (by omega) (by omega),w64 (x:=a*b) (by omega) (by omega)]
  unfold wdo
  rw [if_pos ha]
  refine⟨fun h=>absurd h (by omega),fun _=>⟨fun h=> ?_,fun h=>⟨fun h1=> ?_,fun h1=>⟨fun h2=> ?_,fun h2=>⟨fun h3=> ?_,fun h3=>⟨fun h4=> ?_,fun h4=> ?_⟩⟩⟩⟩⟩⟩<;>(subst_vars;first | rfl | simp only [if_true,if_false, *])
 ·refine⟨fun h=> ?_,fun h=>absurd h ?_⟩
  ·unfold wdo;rw [if_neg ha]
  ·exact ha
end Go.TX.F
namespace Go.TX.F
open Go Go.AE Go.TX
theorem Hq {p:List aj} {n m:Int} (h:bf p n) (h2:n≤m):bf p m:=bV.2 fun a ha k hk=>by have:=bV.1 h a ha k hk;omega
def YD (op n:Int) (y:List aj):List aj×Bool:=if op=4∧n=0 then([],true)else if(op=4∧n=65535)∨(op=5∧n=0)then(y,true)else([],false)
theorem abd (op:Int) (x y:List aj):UA op x y=if(dV x).2&& (dV y).2 then(aX (wdo op (dV x).1 (dV y).1),true)
  else if iO x y=0 then(if op=4 then(x,true)else([],true))else if(dV x).2 then YD op (dV x).1 y else if(dV y).2 then YD op (dV y).1 x else([],false):=by
 unfold UA YD
 by_cases c1:iO x y=0<;>by_cases c2:op=4<;>simp [c1,c2]
end Go.TX.F
namespace Go.TX.F
open Go Go.AE Go.TX
structure Plus (l:List aj) (m:aj) (o:List aj):Prop where
 nf:Nf o
 cf:∀k,cf o k=F.cf (l++ [m]) k%65536
 len:o.length≤l.length+1
end Go.TX.F
namespace Go.TX.F
open Go Go.AE Go.TX
theorem Fb {a o:List Int} (h:o.Pairwise (· ≤ ·)) (hp:o.Perm a):o=wM a:=by
 refine List.Perm.eq_of_pairwise (le:=fun x y:Int=>x≤y) (fun a b _ _ h1 h2=>Int.le_antisymm h1 h2) h ?_ (hp.trans (List.mergeSort_perm a _).symm)
 have:=List.pairwise_mergeSort (le:=fun x y:Int=>decide (x≤y)) (fun a b c h1 h2=>by simp at*;omega) (fun a b=>by simp;omega) a
 exact this.imp (fun h=>by simpa using h)
end Go.TX.F
namespace Go.TX.F
open Go Go.AE Go.TX
theorem aT.nf {p:List aj} (h:aT p):Nf p:=(lV.1 h).1
theorem aT.aok {p:List aj} (h:aT p) {m:aj} (hm:m∈p):m.atoms.length≤4∧F.aok m.atoms:=(lV.1 h).2.2 m hm
end Go.TX.F
namespace Go.TX.F
open Go Go.AE Go.TX
theorem Nz {m:aj} (n:Int) (h:aok m.atoms):mulM m ⟨n,[]⟩=⟨m.iA*n%65536,m.atoms⟩:=by
 unfold mulM
 rw [←Fb (a:=m.atoms++ []) (o:=m.atoms) h.1 (by simp)]
theorem Hr (a:List aj) (n:aj):prods a [n]=a.map (fun m=>mulM m n):=by
 induction a with
 | nil=>rfl
 | cons x a ih=>simp only [prods,List.flatMap_cons,List.map_cons,List.map_nil]at ih ⊢;rw [ih];rfl
theorem bU:aT []:=lV.2 ⟨⟨List.Pairwise.nil,fun m hm=>absurd hm (by simp)⟩,by simp,fun m hm=>absurd hm (by simp)⟩
theorem cZ (n:Int):aT (aX n):=by
 unfold aX;split
 ·refine lV.2 ⟨⟨List.pairwise_singleton _ _,fun m hm=> ?_⟩,by simp,fun m hm=> ?_⟩
  ·rw [List.mem_singleton]at hm;subst hm;assumption
  ·rw [List.mem_singleton]at hm;subst hm;exact⟨by simp,List.Pairwise.nil,fun k hk=>absurd hk (by simp)⟩
 ·exact bU
theorem qL (n:Int):aT (gX n):=by
 unfold gX;split
 ·refine lV.2 ⟨⟨List.pairwise_singleton _ _,fun m hm=> ?_⟩,by simp,fun m hm=> ?_⟩
  ·rw [List.mem_singleton]at hm;subst hm;dsimp only;omega
  ·rw [List.mem_singleton]at hm;subst hm;exact⟨by simp,List.pairwise_singleton _ _,fun k hk=>by rw [List.mem_singleton]at hk;omega⟩
 ·exact bU
theorem YE (l:List aj):(Nf (nf l)∧∀k,cf (nf l) k=cf l k%65536)∨nf l=[]:=by
 by_cases he:∃o,Nf o∧∀k,cf o k=cf l k%65536
 ·obtain⟨o,h1,h2⟩:=he
  rw [Yv h1 h2];exact Or.inl ⟨h1,h2⟩
 ·right;unfold nf;rw [dif_neg he]
theorem YF {l:List aj} {n:Int} (h:bf l n):bf (nf l) n:=by
 rcases YE l with⟨h1,h2⟩ | h1
 ·refine bV.2 fun m hm k hk=> ?_
  obtain⟨m',g1,g2⟩:=h1.from h2 hm
  exact bV.1 h m' g1 k (g2▸hk)
 ·rw [h1];exact bV.2 fun m hm=>absurd hm (by simp)
theorem iI (n:Int):bf [] n:=bV.2 fun m hm=>absurd hm (by simp)
theorem SH (l:List aj):aT (um l).2:=by
 unfold um
 by_cases h:aT (nf l)
 ·rw [dB h];exact h
 ·rw [gH h];exact bU
theorem Fe {l:List aj} {n:Int} (h:bf l n):bf (um l).2 n:=by
 unfold um
 dsimp only
 split
 ·exact YF h
 ·exact iI n
theorem UC {a b:List aj} {n:Int} (h1:bf a n) (h2:bf b n):bf (a++b) n:=bV.2 fun m hm k hk=>by
 rw [List.mem_append]at hm
 rcases hm with hm | hm
 ·exact bV.1 h1 m hm k hk
 ·exact bV.1 h2 m hm k hk
theorem NA {a b:List aj} {n:Int} (h1:bf a n) (h2:bf b n):bf (prods a b) n:=bV.2 fun m hm k hk=>by
 unfold prods at hm
 rw [List.mem_flatMap]at hm
 obtain⟨x,hx,hm⟩:=hm
 rw [List.mem_map]at hm
 obtain⟨y,hy,rfl⟩:=hm
 have:k∈x.atoms++y.atoms:=List.mem_mergeSort.1 hk
 rw [List.mem_append]at this
 rcases this with hk | hk
 ·exact bV.1 h1 x hx k hk
 ·exact bV.1 h2 y hy k hk
theorem SK (a b:List aj):aT (vM a b).2:=by unfold vM;split;exact SH _;exact bU
theorem abe (a b:List aj):aT (rO a b).2:=by unfold rO;split;exact SH _;exact bU
theorem Fg {a b:List aj} {n:Int} (h1:bf a n) (h2:bf b n):bf (vM a b).2 n:=by unfold vM;split;exact Fe (UC h1 h2);exact iI n
theorem Fh {a b:List aj} {n:Int} (h1:bf a n) (h2:bf b n):bf (rO a b).2 n:=by unfold rO;split;exact Fe (NA h1 h2);exact iI n
theorem uo (c n:Int):bf (aX c) n:=bV.2 fun m hm k hk=>by
 unfold aX at hm;split at hm
 ·rw [List.mem_singleton]at hm;subst hm;exact absurd hk (by simp)
 ·exact absurd hm (by simp)
theorem qM {k n:Int} (h:k<n):bf (gX k) n:=bV.2 fun m hm j hj=>by
 unfold gX at hm;split at hm
 ·rw [List.mem_singleton]at hm;subst hm;rw [List.mem_singleton]at hj;omega
 ·exact absurd hm (by simp)
theorem aI.sh {t:List Atom} (h:aI t):ShT t:=⟨by have:=h.2;omega,fun a ha=>by
 obtain⟨i,hi,rfl⟩:=List.getElem_of_mem ha
 have:=(h.1 i (by omega) (by omega)).1
 rw [show(i:Int).toNat=i from rfl,getD_lt hi]at this
 unfold kH at this
 split at this
 ·exact⟨this.2.1.sh,this.2.2.1.sh⟩
 ·rw [ShA,this.1.1,this.1.2];exact⟨mQ,mQ⟩⟩
theorem BG {t:List Atom} {a:Atom} (h:aI t) (h2:t.length<200):aI (bI t a).1∧t.length≤(bI t a).1.length∧(bI t a).1.length≤t.length+1∧(kH a t.length→0≤(bI t a).2):=by
 have hsp:=mR t a
 unfold bI
 split
 ·rename_i h3;exact⟨h,Nat.le_refl _,Nat.le_succ _,fun _=>h3⟩
 ·rename_i h3
  split
  ·rename_i h4;exact⟨h,Nat.le_refl _,Nat.le_succ _,fun h5=>by rcases h4 with h4 | h4;exact absurd h5 h4;omega⟩
  ·rename_i h4
   have h5:kH a t.length:=Classical.byContradiction fun h5=>h4 (Or.inl h5)
   refine⟨vE.2 ⟨?_,by rw [List.length_append];simp only [List.length_cons,List.length_nil];omega⟩,by rw [List.length_append];exact Nat.le_add_right _ _,by rw [List.length_append];exact Nat.le_refl _,fun _=>by dsimp only;omega⟩
   have hl:((t++ [a]).length:Int)=t.length+1:=by rw [List.length_append];rfl
   have g1:∀i:Int,0≤i→i<t.length→(t++ [a]).getD i.toNat default=t.getD i.toNat default:=fun i i1 i2=>by
    rw [getD_lt (show i.toNat< (t++ [a]).length by omega),getD_lt (show i.toNat<t.length by omega),List.getElem_append_left]
   have g2:(t++ [a]).getD ((t.length:Int)).toNat default=a:=by
    rw [getD_lt (show((t.length:Int)).toNat< (t++ [a]).length by omega)];simp
   rw [hl]
   intro i i1 i2
   dsimp only
   by_cases i3:i<t.length
   ·rw [g1 i i1 i3]
    have:=(vE.1 h).1 i i1 i3
    exact⟨this.1,fun j j1 j2=>by dsimp only;rw [g1 j j1 (by omega)];exact this.2 j j1 j2⟩
   ·have:i=t.length:=by omega
    subst this
    rw [g2]
    refine⟨h5,fun j j1 j2=> ?_⟩
    dsimp only;rw [g1 j j1 j2]
    rcases hsp with⟨_,g⟩ | ⟨g,_⟩
    ·exact g j j1 j2
    ·exact absurd g h3
end Go.TX.F
namespace Go.TX.F
open Go Go.AE Go.TX
def By (b:List Int):Prop:=∀z∈b,0≤z∧z≤255
structure Bt (b:List Int):Prop where
 len:b.length≤2000
 rng:By b
theorem By.at {b:List Int} (h:By b) (n:Nat):0≤b.getD n default∧b.getD n default≤255:=by
 by_cases h1:n<b.length
 ·rw [getD_lt h1];exact h _ (List.getElem_mem _)
 ·simp only [List.getD,List.getElem?_eq_none (by omega:b.length≤n)];decide
theorem YG (b:List Int) (hb:By b) (hl:b.length<1000000000):O7 (std 0) (b,()) (fun y=>Bt y.1∧y.2.1=0):=by
 dsimp only [O7,Alg.cl,Alg.cg,Alg.rb,Alg.bd,Alg.l1,Tup.q,Tup.o]
 simp (disch:=omega) only [RR]
 refine⟨fun h=>⟨by omega,by omega,by omega,⟨?_,?_⟩⟩,fun h=>⟨by omega,hb⟩⟩
 ·rw [List.length_drop,List.length_take];omega
 ·intro z hz;exact hb z (List.mem_of_mem_take (List.mem_of_mem_drop hz))
theorem afH {a b:Int} (h1:0≤a) (h2:a<4611686018427387904) (h3:0≤b) (h4:b<4611686018427387904):0≤iT .xor .i64 a b∧iT .xor .i64 a b<4611686018427387904:=by
 have e:((2^IntKind.i64.bits:Nat):Int)=18446744073709551616:=by decide
 have e2:iT .xor .i64 a b=((a.toNat^^^b.toNat:Nat):Int):=by
  unfold iT;dsimp only
  rw [BitVec.toNat_xor,BitVec.toNat_ofInt,BitVec.toNat_ofInt,e,show a%18446744073709551616=a by omega,show b%18446744073709551616=b by omega]
  have:=Nat.xor_lt_two_pow (show a.toNat<2^62 by omega) (show b.toNat<2^62 by omega)
  rw [w64 (by omega) (by omega)]
 rw [e2]
 have:=Nat.xor_lt_two_pow (show a.toNat<2^62 by omega) (show b.toNat<2^62 by omega)
 omega
theorem BH {a b:Int} (h:0≤a):a.tmod b=a%b:=Int.tmod_eq_emod_of_nonneg h
theorem SL {a b:Int} (h:0≤a):a.tdiv b=a/b:=Int.tdiv_eq_ediv_of_nonneg h
def Pk (n:Int) (b:List Int) (p:Int) (y:Int×List Int×Int×Unit):Prop:=y.2.1=b∧y.2.2.1=p+1∧0≤y.1∧(y.1<n∨y.1=0)
theorem YH (n:Int) (b:List Int) (p:Int) (hb:Bt b) (h1:0≤p) (h2:p<1000000000):O8 (std 0) (n,b,p,()) (fun y=>Pk n b p y):=by
 have hl:=hb.1
 have cvu:∀k:Nat,IntKind.i64.wrap (b.getD k default)=b.getD k default:=fun k=>by have:=hb.2.at k;exact w64 (by omega) (by omega)
 dsimp only [O8,Alg.cl,Alg.cg,Alg.rb,Alg.bd,Alg.l1,Tup.q,Tup.o]
 simp (disch:=omega) only [RR,cvu]
 refine⟨fun h=>⟨rfl,rfl,by omega,Or.inr rfl⟩,fun⟨h3,h4⟩=> ?_⟩
 have e1:p+1-1=p:=by omega
 rw [e1]
 refine⟨fun h=>⟨by omega,by omega,by omega,?_⟩,fun h=> ?_⟩
 ·have:=hb.2.at p.toNat
  rw [BH this.1]
  exact⟨rfl,rfl,Int.emod_nonneg _ (by omega),Or.inl (Int.emod_lt_of_pos _ (by omega))⟩
 ·have hb0:(0:Int)<b.length:=by omega
  have k1:=Int.emod_nonneg p (show(b.length:Int)≠0 by omega)
  have k2:=Int.emod_lt_of_pos p hb0
  have k3:=Int.emod_nonneg (p*7+3) (show(b.length:Int)≠0 by omega)
  have k4:=Int.emod_lt_of_pos (p*7+3) hb0
  have k5:0≤p/b.length:=Int.ediv_nonneg h1 (by omega)
  have k6:p/b.length≤p:=Int.ediv_le_self _ h1
  simp (disch:=omega) only [w64,BH,SL]
  have q1:=hb.2.at (p%b.length).toNat
  have q2:=hb.2.at ((p*7+3)%b.length).toNat
  generalize (b.getD (p%b.length).toNat default)=u at q1 ⊢
  generalize (b.getD ((p*7+3)%b.length).toNat default)=v at q2 ⊢
  generalize p/b.length=w at k5 k6 ⊢
  simp (disch:=omega) only [w64,BH,SL]
  have q:=afH (a:=u*131+v*1117+p*29+w*53) (b:=(u*131+v*1117+p*29+w*53)/64) (by omega) (by omega) (by omega) (by omega)
  rw [QD]
  generalize iT .xor .i64 (u*131+v*1117+p*29+w*53) ((u*131+v*1117+p*29+w*53)/64)=g at q ⊢
  rw [BH q.1]
  exact⟨h4,k1,k2,h4,k3,k4,h4,by omega,by omega,rfl,rfl,Int.emod_nonneg _ (by omega),Or.inl (Int.emod_lt_of_pos _ (by omega))⟩
theorem afI {p1:Int×List Int×Int×Unit→Bool} {f1:Int×List Int×Int×Unit→Int×List Int×Int×Unit} (hp1:∀n b p,Bt b→0≤p→p<1000000000→p1 (n,b,p,())=true) (hf1:∀n b p,Bt b→0≤p→p<1000000000→Pk n b p (f1 (n,b,p,())))
  (n:Int) (b:List Int) (p:Int) (hb:Bt b) (h1:0≤p) (h2:p<1000000000):Pf (std 0) p1 f1 (n,b,p,()) (fun y=>y.2.1=b∧y.2.2.1=p+1):=by
 obtain⟨e1,e2,_⟩:=hf1 n b p hb h1 h2
 dsimp only [Pf,Alg.cl,Alg.cg,Alg.rb,Alg.bd,Alg.l1,Tup.q,Tup.o]
 simp (disch:=omega) only [RR,hp1 n b p hb h1 h2,e1,e2]
end Go.TX.F
namespace Go.TX.F
open Go Go.AE Go.TX
structure aqM (n:Int) (b:List Int) (p:Int) (y:List Int×Int×List aj×Unit):Prop where
 b:y.1=b
 lo:p≤y.2.1
 hi:y.2.1≤p+200
 ok:aT y.2.2.1
 un:bf y.2.2.1 n
end Go.TX.F
namespace Go.TX.F
open Go Go.AE Go.TX
structure aqR (b:List Int) (p n:Int) (y:List Int×Int×List Atom×Unit):Prop where
 b:y.1=b
 lo:p≤y.2.1
 hi:y.2.1≤p+10000
 sh:ShT y.2.2.1
 ne:0<y.2.2.1.length
 le:(y.2.2.1.length:Int)≤n
end Go.TX.F
namespace Go.TX.F
open Go Go.AE Go.TX
theorem yY {l o:List aj} (h:aT o) (h2:∀k,cf o k=cf l k%65536):um l=(true,o):=by
 unfold um;rw [Yv h.nf h2,dB h,if_pos rfl]
theorem Fj {x:List aj} (h:aT x):aT (kV x 65535)∧∀k,cf (kV x 65535) k=(65535*cf x k)%65536:=by
 have hc:∀(l:List aj) k,cf (l.map fun m=>(⟨m.iA*65535%65536,m.atoms⟩:aj)) k%65536=(65535*cf l k)%65536:=fun l k=>by
  induction l with
  | nil=>rfl
  | cons m l ih=>rw [List.map_cons,eU,eU];dsimp only;split<;>omega
 have no:Nf (x.map fun m=>(⟨m.iA*65535%65536,m.atoms⟩:aj)):=⟨by
  rw [List.pairwise_map];exact h.nf.ss,fun m hm=>by
  rw [List.mem_map]at hm
  obtain⟨n,hn,rfl⟩:=hm
  have:=h.nf.co n hn
  dsimp only;omega⟩
 have ok:aT (x.map fun m=>(⟨m.iA*65535%65536,m.atoms⟩:aj)):=lV.2 ⟨no,by rw [List.length_map];exact h.len,fun m hm=>by
  rw [List.mem_map]at hm
  obtain⟨n,hn,rfl⟩:=hm
  exact show n.atoms.length≤4∧aok n.atoms from h.aok hn⟩
 have pe:prods x (aX 65535)=x.map fun m=>(⟨m.iA*65535%65536,m.atoms⟩:aj):=by
  unfold aX;rw [if_pos (by omega),Hr]
  exact List.map_congr_left fun m hm=>Nz 65535 (h.aok hm).2
 have e:kV x 65535=x.map fun m=>(⟨m.iA*65535%65536,m.atoms⟩:aj):=by
  unfold kV rO
  rw [if_pos (by rw [dB h];rfl),if_pos (by rw [dB h,dB (cZ _)];rfl),pe,yY ok (fun k=>by have:=no.bnd k;omega)]
 rw [e]
 exact⟨ok,fun k=>by rw [←hc];have:=no.bnd k;omega⟩
theorem sub_self {x:List aj} (h:aT x):jF 2 x x=([],true):=by
 obtain⟨h1,h2⟩:=Fj h
 unfold jF vM
 rw [if_neg (by omega),if_pos rfl,if_pos (by rw [dB h,dB h1];rfl),yY bU (fun k=>by rw [lT,h2,mP];omega)]
theorem Fp {x:List aj} (h:(dV x).2=true):aT x∧x=aX (dV x).1∧0≤(dV x).1∧(dV x).1≤65535:=by
 unfold dV at h ⊢
 by_cases c:aT x
 ·rw [dB c,if_pos rfl]at h ⊢
  refine⟨c,?_⟩
  by_cases c1:x.length=0
  ·rw [if_pos c1];exact⟨by rw [List.eq_nil_of_length_eq_zero c1];rfl,by omega,by omega⟩
  ·rw [if_neg c1]at h ⊢
   by_cases c2:x.length=1∧(x.getD 0 default).atoms.length=0
   ·rw [if_pos c2]
    match x,c,c2 with
    | [m],c,c2=>
     have hc:=c.nf.co m (by simp)
     have ha:m.atoms=[]:=List.eq_nil_of_length_eq_zero c2.2
     refine⟨?_,by show 0≤m.iA;omega,by show m.iA≤65535;omega⟩
     show [m]=aX m.iA
     unfold aX;rw [if_pos hc,←ha]
   ·rw [if_neg c2]at h;exact absurd h (by simp)
 ·rw [gH c]at h;exact absurd h (by simp)
theorem mU {a:Int} (h:0≤a∧a≤65535) (k:List Int):cf (aX a) k=if []=k then a else 0:=by
 unfold aX
 by_cases c:1≤a∧a≤65535
 ·rw [if_pos c,eU,mP,Int.add_zero]
 ·rw [if_neg c,mP];split<;>omega
theorem gJ {a:Int} (h:0≤a∧a≤65535):dV (aX a)=(a,true):=by
 unfold dV
 rw [dB (cZ a),if_pos rfl]
 unfold aX
 by_cases c:1≤a∧a≤65535
 ·rw [if_pos c];rfl
 ·rw [if_neg c,show a=0 by omega];rfl
theorem QG {op a b:Int} (hop:1≤op∧op≤5) (ha:0≤a∧a≤65535) (hb:0≤b∧b≤65535):jF op (aX a) (aX b)=(aX (wdo op a b),true):=by
 have hm:=SG ha.1 ha.2 hb.1 hb.2
 unfold jF
 by_cases c1:op=1
 ·subst c1
  have w:wdo 1 a b=(a+b)%65536:=by unfold wdo;rw [if_pos ⟨ha,hb⟩];rfl
  rw [if_pos rfl,w];unfold vM
  rw [if_pos (by rw [dB (cZ _),dB (cZ _)];rfl),yY (cZ ((a+b)%65536)) (fun k=>by rw [lT,mU ha,mU hb,mU (by omega)];split<;>omega)]
 ·rw [if_neg c1]
  by_cases c2:op=2
  ·subst c2
   have w:wdo 2 a b=(a-b)%65536:=by unfold wdo;rw [if_pos ⟨ha,hb⟩];rfl
   obtain⟨s1,s2⟩:=Fj (cZ b)
   rw [if_pos rfl,w];unfold vM
   rw [if_pos (by rw [dB (cZ _),dB s1];rfl),yY (cZ ((a-b)%65536)) (fun k=>by rw [lT,mU ha,s2,mU hb,mU (by omega)];split<;>omega)]
  ·rw [if_neg c2]
   by_cases c3:op=3
   ·subst c3
    have w:wdo 3 a b=(a*b)%65536:=by unfold wdo;rw [if_pos ⟨ha,hb⟩];rfl
    rw [if_pos rfl,w];unfold rO
    rw [if_pos (by rw [dB (cZ _),dB (cZ _)];rfl),yY (cZ ((a*b)%65536)) (fun k=> ?_)]
    rw [mU (by omega)]
    by_cases p1:1≤a
    ·by_cases p2:1≤b
     ·have e1:aX a=[⟨a,[]⟩]:=by unfold aX;rw [if_pos ⟨p1,ha.2⟩]
      have e2:aX b=[⟨b,[]⟩]:=by unfold aX;rw [if_pos ⟨p2,hb.2⟩]
      rw [e1,e2,Hr,List.map_cons,List.map_nil,Nz b ⟨List.Pairwise.nil,fun k hk=>absurd hk (by simp)⟩,eU,mP]
      dsimp only;split<;>omega
     ·have e0:b=0:=by omega
      subst e0
      rw [show prods (aX a) (aX 0)=[] by simp [prods,aX],mP];split<;>simp
    ·have e0:a=0:=by omega
     subst e0
     rw [show prods (aX 0) (aX b)=[] by simp [prods,aX],mP];split<;>simp
   ·rw [if_neg c3,abd,gJ ha,gJ hb];rfl
end Go.TX.F
namespace Go.TX.F
open Go Go.AE Go.TX
end Go.TX.F
namespace Go.TX.F
open Go Go.AE Go.TX
theorem SN {d:List Int} {i j x:Int} (h1:0≤i) (h2:i<d.length) (h3:0≤j):((d.set i.toNat x).getD (j).toNat default)=if j=i then x else((d).getD (j).toNat default):=by
 simp only [List.getD]
 by_cases h:j=i
 ·subst h;rw [if_pos rfl,List.getElem?_set_self (by omega)];rfl
 ·rw [if_neg h,List.getElem?_set_ne (by omega)]
theorem UD {d:List Int} {i j:Int} (h1:0≤i) (h2:i<d.length) (h3:0≤j) (h4:j<d.length) (h5:i≠j):((d.set i.toNat ((d).getD (j).toNat default)).set j.toNat ((d).getD (i).toNat default)).Perm d:=by
 rw [List.perm_iff_count]
 intro x
 rw [getD_lt (show i.toNat<d.length by omega),getD_lt (show j.toNat<d.length by omega),List.count_set (by simp;omega),List.count_set (by omega),List.getElem_set_ne (by omega)]
 have h6:(if d[i.toNat]==x then 1 else 0)≤List.count x d:=by
  split
  ·rename_i h;exact List.count_pos_iff.2 (by rw [←eq_of_beq h];exact List.getElem_mem _)
  ·omega
 split<;>split<;>simp_all<;>omega
theorem aml {p:Int×Int×Unit→Bool} {f:Int×Int×Unit→Bool×Unit} (hp:∀a b,p (a,b,())=true) (hf:∀a b,f (a,b,())=(decide (a<b),()))
  (a b:Int) (d:List Int) (hd:d.length<1000000000) (h1:a=0) (h2:b=d.length):
  XW (std 0) p f (a,b,d,()) (fun y=>y.1=wM d):=by
 subst h1
 dsimp only [XW,Alg.cl,Alg.cg,Alg.rb,Alg.bd,Alg.l1,Tup.q,Tup.o]
 simp (disch:=omega) only [RR]
 have fin:∀e:List Int,e.Perm d→(∀q:Int,1≤q→q<e.length→((e).getD (q-1).toNat default)≤((e).getD (q).toNat default))→e=wM d:=fun e g1 g2=>
  Fb ((lQ (d:=default) (R:=fun a b:Int=>a≤b) (fun h1 h2=>Int.le_trans h1 h2)).2 g2) g1
 refine ay (fun(y:Int×Int×Int×List Int×Unit)=>y.1=0∧y.2.1=b∧1≤y.2.2.1∧(y.2.2.1≤b∨y.2.2.1=1)∧y.2.2.2.1.Perm d∧∀q,1≤q→q<y.2.2.1→((y.2.2.2.1).getD (q-1).toNat default)≤((y.2.2.2.1).getD (q).toNat default)) (fun y=>(b-y.2.2.1).toNat)
  ⟨rfl,rfl,by simp,Or.inr rfl,List.Perm.refl d,fun q g1 g2=>by dsimp only at g2;omega⟩ ?_
 rintro⟨(a':Int),(b':Int),(i:Int),(e:List Int),⟨⟩⟩ hI
 dsimp only at hI ⊢
 obtain⟨rfl,rfl,h4,h5,h6,h7⟩:=hI
 have hle:=h6.length_eq
 simp (disch:=omega) only [RR]
 refine⟨fun h9=> ?_,fun h9=>fin e h6 fun q g1 g2=>h7 q g1 (by omega)⟩
 refine ay (fun(y:Int×Int×Int×Int×List Int×Unit)=>y.1=0∧y.2.1=b'∧y.2.2.1=i∧0≤y.2.2.2.1∧y.2.2.2.1≤i∧y.2.2.2.2.1.Perm d
   ∧(∀q,1≤q→q≤i→q≠y.2.2.2.1→((y.2.2.2.2.1).getD (q-1).toNat default)≤((y.2.2.2.2.1).getD (q).toNat default))∧(1≤y.2.2.2.1→y.2.2.2.1+1≤i→((y.2.2.2.2.1).getD (y.2.2.2.1-1).toNat default)≤((y.2.2.2.2.1).getD (y.2.2.2.1+1).toNat default))) (fun y=>y.2.2.2.1.toNat)
  ⟨rfl,rfl,rfl,by simp;omega,by simp,h6,fun q g1 g2 g3=>h7 q g1 (by dsimp only at g3;omega),fun g1 g2=>by dsimp only at g2;omega⟩ ?_
 rintro⟨(a'':Int),(b'':Int),(i':Int),(j:Int),(e':List Int),⟨⟩⟩ hI
 dsimp only at hI ⊢
 obtain⟨rfl,rfl,rfl,h10,h11,h12,h13,h14⟩:=hI
 have hle':=h12.length_eq
 simp (disch:=omega) only [RR,List.length_set,hp,hf]
 repeat' (refine And.intro ?_ ?_)
 all_goals try omega
 ·intro ⟨g1,g2⟩
  have at2:∀k,0≤k→(((e'.set j.toNat ((e').getD (j-1).toNat default)).set (j-1).toNat ((e').getD (j).toNat default)).getD (k).toNat default)=if k=j-1 then((e').getD (j).toNat default)else if k=j then((e').getD (j-1).toNat default)else((e').getD (k).toNat default):=fun k hk=>by
   rw [SN (by omega) (by simp;omega) hk,SN (by omega) (by omega) hk]
  repeat' (refine And.intro ?_ ?_)
  all_goals try omega
  ·exact(UD (by omega) (by omega) (by omega) (by omega) (by omega)).trans h12
  ·intro q k1 k2 k3
   rw [at2 _ (by omega),at2 _ (by omega)]
   by_cases c1:q=j
   ·subst c1;rw [if_pos rfl,if_neg (by omega),if_pos rfl];omega
   ·rw [if_neg (by omega)]
    by_cases c2:q=j+1
    ·subst c2
     rw [if_pos (by omega),if_neg (by omega),if_neg (by omega)]
     exact h14 (by omega) (by omega)
    ·rw [if_neg (by omega),if_neg (by omega),if_neg (by omega)]
     exact h13 q k1 k2 c1
  ·intro k1 k2
   rw [at2 _ (by omega),at2 _ (by omega),if_neg (by omega),if_neg (by omega),if_neg (by omega),if_pos (by omega)]
   have:=h13 (j-1) (by omega) (by omega) (by omega)
   exact this
 ·intro g
  refine⟨⟨by omega,by omega,h12,fun q k1 k2=> ?_⟩,by omega⟩
  by_cases c:q=j
  ·subst c
   rw [Bool.and_eq_false_iff,decide_eq_false_iff_not,decide_eq_false_iff_not]at g
   omega
  ·exact h13 q k1 (by omega) c
theorem amm {p:Int×Int×Unit→Bool} {f:Int×Int×Unit→Bool×Unit}
  {p1:Int×Int×List Int×Unit→Bool} {f1:Int×Int×List Int×Unit→List Int×Unit} (hp1:∀(a b:Int) (d:List Int),d.length<1000000000→a=0→b=d.length→p1 (a,b,d,())=true) (hf1:∀(a b:Int) (d:List Int),d.length<1000000000→a=0→b=d.length→(f1 (a,b,d,())).1=wM d)
  (p2 p3 f2 f3 p4 f4 p5 f5 p6 f6 p7 f7 p8 f8 p9 f9) (a b k:Int) (d:List Int) (hd:d.length≤12) (h1:a=0) (h2:b=d.length):
  XY (std 0) p f p1 f1 p2 f2 p3 f3 p4 f4 p5 f5 p6 f6 p7 f7 p8 f8 p9 f9 (a,b,k,d,()) (fun y=>y.1=wM d):=by
 subst h1
 dsimp only [XY,Alg.cl,Alg.cg,Alg.rb,Alg.bd,Alg.l1,Tup.q,Tup.o]
 simp (disch:=omega) only [RR]
 refine ay (fun(y:Int×Int×Int×Bool×Bool×List Int×Unit)=>y.1=0∧y.2.1=b∧y.2.2.2.2.2.1=d) (fun y=>0) ⟨rfl,rfl,rfl⟩ ?_
 rintro⟨(a':Int),(b':Int),(k':Int),(u:Bool),(v:Bool),(e:List Int),⟨⟩⟩ hI
 dsimp only at hI ⊢
 obtain⟨rfl,rfl,rfl⟩:=hI
 simp (disch:=omega) only [RR]
 exact⟨fun _=>⟨hp1 0 b' e (by omega) rfl h2,hf1 0 b' e (by omega) rfl h2⟩,fun h=>absurd h (by omega)⟩
theorem amn {p1:Int×Int×Int×List Int×Unit→Bool} {f1:Int×Int×Int×List Int×Unit→List Int×Unit} (hp1:∀(a b k:Int) (d:List Int),d.length≤12→a=0→b=d.length→p1 (a,b,k,d,())=true) (hf1:∀(a b k:Int) (d:List Int),d.length≤12→a=0→b=d.length→(f1 (a,b,k,d,())).1=wM d)
  {p2:Int×Unit→Bool} {f2:Int×Unit→Int×Unit} (hp2:∀n,0≤n→n≤18446744073709551615→p2 (n,())=true) (a:List Int) (ha:a.length≤8):
  XZ (std 0) p1 f1 p2 f2 (a,()) (fun y=>y=(wM a,())):=by
 dsimp only [XZ,Alg.cl,Alg.cg,Alg.rb,Alg.bd,Alg.l1,Tup.q,Tup.o]
 have e:IntKind.u64.wrap (a.length:Int)=(a.length:Int):=IntWalk.u64_in _ (by omega)
 refine⟨?_,hp1 _ _ _ _ (by omega) rfl rfl,by rw [hf1 _ _ _ _ (by omega) rfl rfl]⟩
 rw [e];exact hp2 _ (by omega) (by omega)
end Go.TX.F
namespace Go.TX.F
open Go Go.AE Go.TX
def wOK (l:List Int):Prop:=∀z∈l,0≤z∧z≤65535
theorem wOK.at {l:List Int} (h:wOK l) (n:Nat):0≤l.getD n default∧l.getD n default≤65535:=by
 by_cases hn:n<l.length
 ·rw [getD_lt hn];exact h _ (List.getElem_mem _)
 ·rw [List.getD,List.getElem?_eq_none (by omega)];decide
theorem wOK.snoc {l:List Int} (h:wOK l) {x:Int} (hx:0≤x∧x≤65535):wOK (l++ [x]):=fun z hz=>by
 rw [List.mem_append,List.mem_singleton]at hz
 rcases hz with hz | rfl
 ·exact h z hz
 ·exact hx
end Go.TX.F
namespace Go.TX.F
open Go Go.AE Go.TX
def ins (c:Int) (at_:List Int):List aj→List aj
 | []=>if c%65536=0 then []else [⟨c%65536,at_⟩]
 | m::o=>if gG at_ m.atoms<0 then(if c%65536=0 then m::o else⟨c%65536,at_⟩::m::o)
  else if at_=m.atoms then(if(c+m.iA)%65536=0 then o else⟨(c+m.iA)%65536,at_⟩::o)else m::ins c at_ o
theorem YI {op:Int} (hop:1≤op∧op≤5) {x y:List aj} (hx:aT x) (hy:aT y):aT (jF op x y).1:=by
 unfold jF
 split
 ·exact SK _ _
 ·split
  ·exact SK _ _
  ·split
   ·exact abe _ _
   ·unfold UA
    repeat' split
    all_goals first | exact cZ _ | exact bU | assumption
end Go.TX.F
namespace Go.TX.F
open Go Go.AE Go.TX
end Go.TX.F
namespace Go.TX.F
open Go Go.AE Go.TX
@[reducible] def hX (o : IOp) : Prop := o.kind ≠ 1 ∧ o.kind ≠ 2 ∧ o.kind ≠ 6
@[reducible] def hY (o : IOp) : Prop := o.kind = 3 ∨ o.kind = 5
@[reducible] def mkV (o : IOp) : Prop := (1 ≤ o.kind ∧ o.kind ≤ 4) ∨ o.kind = 6
@[reducible] def evO (o : IOp) : Prop := 4 ≤ o.kind ∧ o.kind ≤ 7
def Vl (ops:List IOp) (x n:Int):Prop:=0≤x∧x<n∧mkV ((ops).getD (x).toNat default)
structure Bu (ops:List IOp) (len i:Int) (o:IOp):Prop where
 kd:1≤o.kind∧o.kind≤8
 x1:hX o→Vl ops o.x i
 x0:¬hX o→o.x=0
 y1:hY o→Vl ops o.y i
 y0:¬hY o→o.y=0
 k1:o.kind=1→0≤o.k∧o.k≤65535
 k2:o.kind=2∨o.kind=8→0≤o.k∧o.k≤3
 k3:o.kind=3→1≤o.k∧o.k≤5
 k0:4≤o.kind→o.kind≤7→o.k=0
 a1:evO o→0≤o.at_∧o.at_<len
 a0:¬evO o→o.at_=0
structure yZ (b:Blk):Prop where
 f:1≤b.fin∧b.fin≤4
 x1:b.fin≠1→Vl b.ops b.x b.ops.length
 x0:b.fin=1→b.x=0
 y1:3≤b.fin→Vl b.ops b.y b.ops.length
 y0:b.fin≤2→b.y=0
 k1:b.fin≠2→0≤b.k∧b.k≤65535
 k0:b.fin=2→b.k=0
structure bZ (b:Blk):Prop where
 ln:1≤b.len∧b.len≤8
 pc:0≤b.pc∧b.pc≤64-b.len
 sz:b.ops.length≤48
 op:∀i:Int,0≤i→i<b.ops.length→Bu b.ops b.len i ((b.ops).getD (i).toNat default)
 en:yZ b
structure SS where
 t:List Atom
 regs:List (List aj)
 vals:List (List aj)
 ld:Int
 inn:Int
 evs:List Ev
def xOf (s:SS) (o:IOp):List aj:=if hX o then((s.vals).getD (o.x).toNat default)else []
def yOf (s:SS) (o:IOp):List aj:=if hY o then((s.vals).getD (o.y).toNat default)else []
def aOf (s:SS) (o:IOp):Atom:=if o.kind=4 then⟨2,s.ld,[],[]⟩else⟨3,s.inn,[],[]⟩
noncomputable def nT (s:SS) (o:IOp):List Atom:=if o.kind=3 then(tDo s.t o.k (xOf s o) (yOf s o)).1 else if o.kind=4∨o.kind=6 then(bI s.t (aOf s o)).1 else s.t
noncomputable def nV (s:SS) (o:IOp):List aj:=if o.kind=1 then aX o.k else if o.kind=2 then((s.regs).getD (o.k).toNat default)else if o.kind=3 then(tDo s.t o.k (xOf s o) (yOf s o)).2 else if o.kind=4∨o.kind=6 then gX (bI s.t (aOf s o)).2 else []
def nR (s:SS) (o:IOp):List (List aj):=if o.kind=8 then s.regs.set o.k.toNat (xOf s o)else s.regs
def nE (s:SS) (o:IOp):List Ev:=if evO o then s.evs++ [⟨o.kind,o.at_,xOf s o,yOf s o,if o.kind=4∨o.kind=5 then s.regs else []⟩]else s.evs
noncomputable def stp (s:SS) (o:IOp):SS:=⟨nT s o,nR s o,s.vals++ [nV s o],if o.kind=4 then s.ld+1 else s.ld,if o.kind=6 then s.inn+1 else s.inn,nE s o⟩
noncomputable def rN (t:List Atom):Nat→List Atom×List (List aj)
 | 0=>(t,[])
 | n+1=>((bI (rN t n).1 ⟨1,n,[],[]⟩).1,(rN t n).2++ [gX (bI (rN t n).1 ⟨1,n,[],[]⟩).2])
noncomputable def s0 (t:List Atom):SS:=⟨(rN t 4).1,(rN t 4).2,[],0,0,[]⟩
noncomputable def gI (t:List Atom) (b:Blk):SS:=b.ops.foldl stp (s0 t)
def kW (b:Blk) (s:SS):Sym:=⟨s.evs,s.regs,b.fin,if b.fin=1 then []else((s.vals).getD (b.x).toNat default),if 3≤b.fin then((s.vals).getD (b.y).toNat default)else [],b.k⟩
def YJ:Sym:=⟨[],[],0,[],[],0⟩
noncomputable def symEnd (s:Sym) (behind:Int):Sym:=
 if bp (aT s.x∧aT s.y)=false then YJ
 else if s.fin=2∧(dV s.x).2=true then⟨s.events,s.regs,1,[],[],(dV s.x).1⟩
 else if s.fin≠3∧s.fin≠4 then s
 else if s.x=s.y∨(dV s.x).2=true∧(dV s.y).2=true then
  ⟨s.events,s.regs,1,[],[],if s.x=s.y∧s.fin=3∨((dV s.x).2=true∧(dV s.y).2=true)∧(s.fin=3∧(dV s.x).1=(dV s.y).1∨s.fin=4∧(dV s.x).1< (dV s.y).1)then s.k else behind⟩
 else if s.fin=3∧0<iO s.x s.y then⟨s.events,s.regs,s.fin,s.y,s.x,s.k⟩else s
noncomputable def bH (t:List Atom) (b:Blk):List Atom×Sym:=if bp (aI t∧t.length≤100∧bZ b)=true then((gI t b).t,symEnd (kW b (gI t b)) (b.pc+b.len))else([],YJ)
theorem uw (t:List Atom) (a:Atom):t<+:(bI t a).1:=by
 unfold bI
 split
 ·exact List.prefix_refl _
 ·split
  ·exact List.prefix_refl _
  ·exact List.prefix_append _ _
theorem BI {α:Type} {a b:List α} (h:a<+:b):a.length≤b.length:=h.length_le
theorem YK {α:Type} {d:α} {a b:List α} (h:a<+:b) {i:Int} (h1:i.toNat<a.length):b.getD i.toNat d=a.getD i.toNat d:=by
 obtain⟨c,rfl⟩:=h
 rw [getD_lt h1,getD_lt (by rw [List.length_append];omega),List.getElem_append_left h1]
theorem vF {t:List Atom} {a:Atom} (h:0≤(bI t a).2):(bI t a).2< (bI t a).1.length∧(((bI t a).1).getD ((bI t a).2).toNat default)=a:=by
 have hsp:=mR t a
 revert h
 unfold bI
 split
 ·intro h
  rcases hsp with⟨h1,_⟩ | ⟨_,h2,h3,_⟩
  ·exact absurd h (by dsimp only;omega)
  ·exact⟨h2,h3.symm⟩
 ·split
  ·intro h;exact absurd h (by dsimp only;omega)
  ·intro _
   dsimp only
   refine⟨by rw [List.length_append];simp only [List.length_cons,List.length_nil];omega,?_⟩
   rw [getD_lt (by rw [List.length_append];simp only [List.length_cons,List.length_nil];omega)]
   simp
theorem QH {u:List Atom} {a:Atom} (hu:aI u) {k:Int} (h0:0≤k) (h1:k<u.length) (h2:((u).getD (k).toNat default)=a):bI u a=(u,k):=by
 have hf:wL u a=k:=by
  refine(mR u a).uniq (Or.inr ⟨h0,h1,h2.symm,fun j j1 j2=> ?_⟩)
  have:=(vE.1 hu).1 k h0 h1
  have g:=this.2 j j1 j2
  dsimp only at g ⊢
  rw [h2]at g;exact g
 unfold bI
 rw [hf,if_pos h0]
theorem y7 {t u:List Atom} {a:Atom} (hu:aI u) (h:0≤(bI t a).2) (hp:(bI t a).1<+:u):bI u a=(u,(bI t a).2):=by
 obtain⟨g1,g2⟩:=vF h
 have:=BI hp
 exact QH hu h (by omega) (by rw [YK hp (by omega),g2])
theorem NC {op n:Int} {x y:List aj} (ux:bf x n) (uy:bf y n):bf (jF op x y).1 n:=by
 unfold jF
 split
 ·exact Fg ux uy
 ·split
  ·refine Fg ux ?_
   unfold kV
   split
   ·exact Fh uy (uo _ _)
   ·exact iI _
  ·split
   ·exact Fh ux uy
   ·unfold UA
    repeat' split
    all_goals first | exact ux | exact uy | exact iI _ | exact uo _ _
structure afJ (t:List Atom) (op:Int) (x y:List aj):Prop where
 tok:aI (tDo t op x y).1
 pre:t<+:(tDo t op x y).1
 len:(tDo t op x y).1.length≤t.length+1
 pok:aT (tDo t op x y).2
 und:bf (tDo t op x y).2 (tDo t op x y).1.length
 ok:tOk t op x y=true
theorem abf {t:List Atom} {op:Int} {x y:List aj} (h:aI t) (h2:t.length<200) (h3:1≤op∧op≤5) (hx:aT x) (hy:aT y) (ux:bf x t.length) (uy:bf y t.length):afJ t op x y:=by
 by_cases c:(jF op x y).2=true
 ·have e:tDo t op x y=(t,(jF op x y).1):=by unfold tDo;rw [if_pos c]
  refine⟨?_,?_,?_,?_,?_,by unfold tOk;rw [c];rfl⟩<;>rw [e]
  ·exact h
  ·exact List.prefix_refl _
  ·exact Nat.le_succ _
  ·exact YI h3 hx hy
  ·exact NC ux uy
 ·have key:∀x' y',aT x'→aT y'→bf x' t.length→bf y' t.length→0≤(bI t ⟨4,op,x',y'⟩).2∧aI (bI t ⟨4,op,x',y'⟩).1∧(bI t ⟨4,op,x',y'⟩).1.length≤t.length+1:=fun x' y' a1 a2 a3 a4=>by
   have p1:=BG (a:=⟨4,op,x',y'⟩) h h2
   have q1:=p1.2.2.2 (by unfold kH;rw [if_pos rfl];exact⟨h3,a1,a2,a3,a4⟩)
   exact⟨q1,p1.1,p1.2.2.1⟩
  by_cases c2:op≠2∧0<iO x y
  ·obtain⟨k1,k2,k3⟩:=key y x hy hx uy ux
   have e:tDo t op x y=((bI t ⟨4,op,y,x⟩).1,gX (bI t ⟨4,op,y,x⟩).2):=by unfold tDo;rw [if_neg c,if_pos c2,if_neg (by omega)]
   refine⟨?_,?_,?_,?_,?_,by unfold tOk;rw [if_pos c2,decide_eq_false (by omega),Bool.not_false,Bool.or_true]⟩<;>rw [e]
   ·exact k2
   ·exact uw _ _
   ·exact k3
   ·exact qL _
   ·exact qM (vF k1).1
  ·obtain⟨k1,k2,k3⟩:=key x y hx hy ux uy
   have e:tDo t op x y=((bI t ⟨4,op,x,y⟩).1,gX (bI t ⟨4,op,x,y⟩).2):=by unfold tDo;rw [if_neg c,if_neg c2,if_neg (by omega)]
   refine⟨?_,?_,?_,?_,?_,by unfold tOk;rw [if_neg c2,decide_eq_false (by omega),Bool.not_false,Bool.or_true]⟩<;>rw [e]
   ·exact k2
   ·exact uw _ _
   ·exact k3
   ·exact qL _
   ·exact qM (vF k1).1
theorem YL {t u:List Atom} {op:Int} {x y:List aj} (hu:aI u) (h:tOk t op x y=true) (hp:(tDo t op x y).1<+:u):tDo u op x y=(u,(tDo t op x y).2):=by
 by_cases c:(jF op x y).2=true
 ·unfold tDo;rw [if_pos c,if_pos c]
 ·by_cases c2:op≠2∧0<iO x y
  ·have k1:0≤(bI t ⟨4,op,y,x⟩).2:=by
    unfold tOk at h;rw [if_pos c2,Bool.or_eq_true,Bool.not_eq_true',decide_eq_false_iff_not]at h;have:=h.resolve_left c;omega
   have e:tDo t op x y=((bI t ⟨4,op,y,x⟩).1,gX (bI t ⟨4,op,y,x⟩).2):=by unfold tDo;rw [if_neg c,if_pos c2,if_neg (by omega)]
   rw [e]at hp ⊢
   have:=y7 hu k1 hp
   unfold tDo;rw [if_neg c,if_pos c2,this,if_neg (by dsimp only;omega)]
  ·have k1:0≤(bI t ⟨4,op,x,y⟩).2:=by
    unfold tOk at h;rw [if_neg c2,Bool.or_eq_true,Bool.not_eq_true',decide_eq_false_iff_not]at h;have:=h.resolve_left c;omega
   have e:tDo t op x y=((bI t ⟨4,op,x,y⟩).1,gX (bI t ⟨4,op,x,y⟩).2):=by unfold tDo;rw [if_neg c,if_neg c2,if_neg (by omega)]
   rw [e]at hp ⊢
   have:=y7 hu k1 hp
   unfold tDo;rw [if_neg c,if_neg c2,this,if_neg (by dsimp only;omega)]
end Go.TX.F
namespace Go.TX.F
open Go Go.AE Go.TX
structure SI (n:Int) (i:Nat) (s:SS):Prop where
 tok:aI s.t
 tl:(s.t.length:Int)≤n+i
 r4:s.regs.length=4
 rok:∀p∈s.regs,aT p∧bf p s.t.length
 vl:s.vals.length=i
 vok:∀p∈s.vals,aT p∧bf p s.t.length
 ld:0≤s.ld∧s.ld≤i
 inn:0≤s.inn∧s.inn≤i
theorem Fq {l:List (List aj)} {n:Int} (h:∀p∈l,aT p∧bf p n) (i:Int):aT ((l).getD (i).toNat default)∧bf ((l).getD (i).toNat default) n:=by
 by_cases c:i.toNat<l.length
 ·rw [getD_lt c];exact h _ (List.getElem_mem _)
 ·rw [List.getD_eq_getElem?_getD,List.getElem?_eq_none (by omega)];exact⟨bU,iI _⟩
theorem SI.x {n:Int} {i:Nat} {s:SS} (h:SI n i s) (o:IOp):aT (xOf s o)∧bf (xOf s o) s.t.length:=by
 unfold xOf;split
 ·exact Fq h.vok _
 ·exact⟨bU,iI _⟩
theorem SI.y {n:Int} {i:Nat} {s:SS} (h:SI n i s) (o:IOp):aT (yOf s o)∧bf (yOf s o) s.t.length:=by
 unfold yOf;split
 ·exact Fq h.vok _
 ·exact⟨bU,iI _⟩
theorem abg {n:Int} {i:Nat} {s:SS} (h:SI n i s) (hi:i<200) (o:IOp) (m:Int):kH (aOf s o) m:=by
 have h1:=h.ld
 have h2:=h.inn
 unfold aOf
 split
 ·unfold kH;rw [if_neg (by simp)];exact⟨⟨rfl,rfl⟩,Or.inr ⟨Or.inl rfl,by dsimp only;omega,by dsimp only;omega⟩⟩
 ·unfold kH;rw [if_neg (by simp)];exact⟨⟨rfl,rfl⟩,Or.inr ⟨Or.inr rfl,by dsimp only;omega,by dsimp only;omega⟩⟩
structure SOK (s:SS) (o:IOp):Prop where
 pre:s.t<+:(stp s o).t
 d:o.kind=3→afJ s.t o.k (xOf s o) (yOf s o)
 p:o.kind=4∨o.kind=6→0≤(bI s.t (aOf s o)).2
theorem Jd {n:Int} {i:Nat} {s:SS} {o:IOp} (h:SI n i s) (hk:o.kind=3→1≤o.k∧o.k≤5) (hn:n+i<200) (hi:i<200):SI n (i+1) (stp s o)∧SOK s o:=by
 have hl:=h.tl
 have tl:s.t.length<200:=by omega
 have hd:o.kind=3→afJ s.t o.k (xOf s o) (yOf s o):=fun e=>abf h.tok tl (hk e) (h.x o).1 (h.y o).1 (h.x o).2 (h.y o).2
 have hput:=BG (a:=aOf s o) h.tok tl
 have hp:=hput.2.2.2 (abg h hi o _)
 have T:aI (nT s o)∧(nT s o).length≤s.t.length+1∧s.t<+:nT s o:=by
  unfold nT
  split
  ·rename_i e;have:=hd e;exact⟨this.tok,this.len,this.pre⟩
  ·split
   ·exact⟨hput.1,hput.2.2.1,uw _ _⟩
   ·exact⟨h.tok,Nat.le_succ _,List.prefix_refl _⟩
 have up:∀ {p:List aj},aT p∧bf p s.t.length→aT p∧bf p (nT s o).length:=fun hp=>⟨hp.1,Hq hp.2 (by have:=BI T.2.2;omega)⟩
 have V:aT (nV s o)∧bf (nV s o) (nT s o).length:=by
  unfold nV
  split
  ·exact⟨cZ _,uo _ _⟩
  ·split
   ·exact up (Fq h.rok _)
   ·split
    ·rename_i e
     have:=hd e
     refine⟨this.pok,?_⟩
     have e2:nT s o=(tDo s.t o.k (xOf s o) (yOf s o)).1:=by unfold nT;rw [if_pos e]
     rw [e2];exact this.und
    ·split
     ·rename_i e1 e2
      have e3:nT s o=(bI s.t (aOf s o)).1:=by unfold nT;rw [if_neg (by omega),if_pos e2]
      rw [e3]
      exact⟨qL _,qM (vF hp).1⟩
     ·exact⟨bU,iI _⟩
 have g1:=h.ld
 have g2:=h.inn
 refine⟨⟨T.1,?_,?_,?_,?_,?_,?_,?_⟩,⟨T.2.2,hd,fun _=>hp⟩⟩
 ·have:=T.2.1;show((nT s o).length:Int)≤_;omega
 ·show(nR s o).length=4
  unfold nR;split
  ·rw [List.length_set];exact h.r4
  ·exact h.r4
 ·show∀p∈nR s o,_
  intro p hp
  unfold nR at hp;split at hp
  ·rcases List.mem_or_eq_of_mem_set hp with hp | rfl
   ·exact up (h.rok p hp)
   ·exact up (h.x o)
  ·exact up (h.rok p hp)
 ·show(s.vals++ [nV s o]).length=i+1
  rw [List.length_append,h.vl];rfl
 ·show∀p∈s.vals++ [nV s o],_
  intro p hp
  rw [List.mem_append,List.mem_singleton]at hp
  rcases hp with hp | rfl
  ·exact up (h.vok p hp)
  ·exact V
 ·show 0≤(if o.kind=4 then s.ld+1 else s.ld)∧(if o.kind=4 then s.ld+1 else s.ld)≤_
  split<;>omega
 ·show 0≤(if o.kind=6 then s.inn+1 else s.inn)∧(if o.kind=6 then s.inn+1 else s.inn)≤_
  split<;>omega
theorem z8 {n:Int}:∀(ops:List IOp) (i:Nat) (s:SS),SI n i s→(∀o∈ops,o.kind=3→1≤o.k∧o.k≤5)→n+i+ops.length≤200→i+ops.length≤200→SI n (i+ops.length) (ops.foldl stp s)∧s.t<+:(ops.foldl stp s).t
 | [],i,s,h,_,_,_=>⟨h,List.prefix_refl _⟩
 | o::r,i,s,h,hk,h1,h2=>by
  rw [List.length_cons]at h1 h2
  obtain⟨a1,a2⟩:=Jd h (hk o List.mem_cons_self) (by omega) (by omega)
  obtain⟨b1,b2⟩:=z8 r (i+1) (stp s o) a1 (fun o ho=>hk o (List.mem_cons_of_mem _ ho)) (by omega) (by omega)
  rw [List.foldl_cons,List.length_cons,show i+(r.length+1)=i+1+r.length by omega]
  exact⟨b1,a2.pre.trans b2⟩
structure RI (t:List Atom) (n:Nat) (r:List Atom×List (List aj)):Prop where
 tok:aI r.1
 tl:r.1.length≤t.length+n
 pre:t<+:r.1
 r4:r.2.length=n
 rok:∀p∈r.2,aT p∧bf p r.1.length
theorem Ht {t:List Atom} (h:aI t) (hl:t.length≤196):∀n:Nat,n≤4→RI t n (rN t n)
 | 0,_=>⟨h,Nat.le_refl _,List.prefix_refl _,rfl,fun p hp=>absurd hp (by simp [rN])⟩
 | n+1,hn=>by
  have ih:=Ht h hl n (by omega)
  have l:=ih.tl
  have hp:=BG (a:=⟨1,n,[],[]⟩) ih.tok (by omega)
  have h0:=hp.2.2.2 (by unfold kH;rw [if_neg (by simp)];exact⟨⟨rfl,rfl⟩,Or.inl ⟨rfl,by dsimp only;omega,by dsimp only;omega⟩⟩)
  have pr:=uw (rN t n).1 ⟨1,n,[],[]⟩
  unfold rN
  refine⟨hp.1,?_,ih.pre.trans pr,?_,fun p h=> ?_⟩
  ·have:=hp.2.2.1;dsimp only;omega
  ·dsimp only;rw [List.length_append,ih.r4];rfl
  ·dsimp only at h ⊢
   rw [List.mem_append,List.mem_singleton]at h
   rcases h with h | rfl
   ·have:=ih.rok p h;exact⟨this.1,Hq this.2 (by have:=BI pr;omega)⟩
   ·exact⟨qL _,qM (vF h0).1⟩
theorem Je {t:List Atom} (h:aI t) (hl:t.length≤196) {n:Nat} (hn:n<4):0≤(bI (rN t n).1 ⟨1,n,[],[]⟩).2:=by
 have ih:=Ht h hl n (by omega)
 have l:=ih.tl
 exact(BG (a:=⟨1,n,[],[]⟩) ih.tok (by omega)).2.2.2 (by unfold kH;rw [if_neg (by simp)];exact⟨⟨rfl,rfl⟩,Or.inl ⟨rfl,by dsimp only;omega,by dsimp only;omega⟩⟩)
theorem Fu {t:List Atom} (h:aI t) (hl:t.length≤196):SI (t.length+4) 0 (s0 t):=by
 have:=Ht h hl 4 (by omega)
 have l:=this.tl
 exact⟨this.tok,by show((rN t 4).1.length:Int)≤_;omega,this.r4,this.rok,rfl,fun p hp=>absurd hp (by simp [s0]),by simp [s0],by simp [s0]⟩
theorem bZ.k3 {b:Blk} (h:bZ b):∀o∈b.ops,o.kind=3→1≤o.k∧o.k≤5:=fun o ho=>by
 obtain⟨i,hi,rfl⟩:=List.getElem_of_mem ho
 have:=(h.op i (by omega) (by omega)).k3
 rw [show(i:Int).toNat=i from rfl,getD_lt hi]at this
 exact this
theorem Jf {t:List Atom} {b:Blk} (h:aI t) (hl:t.length≤100) (hb:bZ b):SI (t.length+4) b.ops.length (gI t b)∧t<+:(gI t b).t:=by
 have sz:=hb.sz
 obtain⟨h1,h2⟩:=z8 b.ops 0 (s0 t) (Fu h (by omega)) hb.k3 (by omega) (by omega)
 rw [Nat.zero_add]at h1
 exact⟨h1,(Ht h (by omega) 4 (by omega)).pre.trans h2⟩
def SS.on (s:SS) (u:List Atom):SS:=⟨u,s.regs,s.vals,s.ld,s.inn,s.evs⟩
theorem afK {s:SS} {o:IOp} {u:List Atom} (hu:aI u) (h:SOK s o) (hp:(stp s o).t<+:u):stp (s.on u) o=(stp s o).on u:=by
 have hp:nT s o<+:u:=hp
 have ex:xOf (s.on u) o=xOf s o:=rfl
 have ey:yOf (s.on u) o=yOf s o:=rfl
 have ea:aOf (s.on u) o=aOf s o:=rfl
 have eT:nT (s.on u) o=u:=by
  unfold nT
  split
  ·rename_i e
   rw [ex,ey]
   have h3:=(h.d e).ok
   unfold nT at hp;rw [if_pos e]at hp
   rw [show(s.on u).t=u from rfl,YL hu h3 hp]
  ·split
   ·rename_i e1 e2
    unfold nT at hp;rw [if_neg e1,if_pos e2]at hp
    rw [ea,show(s.on u).t=u from rfl,y7 hu (h.p e2) hp]
   ·rfl
 have eV:nV (s.on u) o=nV s o:=by
  unfold nV
  split
  ·rfl
  ·split
   ·rfl
   ·split
    ·rename_i e
     rw [ex,ey]
     have h3:=(h.d e).ok
     unfold nT at hp;rw [if_pos e]at hp
     rw [show(s.on u).t=u from rfl,YL hu h3 hp]
    ·split
     ·rename_i e1 e2
      unfold nT at hp;rw [if_neg e1,if_pos e2]at hp
      rw [ea,show(s.on u).t=u from rfl,y7 hu (h.p e2) hp]
     ·rfl
 show SS.mk (nT (s.on u) o) (nR (s.on u) o) ((s.on u).vals++ [nV (s.on u) o]) _ _ (nE (s.on u) o)=SS.mk u (nR s o) (s.vals++ [nV s o]) _ _ (nE s o)
 rw [eT,eV];rfl
theorem YM {n:Int} {u:List Atom} (hu:aI u):∀(ops:List IOp) (i:Nat) (s:SS),SI n i s→(∀o∈ops,o.kind=3→1≤o.k∧o.k≤5)→n+i+ops.length≤200→i+ops.length≤200→(ops.foldl stp s).t<+:u→ops.foldl stp (s.on u)=(ops.foldl stp s).on u
 | [],i,s,h,_,_,_,_=>rfl
 | o::r,i,s,h,hk,h1,h2,hp=>by
  rw [List.length_cons]at h1 h2
  obtain⟨a1,a2⟩:=Jd h (hk o List.mem_cons_self) (by omega) (by omega)
  rw [List.foldl_cons]at hp
  obtain⟨_,b2⟩:=z8 r (i+1) (stp s o) a1 (fun o ho=>hk o (List.mem_cons_of_mem _ ho)) (by omega) (by omega)
  rw [List.foldl_cons,List.foldl_cons,afK hu a2 (b2.trans hp)]
  exact YM hu r (i+1) (stp s o) a1 (fun o ho=>hk o (List.mem_cons_of_mem _ ho)) (by omega) (by omega) hp
theorem ab9 {t u:List Atom} (h:aI t) (hl:t.length≤196) (hu:aI u):∀n:Nat,n≤4→(rN t n).1<+:u→rN u n=(u,(rN t n).2)
 | 0,_,_=>rfl
 | n+1,hn,hp=>by
  have h0:=Je h hl (n:=n) (by omega)
  have pr:=uw (rN t n).1 ⟨1,n,[],[]⟩
  have hp':(bI (rN t n).1 ⟨1,n,[],[]⟩).1<+:u:=hp
  have ih:=ab9 h hl hu n (by omega) (pr.trans hp')
  show((bI (rN u n).1 ⟨1,n,[],[]⟩).1,(rN u n).2++ [gX (bI (rN u n).1 ⟨1,n,[],[]⟩).2])=(u,(rN t n).2++ [gX (bI (rN t n).1 ⟨1,n,[],[]⟩).2])
  rw [ih]
  dsimp only
  rw [y7 hu h0 hp']
theorem abh {t u:List Atom} {b:Blk} (h:aI t) (hl:t.length≤100) (hb:bZ b) (hu:aI u) (hp:(gI t b).t<+:u):gI u b=(gI t b).on u:=by
 have sz:=hb.sz
 have i0:=Fu h (by omega)
 obtain⟨_,h2⟩:=z8 b.ops 0 (s0 t) i0 hb.k3 (by omega) (by omega)
 have e:s0 u=(s0 t).on u:=by
  unfold s0 SS.on
  rw [ab9 h (by omega) hu 4 (by omega) (h2.trans hp)]
 unfold gI at hp ⊢
 rw [e]
 exact YM hu b.ops 0 (s0 t) i0 hb.k3 (by omega) (by omega) hp
theorem xS {t:List Atom} {b:Blk} (h:aI t) (hl:t.length≤100) (hb:bZ b):bH t b=((gI t b).t,symEnd (kW b (gI t b)) (b.pc+b.len)):=by
 unfold bH;rw [if_pos (dB ⟨h,hl,hb⟩)]
theorem UE {t u:List Atom} {b:Blk} (h:aI t) (hl:t.length≤100) (hb:bZ b) (hu:aI u) (hlu:u.length≤100) (hp:(bH t b).1<+:u):bH u b=(u,(bH t b).2):=by
 rw [xS h hl hb]at hp ⊢
 rw [xS hu hlu hb,abh h hl hb hu hp]
 rfl
theorem Hu {t:List Atom} {b:Blk} (h:aI t) (hl:t.length≤100) (hb:bZ b):aI (bH t b).1∧t<+:(bH t b).1∧(bH t b).1.length≤t.length+b.ops.length+4:=by
 unfold bH
 rw [if_pos (dB ⟨h,hl,hb⟩)]
 obtain⟨h1,h2⟩:=Jf h hl hb
 have:=h1.tl
 exact⟨h1.tok,h2,by dsimp only;omega⟩
end Go.TX.F
namespace Go.TX.F
open Go Go.AE Go.TX
def ShP (l:List (List aj)):Prop:=l.length<1000000000∧∀p∈l,Sh p
def ShE (e:Ev):Prop:=Sh e.x∧Sh e.y∧ShP e.regs
def UF (l:List Ev):Prop:=l.length<1000000000∧∀e∈l,ShE e
structure ShY (s:Sym):Prop where
 e:UF s.events
 r:ShP s.regs
 x:Sh s.x
 y:Sh s.y
theorem ShP.at {l:List (List aj)} (h:ShP l) (n:Nat):Sh (l.getD n default):=by
 by_cases c:n<l.length
 ·rw [getD_lt c];exact h.2 _ (List.getElem_mem _)
 ·rw [List.getD_eq_getElem?_getD,List.getElem?_eq_none (by omega)];exact mQ
theorem Jg:ShP []:=⟨by simp,fun p h=>absurd h (by simp)⟩
theorem UF.at {l:List Ev} (h:UF l) (n:Nat):ShE (l.getD n default):=by
 by_cases c:n<l.length
 ·rw [getD_lt c];exact h.2 _ (List.getElem_mem _)
 ·rw [List.getD_eq_getElem?_getD,List.getElem?_eq_none (by omega)];exact⟨mQ,mQ,Jg⟩
theorem abj:ShY YJ:=⟨⟨by simp [YJ],fun e h=>absurd h (by simp [YJ])⟩,Jg,mQ,mQ⟩
theorem SI.regs {n:Int} {i:Nat} {s:SS} (h:SI n i s):ShP s.regs:=⟨by have:=h.r4;omega,fun p hp=>(h.rok p hp).1.sh⟩
theorem abk {n:Int} {i:Nat} {s:SS} {o:IOp} (h:SI n i s) (h2:s.evs.length≤i∧∀e∈s.evs,ShE e):(stp s o).evs.length≤i+1∧∀e∈(stp s o).evs,ShE e:=by
 show(nE s o).length≤i+1∧∀e∈nE s o,ShE e
 unfold nE
 split
 ·refine⟨by rw [List.length_append];have:=h2.1;simp only [List.length_cons,List.length_nil];omega,fun e he=> ?_⟩
  rw [List.mem_append,List.mem_singleton]at he
  rcases he with he | rfl
  ·exact h2.2 e he
  ·refine⟨(h.x o).1.sh,(h.y o).1.sh,?_⟩
   dsimp only
   split
   ·exact h.regs
   ·exact Jg
 ·exact⟨by have:=h2.1;omega,h2.2⟩
theorem QI {n:Int}:∀(ops:List IOp) (i:Nat) (s:SS),SI n i s→(∀o∈ops,o.kind=3→1≤o.k∧o.k≤5)→n+i+ops.length≤200→i+ops.length≤200→(s.evs.length≤i∧∀e∈s.evs,ShE e)→(ops.foldl stp s).evs.length≤i+ops.length∧∀e∈(ops.foldl stp s).evs,ShE e
 | [],i,s,h,_,_,_,h3=>h3
 | o::r,i,s,h,hk,h1,h2,h3=>by
  rw [List.length_cons]at h1 h2
  obtain⟨a1,a2⟩:=Jd h (hk o List.mem_cons_self) (by omega) (by omega)
  have:=QI r (i+1) (stp s o) a1 (fun o ho=>hk o (List.mem_cons_of_mem _ ho)) (by omega) (by omega) (abk h h3)
  rw [List.foldl_cons,List.length_cons,show i+(r.length+1)=i+1+r.length by omega]
  exact this
def evT (e:Ev):Int×Int×Nat:=(e.kind,e.at_,e.regs.length)
def opT (o:IOp):Int×Int×Nat:=(o.kind,o.at_,if o.kind=4∨o.kind=5 then 4 else 0)
def SQ (ops:List IOp):List IOp:=ops.filter fun o=>decide (evO o)
theorem SX:∀(ops:List IOp) (s:SS),s.regs.length=4→(ops.foldl stp s).evs.map evT=s.evs.map evT++(SQ ops).map opT
 | [],s,_=>by simp [SQ]
 | o::r,s,h=>by
  have h':(stp s o).regs.length=4:=by
   show(nR s o).length=4
   unfold nR;split
   ·rw [List.length_set];exact h
   ·exact h
  rw [List.foldl_cons,SX r (stp s o) h']
  show(nE s o).map evT++_=_
  unfold nE SQ
  by_cases c:evO o
  ·have e:evT ⟨o.kind,o.at_,xOf s o,yOf s o,if o.kind=4∨o.kind=5 then s.regs else []⟩=opT o:=by
    unfold evT opT
    dsimp only
    split
    ·rw [h]
    ·rfl
   rw [if_pos c,List.filter_cons_of_pos (by simpa using c),List.map_append,List.append_assoc]
   refine congrArg (s.evs.map evT++ ·) ?_
   show evT _::_=opT o::_
   rw [e];rfl
  ·rw [if_neg c,List.filter_cons_of_neg (by simpa using c)]
theorem Jh {n:Int} {i:Nat} {s:SS} {b:Blk} (h:SI n i s):aT (kW b s).x∧aT (kW b s).y:=by
 unfold kW
 dsimp only
 constructor
 ·split
  ·exact bU
  ·exact(Fq h.vok _).1
 ·split
  ·exact(Fq h.vok _).1
  ·exact bU
theorem Ji {s:Sym} {n:Int} (h:aT s.x∧aT s.y):(symEnd s n).events=s.events∧(symEnd s n).regs=s.regs∧aT (symEnd s n).x∧aT (symEnd s n).y:=by
 unfold symEnd
 rw [if_neg (by rw [dB h];simp)]
 repeat' split
 all_goals first | exact⟨rfl,rfl,h⟩ | exact⟨rfl,rfl,bU,bU⟩ | exact⟨rfl,rfl,h.2,h.1⟩
structure amo (t:List Atom) (b:Blk):Prop where
 evs:(bH t b).2.events.map evT=(SQ b.ops).map opT
 r4:(bH t b).2.regs.length=4
 sh:ShY (bH t b).2
 ne:0< (bH t b).1.length
theorem ND {t:List Atom} {b:Blk} (h:aI t) (hl:t.length≤100) (hb:bZ b):amo t b:=by
 have sz:=hb.sz
 have i0:=Fu h (by omega)
 obtain⟨h1,h2⟩:=Jf h hl hb
 have hs:=QI b.ops 0 (s0 t) i0 hb.k3 (by omega) (by omega) ⟨by simp [s0],fun e he=>absurd he (by simp [s0])⟩
 have he:=SX b.ops (s0 t) i0.r4
 have hk:=Ji (n:=b.pc+b.len) (Jh (b:=b) h1)
 have e:bH t b=((gI t b).t,symEnd (kW b (gI t b)) (b.pc+b.len)):=by unfold bH;rw [if_pos (dB ⟨h,hl,hb⟩)]
 rw [Nat.zero_add]at hs
 refine⟨?_,?_,?_,?_⟩
 ·rw [e];dsimp only;rw [hk.1];show(gI t b).evs.map evT=_;unfold gI;rw [he];rfl
 ·rw [e];dsimp only;rw [hk.2.1];exact h1.r4
 ·rw [e]
  refine⟨?_,?_,hk.2.2.1.sh,hk.2.2.2.sh⟩
  ·rw [hk.1];exact⟨by have:=hs.1;show(b.ops.foldl stp (s0 t)).evs.length<_;omega,hs.2⟩
  ·rw [hk.2.1];exact h1.regs
 ·rw [e]
  have r:=z8 b.ops 0 (s0 t) i0 hb.k3 (by omega) (by omega)
  have:=BI r.2
  have p:=vF (Je h (by omega) (n:=3) (by omega))
  have p0:=Je h (by omega) (n:=3) (by omega)
  show 0< (gI t b).t.length
  have:(s0 t).t.length=(bI (rN t 3).1 ⟨1,(3:Nat),[],[]⟩).1.length:=rfl
  unfold gI
  omega
theorem Jj (t:List Atom) (b:Blk):ShY (bH t b).2∧ShT (bH t b).1:=by
 by_cases c:aI t∧t.length≤100∧bZ b
 ·exact⟨(ND c.1 c.2.1 c.2.2).sh,(Hu c.1 c.2.1 c.2.2).1.sh⟩
 ·unfold bH;rw [gH c,if_neg (by simp)];exact⟨abj,abb⟩
noncomputable def t4:List Atom:=(rN [] 4).1
theorem vG:aI []:=vE.2 ⟨All.zero,by simp⟩
theorem YN:aI t4∧t4.length≤4:=by
 have:=Ht vG (by simp) 4 (by omega)
 exact⟨this.tok,Nat.le_trans this.tl (by simp)⟩
noncomputable def chk (b c:Blk):Bool:=bp (bZ b∧bZ c∧b.pc=c.pc∧b.len=c.len∧(b=c∨(bH t4 b).2=(bH (bH t4 b).1 c).2))
structure Lk (b c:Blk):Prop where
 ob:bZ b
 oc:bZ c
 pc:b.pc=c.pc
 len:b.len=c.len
 run:∀u,aI u→u.length≤100→(bH u b).1=u→bH u c=bH u b
theorem Lk.refl {b:Blk} (h:bZ b):Lk b b:=⟨h,h,rfl,rfl,fun _ _ _ _=>rfl⟩
theorem Lk.trans {b c d:Blk} (h:Lk b c) (g:Lk c d):Lk b d:=⟨h.ob,g.oc,h.pc.trans g.pc,h.len.trans g.len,fun u h1 h2 h3=>by
 have e:=h.run u h1 h2 h3
 rw [g.run u h1 h2 (by rw [e];exact h3),e]⟩
theorem abl {b:Blk} (hb:bZ b):aI (bH t4 b).1∧(bH t4 b).1.length≤100∧bH (bH t4 b).1 b=bH t4 b:=by
 have h4:=YN
 have hr:=Hu h4.1 (by omega) hb
 have sz:=hb.sz
 refine⟨hr.1,by omega,?_⟩
 have:=UE h4.1 (by omega) hb hr.1 (by omega) (List.prefix_refl _)
 rw [this]
theorem Lk.chk {b c:Blk} (h:Lk b c):chk b c=true:=by
 obtain⟨h1,h2,h3⟩:=abl h.ob
 refine dB ⟨h.ob,h.oc,h.pc,h.len,Or.inr ?_⟩
 rw [h.run _ h1 h2 (by rw [h3]),h3]
end Go.TX.F
namespace Go.TX.F
open Go Go.AE Go.TX
def abm:Blk:=⟨0,0,[],0,0,0,0⟩
theorem iJ {α:Type} {d x:α} {l:List α} {i:Nat}:(l++ [x]).getD i d=if i<l.length then l.getD i d else if i=l.length then x else d:=by
 split
 ·rename_i h;rw [getD_lt (by rw [List.length_append];omega),getD_lt h,List.getElem_append_left]
 ·split
  ·rename_i h1 h2;subst h2;rw [getD_lt (by simp)];simp
  ·rw [List.getD_eq_getElem?_getD,List.getElem?_eq_none (by rw [List.length_append];simp only [List.length_cons,List.length_nil];omega)];rfl
theorem mV (f:SS→IOp→SS) (s:SS) {l:List IOp} {i:Nat} (h:i<l.length):(l.take (i+1)).foldl f s=f ((l.take i).foldl f s) l[i]:=by
 rw [List.take_succ_eq_append_getElem h,List.foldl_append];rfl
theorem Aa:∀(l:List IOp) (s:SS),(l.foldl stp s).vals.length=s.vals.length+l.length
 | [],_=>rfl
 | o::r,s=>by
  rw [List.foldl_cons,Aa r,List.length_cons]
  show(s.vals++ [nV s o]).length+_=_
  rw [List.length_append];simp only [List.length_cons,List.length_nil];omega
def ren (nm:List Int) (o:IOp):IOp:=⟨o.kind,if hX o then((nm).getD (o.x).toNat default)else o.x,if hY o then((nm).getD (o.y).toNat default)else o.y,o.k,o.at_⟩
def QJ (nm:List Int) (b:Blk) (ops:List IOp):Blk:=⟨b.pc,b.len,ops.map (ren nm),b.fin,if b.fin=1 then b.x else((nm).getD (b.x).toNat default),if 3≤b.fin then((nm).getD (b.y).toNat default)else b.y,b.k⟩
def cpN (s:List Int×List Int) (i:Int) (o:IOp):Int:=if o.kind=2∧0≤((s.2).getD (o.k).toNat default)then((s.2).getD (o.k).toNat default)else i
def cpL (s:List Int×List Int) (i:Int) (o:IOp):List Int:=if o.kind=2 then(if 0≤((s.2).getD (o.k).toNat default)then s.2 else s.2.set o.k.toNat i)else if o.kind=8 then s.2.set o.k.toNat ((s.1).getD (o.x).toNat default)else s.2
def cpS (ops:List IOp):Nat→List Int×List Int
 | 0=>([],[-1, -1, -1, -1])
 | i+1=>((cpS ops i).1++ [cpN (cpS ops i) i (ops.getD i default)],cpL (cpS ops i) i (ops.getD i default))
noncomputable def cB (b:Blk):Blk:=if bp (bZ b)=true then QJ (cpS b.ops b.ops.length).1 b b.ops else abm
theorem y8 (ops:List IOp):∀i,(cpS ops i).1.length=i∧(cpS ops i).2.length=4
 | 0=>⟨rfl,rfl⟩
 | i+1=>by
  obtain⟨h1,h2⟩:=y8 ops i
  constructor
  ·show((cpS ops i).1++ [_]).length=_
   rw [List.length_append,h1];rfl
  ·show(cpL (cpS ops i) i (ops.getD i default)).length=4
   unfold cpL
   repeat' split
   all_goals first | exact h2 | (rw [List.length_set];exact h2)
theorem QK (ops:List IOp):∀ {i n:Nat} {j:Nat},j<i→i≤n→(cpS ops n).1.getD j default=(cpS ops i).1.getD j default:=by
  intro i n j h1 h2
  induction n with
  | zero => have : i = 0 := by omega
            subst this;rfl
  | succ n ih=>
    by_cases c:i=n+1
    · subst c;rfl
    · have:=ih (by omega)
      rw [←this]
      show((cpS ops n).1++ [_]).getD j default=_
      rw [iJ,if_pos (by rw [(y8 ops n).1];omega)]
structure CI (ops:List IOp) (i:Nat) (s:SS):Prop where
 nm:∀j:Int,0≤j→j<i→(0≤(((cpS ops i).1).getD (j).toNat default)∧(((cpS ops i).1).getD (j).toNat default)≤j)∧((s.vals).getD ((((cpS ops i).1).getD (j).toNat default)).toNat default)=((s.vals).getD (j).toNat default)∧(mkV ((ops).getD (j).toNat default)→mkV ((ops).getD ((((cpS ops i).1).getD (j).toNat default)).toNat default))
 la:∀r:Int,0≤r→r≤3→0≤(((cpS ops i).2).getD (r).toNat default)→(((cpS ops i).2).getD (r).toNat default)<i∧((s.vals).getD ((((cpS ops i).2).getD (r).toNat default)).toNat default)=((s.regs).getD (r).toNat default)∧mkV ((ops).getD ((((cpS ops i).2).getD (r).toNat default)).toNat default)
theorem Jk {α:Type} {d x:α} {l:List α} {i j:Int} (h0:0≤i) (h1:0≤j) (h2:j<l.length):(l.set j.toNat x).getD i.toNat d=if i=j then x else l.getD i.toNat d:=by
 by_cases c:i<l.length
 ·rw [getD_lt (by rw [List.length_set];omega),getD_lt (by omega),List.getElem_set]
  by_cases e:i=j
  ·subst e;rw [if_pos rfl,if_pos rfl]
  ·rw [if_neg (by omega),if_neg e]
 ·rw [if_neg (by omega)]
  simp only [List.getD_eq_getElem?_getD]
  rw [List.getElem?_eq_none (by rw [List.length_set];omega),List.getElem?_eq_none (by omega)]
theorem Fv {b:Blk} (hb:bZ b) (t:List Atom) (h4:(s0 t).regs.length=4):∀i:Nat,i≤b.ops.length→
  ((b.ops.map (ren (cpS b.ops b.ops.length).1)).take i).foldl stp (s0 t)=(b.ops.take i).foldl stp (s0 t)∧((b.ops.take i).foldl stp (s0 t)).regs.length=4∧CI b.ops i ((b.ops.take i).foldl stp (s0 t))
 | 0,_=>⟨rfl,h4,⟨fun j h1 h2=>absurd h2 (by omega),fun r h1 h2 h3=>by
   exfalso
   have:(((cpS b.ops 0).2).getD (r).toNat default)= -1:=by
    show((([-1, -1, -1, -1]:List Int)).getD (r).toNat default)= -1
    rcases(by omega:r=0∨r=1∨r=2∨r=3)with h | h | h | h<;>subst h<;>rfl
   omega⟩⟩
 | i+1,hi=>by
  obtain⟨ih1,ihr,ih2⟩:=Fv hb t h4 i (by omega)
  have hlt:i<b.ops.length:=hi
  have hok:=hb.op i (by omega) (by omega)
  rw [show(i:Int).toNat=i from rfl,getD_lt hlt]at hok
  have eo:b.ops.getD i default=b.ops[i]:=getD_lt hlt
  have hv:=Aa (b.ops.take i) (s0 t)
  rw [List.length_take,Nat.min_eq_left (by omega),show(s0 t).vals.length=0 from rfl,Nat.zero_add]at hv
  obtain⟨cl1,cl2⟩:=y8 b.ops i
  rw [mV _ _ (by rw [List.length_map];exact hlt),mV _ _ hlt,ih1,List.getElem_map]
  clear ih1
  generalize (b.ops.take i).foldl stp (s0 t)=s at ihr ih2 hv ⊢
  generalize ho:b.ops[i]=o at hok eo ⊢
  have nmx:∀j:Int,0≤j→j<i→(((cpS b.ops b.ops.length).1).getD (j).toNat default)=(((cpS b.ops i).1).getD (j).toNat default):=fun j h1 h2=>QK b.ops (by omega) (by omega)
  have vx:∀j:Int,0≤j→j<i→((s.vals).getD ((((cpS b.ops b.ops.length).1).getD (j).toNat default)).toNat default)=((s.vals).getD (j).toNat default):=fun j h1 h2=>by rw [nmx j h1 h2];exact(ih2.nm j h1 h2).2.1
  have ex:xOf s (ren (cpS b.ops b.ops.length).1 o)=xOf s o:=by
   unfold xOf
   by_cases c:hX o
   ·rw [if_pos (show hX (ren _ o)from c),if_pos c]
    show((s.vals).getD ((if hX o then(((cpS b.ops b.ops.length).1).getD (o.x).toNat default)else o.x)).toNat default)=_
    rw [if_pos c];exact vx _ (hok.x1 c).1 (hok.x1 c).2.1
   ·rw [if_neg (show¬hX (ren _ o)from c),if_neg c]
  have ey:yOf s (ren (cpS b.ops b.ops.length).1 o)=yOf s o:=by
   unfold yOf
   by_cases c:hY o
   ·rw [if_pos (show hY (ren _ o)from c),if_pos c]
    show((s.vals).getD ((if hY o then(((cpS b.ops b.ops.length).1).getD (o.y).toNat default)else o.y)).toNat default)=_
    rw [if_pos c];exact vx _ (hok.y1 c).1 (hok.y1 c).2.1
   ·rw [if_neg (show¬hY (ren _ o)from c),if_neg c]
  have es:stp s (ren (cpS b.ops b.ops.length).1 o)=stp s o:=by
   unfold stp nT nV nR nE aOf
   rw [ex,ey];rfl
  have r4:(stp s o).regs.length=4:=by
   show(nR s o).length=4
   unfold nR;split
   ·rw [List.length_set];exact ihr
   ·exact ihr
  refine⟨es,r4,?_⟩
  have vs:∀j:Int,0≤j→j<i→(((stp s o).vals).getD (j).toNat default)=((s.vals).getD (j).toNat default):=fun j h1 h2=>by
   show(((s.vals++ [nV s o])).getD (j).toNat default)=_
   rw [iJ,if_pos (by omega)]
  have vi:(((stp s o).vals).getD ((i:Int)).toNat default)=nV s o:=by
   show(((s.vals++ [nV s o])).getD ((i:Int)).toNat default)=_
   rw [iJ,if_neg (by omega),if_pos (by omega)]
  have ns:∀j:Int,0≤j→j<i→(((cpS b.ops (i+1)).1).getD (j).toNat default)=(((cpS b.ops i).1).getD (j).toNat default):=fun j h1 h2=>QK b.ops (by omega) (by omega)
  have ni:(((cpS b.ops (i+1)).1).getD ((i:Int)).toNat default)=cpN (cpS b.ops i) i o:=by
   show((((cpS b.ops i).1++ [cpN (cpS b.ops i) i (b.ops.getD i default)])).getD ((i:Int)).toNat default)=_
   rw [iJ,if_neg (by omega),if_pos (by omega),eo]
  have nl:(cpS b.ops (i+1)).2=cpL (cpS b.ops i) i o:=by
   show cpL (cpS b.ops i) i (b.ops.getD i default)=_
   rw [eo]
  have eoi:((b.ops).getD ((i:Int)).toNat default)=o:=by rw [show(i:Int).toNat=i from rfl,eo]
  refine⟨fun j h1 h2=> ?_,fun r h1 h2 h3=> ?_⟩
  ·by_cases c:j<i
   ·obtain⟨⟨g1,g2⟩,g3,g4⟩:=ih2.nm j h1 c
    rw [ns j h1 c]
    exact⟨⟨g1,g2⟩,by rw [vs _ g1 (by omega),vs j h1 c];exact g3,g4⟩
   ·have:j=(i:Int):=by omega
    subst this
    rw [ni]
    unfold cpN
    by_cases c2:o.kind=2∧0≤(((cpS b.ops i).2).getD (o.k).toNat default)
    ·rw [if_pos c2]
     have hk:=hok.k2 (Or.inl c2.1)
     obtain⟨g1,g2,g3⟩:=ih2.la o.k hk.1 hk.2 c2.2
     refine⟨⟨c2.2,by omega⟩,?_,fun _=>g3⟩
     rw [vs _ c2.2 g1,vi,g2]
     unfold nV;rw [if_neg (by omega),if_pos c2.1]
    ·rw [if_neg c2]
     exact⟨⟨by omega,Int.le_refl _⟩,rfl,fun h=>h⟩
  ·rw [nl]at h3 ⊢
   unfold cpL at h3 ⊢
   have old:0≤(((cpS b.ops i).2).getD (r).toNat default)→(o.kind=8→r≠o.k)→(((cpS b.ops i).2).getD (r).toNat default)< ((i+1:Nat):Int)∧(((stp s o).vals).getD ((((cpS b.ops i).2).getD (r).toNat default)).toNat default)=(((stp s o).regs).getD (r).toNat default)∧mkV ((b.ops).getD ((((cpS b.ops i).2).getD (r).toNat default)).toNat default):=fun g0 g=>by
    obtain⟨g1,g2,g3⟩:=ih2.la r h1 h2 g0
    refine⟨by omega,?_,g3⟩
    rw [vs _ g0 g1,g2]
    show _=(((nR s o)).getD (r).toNat default)
    unfold nR
    split
    ·rename_i c8
     have hk:=hok.k2 (Or.inr c8)
     rw [Jk h1 hk.1 (by omega),if_neg (g c8)]
    ·rfl
   by_cases c2:o.kind=2
   ·have hk:=hok.k2 (Or.inl c2)
    rw [if_pos c2]at h3 ⊢
    by_cases c3:0≤(((cpS b.ops i).2).getD (o.k).toNat default)
    ·rw [if_pos c3]at h3 ⊢
     exact old h3 (fun e=>absurd e (by omega))
    ·rw [if_neg c3]at h3 ⊢
     rw [Jk h1 hk.1 (by omega)]at h3 ⊢
     by_cases c4:r=o.k
     ·rw [if_pos c4]at h3 ⊢
      refine⟨by omega,?_,by rw [eoi];exact Or.inl (by omega)⟩
      rw [vi]
      show nV s o=(((nR s o)).getD (r).toNat default)
      unfold nV nR
      rw [if_neg (by omega),if_pos c2,if_neg (by omega),c4]
     ·rw [if_neg c4]at h3 ⊢
      exact old h3 (fun e=>absurd e (by omega))
   ·rw [if_neg c2]at h3 ⊢
    by_cases c8:o.kind=8
    ·have hk:=hok.k2 (Or.inr c8)
     have hx:hX o:=by unfold hX;omega
     have v:=hok.x1 hx
     obtain⟨⟨g1,g2⟩,g3,g4⟩:=ih2.nm o.x v.1 v.2.1
     rw [if_pos c8]at h3 ⊢
     rw [Jk h1 hk.1 (by omega)]at h3 ⊢
     by_cases c4:r=o.k
     ·rw [if_pos c4]at h3 ⊢
      have v1:=v.2.1
      refine⟨by omega,?_,g4 v.2.2⟩
      rw [vs _ g1 (by omega),g3]
      show _=(((nR s o)).getD (r).toNat default)
      unfold nR
      rw [if_pos c8,Jk h1 hk.1 (by omega),if_pos c4]
      unfold xOf;rw [if_pos hx]
     ·rw [if_neg c4]at h3 ⊢
      exact old h3 (fun _=>c4)
    ·rw [if_neg c8]at h3 ⊢
     exact old h3 (fun e=>absurd e c8)
theorem YO {nm:List Int} {b:Blk} {ops:List IOp} (i:Int):((((ops.map (ren nm))).getD (i).toNat default)).kind=(((ops).getD (i).toNat default)).kind:=by
 by_cases c:i.toNat<ops.length
 ·rw [getD_lt (by rw [List.length_map];exact c),getD_lt c,List.getElem_map];rfl
 ·simp only [List.getD_eq_getElem?_getD]
  rw [List.getElem?_eq_none (by rw [List.length_map];omega),List.getElem?_eq_none (by omega)]
theorem A9 {b:Blk} (hb:bZ b):Lk b (cB b)∧(cB b).ops.length=b.ops.length∧∀u,aI u→u.length≤100→bH u (cB b)=bH u b:=by
 have e:cB b=QJ (cpS b.ops b.ops.length).1 b b.ops:=by unfold cB;rw [if_pos (dB hb)]
 have i0:=Fu vG (by simp)
 obtain⟨_,_,ci⟩:=Fv hb [] i0.r4 b.ops.length (Nat.le_refl _)
 have kd:∀i:Int,((((b.ops.map (ren (cpS b.ops b.ops.length).1))).getD (i).toNat default)).kind=(((b.ops).getD (i).toNat default)).kind:=fun i=>YO (b:=b) i
 have vl:∀ {x n:Int},Vl b.ops x n→n≤b.ops.length→Vl (b.ops.map (ren (cpS b.ops b.ops.length).1)) (((cpS b.ops b.ops.length).1).getD (x).toNat default) n:=fun {x n} ⟨h1,h2,h3⟩ hn=>by
  obtain⟨⟨g1,g2⟩,_,g4⟩:=ci.nm x h1 (by omega)
  have:=g4 h3
  exact⟨g1,by omega,by unfold mkV at this ⊢;rw [kd];exact this⟩
 have ok:bZ (cB b):=by
  rw [e]
  refine⟨hb.ln,hb.pc,by show(b.ops.map _).length≤48;rw [List.length_map];exact hb.sz,fun i h1 h2=> ?_,?_⟩
  ·have h2:i< (b.ops.map (ren (cpS b.ops b.ops.length).1)).length:=h2
   rw [List.length_map]at h2
   have ho:=hb.op i h1 h2
   show Bu (b.ops.map _) b.len i (((b.ops.map (ren (cpS b.ops b.ops.length).1))).getD (i).toNat default)
   rw [getD_lt (show i.toNat< (b.ops.map (ren (cpS b.ops b.ops.length).1)).length by rw [List.length_map];omega),List.getElem_map]
   rw [getD_lt (show i.toNat<b.ops.length by omega)]at ho
   generalize b.ops[i.toNat]=o at ho
   refine⟨ho.kd,fun h=> ?_,fun h=> ?_,fun h=> ?_,fun h=> ?_,ho.k1,ho.k2,ho.k3,ho.k0,ho.a1,ho.a0⟩
   ·have h:hX o:=h
    show Vl _ (if hX o then _ else _) i;rw [if_pos h];exact vl (ho.x1 h) (by omega)
   ·have h:¬hX o:=h
    show(if hX o then _ else _)=_;rw [if_neg h];exact ho.x0 h
   ·have h:hY o:=h
    show Vl _ (if hY o then _ else _) i;rw [if_pos h];exact vl (ho.y1 h) (by omega)
   ·have h:¬hY o:=h
    show(if hY o then _ else _)=_;rw [if_neg h];exact ho.y0 h
  ·have he:=hb.en
   refine⟨he.f,fun h=> ?_,fun h=> ?_,fun h=> ?_,fun h=> ?_,he.k1,he.k0⟩
   ·have h:b.fin≠1:=h
    show Vl (b.ops.map _) (if b.fin=1 then _ else _) ((b.ops.map _).length:Nat)
    rw [if_neg h,List.length_map];exact vl (he.x1 h) (Int.le_refl _)
   ·have h:b.fin=1:=h
    show(if b.fin=1 then _ else _)=_;rw [if_pos h];exact he.x0 h
   ·have h:3≤b.fin:=h
    show Vl (b.ops.map _) (if 3≤b.fin then _ else _) ((b.ops.map _).length:Nat)
    rw [if_pos h,List.length_map];exact vl (he.y1 h) (Int.le_refl _)
   ·have h:b.fin≤2:=h
    show(if 3≤b.fin then _ else _)=_;rw [if_neg (by omega)];exact he.y0 h
 suffices R:∀u,aI u→u.length≤100→bH u (cB b)=bH u b from⟨⟨hb,ok,by rw [e];rfl,by rw [e];rfl,fun u h1 h2 _=>R u h1 h2⟩,by rw [e];exact List.length_map _,R⟩
 intro u h1 h2
 have i1:=Fu h1 (by omega)
 obtain⟨r1,_,r3⟩:=Fv hb u i1.r4 b.ops.length (Nat.le_refl _)
 rw [List.take_of_length_le (by rw [List.length_map];omega),List.take_of_length_le (by omega)]at r1
 rw [List.take_of_length_le (by omega)]at r3
 have es:gI u (cB b)=gI u b:=by rw [e];exact r1
 unfold bH
 rw [if_pos (dB ⟨h1,h2,ok⟩),if_pos (dB ⟨h1,h2,hb⟩),es]
 have em:kW (cB b) (gI u b)=kW b (gI u b):=by
  rw [e]
  unfold kW QJ
  dsimp only
  have en:=hb.en
  have xe:b.fin≠1→(((gI u b).vals).getD ((((cpS b.ops b.ops.length).1).getD (b.x).toNat default)).toNat default)=(((gI u b).vals).getD (b.x).toNat default):=fun h=>(r3.nm b.x (en.x1 h).1 (en.x1 h).2.1).2.1
  have ye:3≤b.fin→(((gI u b).vals).getD ((((cpS b.ops b.ops.length).1).getD (b.y).toNat default)).toNat default)=(((gI u b).vals).getD (b.y).toNat default):=fun h=>(r3.nm b.y (en.y1 h).1 (en.y1 h).2.1).2.1
  congr 1
  ·split
   ·rfl
   ·rename_i h;exact xe h
  ·split
   ·rename_i h;exact ye h
   ·rfl
 rw [em]
 rw [show(cB b).pc=b.pc by rw [e];rfl,show(cB b).len=b.len by rw [e];rfl]
theorem QL {b:Blk} (hb:bZ b):Lk b (cB b)∧(cB b).ops.length=b.ops.length:=⟨(A9 hb).1,(A9 hb).2.1⟩
end Go.TX.F
namespace Go.TX.F
open Go Go.AE Go.TX
def fcO (f:List IOp) (o:IOp):IOp:=if o.kind=3∧(((f).getD (o.x).toNat default)).kind=1∧(((f).getD (o.y).toNat default)).kind=1 then⟨1,0,0,wdo o.k (((f).getD (o.x).toNat default)).k (((f).getD (o.y).toNat default)).k,0⟩else o
def fc (ops:List IOp):Nat→List IOp
 | 0=> []
 | i+1=>fc ops i++ [fcO (fc ops i) (ops.getD i default)]
def fcB (b:Blk) (f:List IOp):Blk:=
 if b.fin=2∧(((f).getD (b.x).toNat default)).kind=1 then⟨b.pc,b.len,f,1,0,b.y,(((f).getD (b.x).toNat default)).k⟩
 else if 3≤b.fin∧(((f).getD (b.x).toNat default)).kind=1∧(((f).getD (b.y).toNat default)).kind=1 then⟨b.pc,b.len,f,1,0,0,if b.fin=3∧(((f).getD (b.x).toNat default)).k=(((f).getD (b.y).toNat default)).k∨b.fin=4∧(((f).getD (b.x).toNat default)).k< (((f).getD (b.y).toNat default)).k then b.k else b.pc+b.len⟩
 else⟨b.pc,b.len,f,b.fin,b.x,b.y,b.k⟩
noncomputable def eO (b:Blk):Blk:=if bp (bZ b)=true then fcB b (fc b.ops b.ops.length)else abm
theorem oW (ops:List IOp):∀i,(fc ops i).length=i
 | 0=>rfl
 | i+1=>by show(fc ops i++ [_]).length=_;rw [List.length_append,oW ops i];rfl
theorem acd (ops:List IOp) {i n j:Nat} (h1:j<i) (h2:i≤n):(fc ops n).getD j default=(fc ops i).getD j default:=by
  induction n with
  | zero => have : i = 0 := by omega
            subst this;rfl
  | succ n ih=>
    by_cases c:i=n+1
    · subst c;rfl
    · have:=ih (by omega)
      rw [←this]
      show(fc ops n++ [_]).getD j default=_
      rw [iJ,if_pos (by rw [oW];omega)]
theorem QM (ops:List IOp) {i n:Nat} (h:i<n):(fc ops n).getD i default=fcO (fc ops i) (ops.getD i default):=by
 rw [acd ops (show i<i+1 by omega) (show i+1≤n by omega)]
 show(fc ops i++ [_]).getD i default=_
 rw [iJ,if_neg (by rw [oW];omega),if_pos (by rw [oW])]
structure FI (ops:List IOp) (i:Nat) (s:SS):Prop where
 c:∀j:Int,0≤j→j<i→((((fc ops i)).getD (j).toNat default)).kind=1→(0≤((((fc ops i)).getD (j).toNat default)).k∧((((fc ops i)).getD (j).toNat default)).k≤65535)∧((s.vals).getD (j).toNat default)=aX ((((fc ops i)).getD (j).toNat default)).k
 m:∀j:Int,0≤j→j<i→mkV ((ops).getD (j).toNat default)→mkV (((fc ops i)).getD (j).toNat default)
theorem UG (t:List Atom) {op a b:Int} (hop:1≤op∧op≤5) (ha:0≤a∧a≤65535) (hb:0≤b∧b≤65535):tDo t op (aX a) (aX b)=(t,aX (wdo op a b)):=by
 unfold tDo;rw [QG hop ha hb,if_pos rfl]
theorem Ab {b:Blk} (hb:bZ b) (t:List Atom):∀i:Nat,i≤b.ops.length→
  ((fc b.ops b.ops.length).take i).foldl stp (s0 t)=(b.ops.take i).foldl stp (s0 t)∧FI b.ops i ((b.ops.take i).foldl stp (s0 t))
 | 0,_=>⟨rfl,⟨fun j h1 h2=>absurd h2 (by omega),fun j h1 h2=>absurd h2 (by omega)⟩⟩
 | i+1,hi=>by
  obtain⟨ih1,ih2⟩:=Ab hb t i (by omega)
  have hlt:i<b.ops.length:=hi
  have hok:=hb.op i (by omega) (by omega)
  rw [show(i:Int).toNat=i from rfl,getD_lt hlt]at hok
  have eo:b.ops.getD i default=b.ops[i]:=getD_lt hlt
  have hv:=Aa (b.ops.take i) (s0 t)
  rw [List.length_take,Nat.min_eq_left (by omega),show(s0 t).vals.length=0 from rfl,Nat.zero_add]at hv
  have fl:=oW b.ops i
  have fo:(fc b.ops b.ops.length)[i]'(by rw [oW];exact hlt)=fcO (fc b.ops i) b.ops[i]:=by
   rw [←eo,←QM b.ops hlt,getD_lt]
  rw [mV _ _ (by rw [oW];exact hlt),mV _ _ hlt,ih1,fo]
  clear ih1
  generalize (b.ops.take i).foldl stp (s0 t)=s at ih2 hv ⊢
  generalize ho:b.ops[i]=o at hok eo fo ⊢
  have key:o.kind=3∧((((fc b.ops i)).getD (o.x).toNat default)).kind=1∧((((fc b.ops i)).getD (o.y).toNat default)).kind=1→xOf s o=aX ((((fc b.ops i)).getD (o.x).toNat default)).k∧yOf s o=aX ((((fc b.ops i)).getD (o.y).toNat default)).k∧(0≤((((fc b.ops i)).getD (o.x).toNat default)).k∧((((fc b.ops i)).getD (o.x).toNat default)).k≤65535)∧(0≤((((fc b.ops i)).getD (o.y).toNat default)).k∧((((fc b.ops i)).getD (o.y).toNat default)).k≤65535):=fun⟨c1,c2,c3⟩=>by
   have hx:hX o:=by unfold hX;omega
   have hy:hY o:=Or.inl c1
   have v1:=hok.x1 hx
   have v2:=hok.y1 hy
   have g1:=ih2.c o.x v1.1 v1.2.1 c2
   have g2:=ih2.c o.y v2.1 v2.2.1 c3
   refine⟨?_,?_,g1.1,g2.1⟩
   ·unfold xOf;rw [if_pos hx];exact g1.2
   ·unfold yOf;rw [if_pos hy];exact g2.2
  have es:stp s (fcO (fc b.ops i) o)=stp s o∧((fcO (fc b.ops i) o).kind=1→(0≤(fcO (fc b.ops i) o).k∧(fcO (fc b.ops i) o).k≤65535)∧nV s o=aX (fcO (fc b.ops i) o).k)∧(mkV o→mkV (fcO (fc b.ops i) o)):=by
   unfold fcO
   by_cases c:o.kind=3∧((((fc b.ops i)).getD (o.x).toNat default)).kind=1∧((((fc b.ops i)).getD (o.y).toNat default)).kind=1
   ·rw [if_pos c]
    obtain⟨k1,k2,k3,k4⟩:=key c
    have hd:=UG s.t (hok.k3 c.1) k3 k4
    have e1:nT s o=s.t:=by unfold nT;rw [if_pos c.1,k1,k2,hd]
    have e2:nV s o=aX (wdo o.k ((((fc b.ops i)).getD (o.x).toNat default)).k ((((fc b.ops i)).getD (o.y).toNat default)).k):=by unfold nV;rw [if_neg (by omega),if_neg (by omega),if_pos c.1,k1,k2,hd]
    refine⟨?_,fun _=>⟨SE _ _ _,e2⟩,fun _=>Or.inl ⟨by dsimp only;omega,by dsimp only;omega⟩⟩
    have e3:nR s o=s.regs:=by unfold nR;rw [if_neg (by omega)]
    have e4:nE s o=s.evs:=by unfold nE;rw [if_neg (by omega)]
    show SS.mk (nT s ⟨1,0,0,_,0⟩) (nR s ⟨1,0,0,_,0⟩) (s.vals++ [nV s ⟨1,0,0,_,0⟩]) (if(1:Int)=4 then _ else _) (if(1:Int)=6 then _ else _) (nE s ⟨1,0,0,_,0⟩)=SS.mk (nT s o) (nR s o) (s.vals++ [nV s o]) (if o.kind=4 then _ else _) (if o.kind=6 then _ else _) (nE s o)
    rw [e1,e2,e3,e4,if_neg (show¬o.kind=4 by omega),if_neg (show¬o.kind=6 by omega)]
    rfl
   ·rw [if_neg c]
    refine⟨rfl,fun h=>⟨hok.k1 h,by unfold nV;rw [if_pos h]⟩,fun h=>h⟩
  refine⟨es.1,?_⟩
  have vs:∀j:Int,0≤j→j<i→(((stp s o).vals).getD (j).toNat default)=((s.vals).getD (j).toNat default):=fun j h1 h2=>by
   show(((s.vals++ [nV s o])).getD (j).toNat default)=_
   rw [iJ,if_pos (by omega)]
  have vi:(((stp s o).vals).getD ((i:Int)).toNat default)=nV s o:=by
   show(((s.vals++ [nV s o])).getD ((i:Int)).toNat default)=_
   rw [iJ,if_neg (by omega),if_pos (by omega)]
  have ns:∀j:Int,0≤j→j<i→(((fc b.ops (i+1))).getD (j).toNat default)=(((fc b.ops i)).getD (j).toNat default):=fun j h1 h2=>acd b.ops (by omega) (by omega)
  have ni:(((fc b.ops (i+1))).getD ((i:Int)).toNat default)=fcO (fc b.ops i) o:=by
   rw [show((i:Int)).toNat=i from rfl,QM b.ops (show i<i+1 by omega),eo]
  have eoi:((b.ops).getD ((i:Int)).toNat default)=o:=by rw [show(i:Int).toNat=i from rfl,eo]
  refine⟨fun j h1 h2 h3=> ?_,fun j h1 h2 h3=> ?_⟩
  ·by_cases c:j<i
   ·rw [ns j h1 c]at h3 ⊢;rw [vs j h1 c];exact ih2.c j h1 c h3
   ·have:j=(i:Int):=by omega
    subst this
    rw [ni]at h3 ⊢;rw [vi];exact es.2.1 h3
  ·by_cases c:j<i
   ·rw [ns j h1 c];exact ih2.m j h1 c h3
   ·have:j=(i:Int):=by omega
    subst this
    rw [eoi]at h3
    rw [ni];exact es.2.2 h3
theorem QN {a b:Int} (ha:0≤a∧a≤65535) (hb:0≤b∧b≤65535) (h:aX a=aX b):a=b:=by
 have:=gJ ha
 rw [h,gJ hb]at this
 exact(congrArg Prod.fst this).symm
theorem amq (b:Blk) (f:List IOp):(fcB b f).pc=b.pc∧(fcB b f).len=b.len∧(fcB b f).ops=f:=by
 unfold fcB;split
 ·exact⟨rfl,rfl,rfl⟩
 ·split<;>exact⟨rfl,rfl,rfl⟩
theorem NG {b:Blk} (hb:bZ b):Lk b (eO b)∧(eO b).ops.length=b.ops.length:=by
 have e:eO b=fcB b (fc b.ops b.ops.length):=by unfold eO;rw [if_pos (dB hb)]
 obtain⟨p1,p2,p3⟩:=amq b (fc b.ops b.ops.length)
 have fl:=oW b.ops b.ops.length
 obtain⟨_,fi⟩:=Ab hb [] b.ops.length (Nat.le_refl _)
 have vl:∀ {x n:Int},Vl b.ops x n→n≤b.ops.length→Vl (fc b.ops b.ops.length) x n:=fun {x n} ⟨h1,h2,h3⟩ hn=>⟨h1,h2,fi.m x h1 (by omega) h3⟩
 have en:=hb.en
 have h1:=hb.ln
 have h2:=hb.pc
 have ok:bZ (eO b):=by
  rw [e]
  refine⟨by rw [p2];exact hb.ln,by rw [p1,p2];exact hb.pc,by rw [p3,fl];exact hb.sz,fun i i1 i2=> ?_,?_⟩
  ·rw [p3]at i2 ⊢
   rw [fl]at i2
   rw [p2]
   have ho:=hb.op i i1 i2
   rw [QM b.ops (show i.toNat<b.ops.length by omega)]
   generalize b.ops.getD i.toNat default=o at ho
   unfold fcO
   split
   ·refine⟨by dsimp only;omega,fun h=>absurd h (by unfold hX;simp),fun _=>rfl,fun h=>absurd h (by unfold hY;simp),fun _=>rfl,fun _=>SE _ _ _,fun h=>absurd h (by simp),fun h=>absurd h (by simp),fun h=>absurd h (by simp),fun h=>absurd h (by unfold evO;simp),fun _=>rfl⟩
   ·exact⟨ho.kd,fun h=>vl (ho.x1 h) (by omega),ho.x0,fun h=>vl (ho.y1 h) (by omega),ho.y0,ho.k1,ho.k2,ho.k3,ho.k0,ho.a1,ho.a0⟩
  ·unfold fcB
   split
   ·rename_i c
    have v:=en.x1 (by omega)
    have g:=fi.c b.x v.1 v.2.1 c.2
    exact⟨by dsimp only;omega,fun h=>absurd rfl h,fun _=>rfl,fun h=>absurd h (by dsimp only;omega),fun _=>en.y0 (by omega),fun _=>g.1,fun h=>absurd h (by simp)⟩
   ·split
    ·rename_i c
     refine⟨by dsimp only;omega,fun h=>absurd rfl h,fun _=>rfl,fun h=>absurd h (by dsimp only;omega),fun _=>rfl,fun _=> ?_,fun h=>absurd h (by simp)⟩
     dsimp only
     split
     ·exact en.k1 (by omega)
     ·omega
    ·exact⟨en.f,fun h=>by dsimp only at h ⊢;rw [fl];exact vl (en.x1 h) (Int.le_refl _),en.x0,fun h=>by dsimp only at h ⊢;rw [fl];exact vl (en.y1 h) (Int.le_refl _),en.y0,en.k1,en.k0⟩
 refine⟨⟨hb,ok,by rw [e,p1],by rw [e,p2],fun u u1 u2 u3=> ?_⟩,by rw [e,p3,fl]⟩
 obtain⟨r1,r3⟩:=Ab hb u b.ops.length (Nat.le_refl _)
 rw [List.take_of_length_le (by omega),List.take_of_length_le (by omega)]at r1
 rw [List.take_of_length_le (by omega)]at r3
 have es:gI u (eO b)=gI u b:=by unfold gI;rw [e,p3];exact r1
 unfold bH
 rw [if_pos (dB ⟨u1,u2,ok⟩),if_pos (dB ⟨u1,u2,hb⟩),es]
 rw [e,p1,p2]
 have i1:=(Jf u1 u2 hb).1
 have pk:=Jh (b:=b) i1
 congr 1
 have r3:FI b.ops b.ops.length (gI u b):=r3
 generalize gI u b=s at r3 pk
 unfold fcB
 split
 ·rename_i c
  have v:=en.x1 (by omega)
  obtain⟨g1,g2⟩:=r3.c b.x v.1 v.2.1 c.2
  have ex:(kW b s).x=aX ((((fc b.ops b.ops.length)).getD (b.x).toNat default)).k:=by unfold kW;dsimp only;rw [if_neg (by omega)];exact g2
  have ey:(kW b s).y=[]:=by unfold kW;dsimp only;rw [if_neg (by omega)]
  have e1:symEnd (kW b s) (b.pc+b.len)=⟨s.evs,s.regs,1,[],[],((((fc b.ops b.ops.length)).getD (b.x).toNat default)).k⟩:=by
   unfold symEnd
   rw [if_neg (by rw [dB pk];simp),if_pos ⟨c.1,by rw [ex,gJ g1]⟩,ex,gJ g1];rfl
  rw [e1]
  unfold symEnd kW
  dsimp only
  rw [if_neg (by rw [dB ⟨by rw [if_pos rfl];exact bU,by rw [if_neg (by omega)];exact bU⟩];simp),if_neg (by omega),if_pos (by omega)]
  rw [if_pos rfl,if_neg (by omega)]
 ·split
  ·rename_i _ c
   have v:=en.x1 (by omega)
   have w:=en.y1 c.1
   obtain⟨g1,g2⟩:=r3.c b.x v.1 v.2.1 c.2.1
   obtain⟨g3,g4⟩:=r3.c b.y w.1 w.2.1 c.2.2
   have ex:(kW b s).x=aX ((((fc b.ops b.ops.length)).getD (b.x).toNat default)).k:=by unfold kW;dsimp only;rw [if_neg (by omega)];exact g2
   have ey:(kW b s).y=aX ((((fc b.ops b.ops.length)).getD (b.y).toNat default)).k:=by unfold kW;dsimp only;rw [if_pos c.1];exact g4
   have hf:=en.f
   have e1:symEnd (kW b s) (b.pc+b.len)=⟨s.evs,s.regs,1,[],[],if b.fin=3∧((((fc b.ops b.ops.length)).getD (b.x).toNat default)).k=((((fc b.ops b.ops.length)).getD (b.y).toNat default)).k∨b.fin=4∧((((fc b.ops b.ops.length)).getD (b.x).toNat default)).k< ((((fc b.ops b.ops.length)).getD (b.y).toNat default)).k then b.k else b.pc+b.len⟩:=by
    unfold symEnd
    rw [if_neg (by rw [dB pk];simp),if_neg (by show¬(b.fin=2∧_);omega),if_neg (by show¬(b.fin≠3∧b.fin≠4);omega)]
    rw [ex,ey,gJ g1,gJ g3,if_pos (Or.inr ⟨rfl,rfl⟩)]
    show Sym.mk s.evs s.regs 1 [] [] _=_
    congr 1
    show(if(_∧b.fin=3∨(true=true∧true=true)∧(b.fin=3∧_∨b.fin=4∧_))then b.k else _)=_
    by_cases d:b.fin=3∧((((fc b.ops b.ops.length)).getD (b.x).toNat default)).k=((((fc b.ops b.ops.length)).getD (b.y).toNat default)).k∨b.fin=4∧((((fc b.ops b.ops.length)).getD (b.x).toNat default)).k< ((((fc b.ops b.ops.length)).getD (b.y).toNat default)).k
    ·rw [if_pos d];exact if_pos (Or.inr ⟨⟨rfl,rfl⟩,d⟩)
    ·rw [if_neg d]
     refine if_neg ?_
     rintro(⟨q1,q2⟩ | ⟨_,q⟩)
     ·exact d (Or.inl ⟨q2,QN g1 g3 q1⟩)
     ·exact d q
   rw [e1]
   unfold symEnd kW
   dsimp only
   rw [if_neg (by rw [dB ⟨by rw [if_pos rfl];exact bU,by rw [if_neg (by omega)];exact bU⟩];simp),if_neg (by omega),if_pos (by omega)]
   rw [if_pos rfl,if_neg (by omega)]
  ·rfl
def kpS (ops:List IOp) (kp:List Bool):Nat→List Int×List IOp
 | 0=>([],[])
 | i+1=>((kpS ops kp i).1++ [((kpS ops kp i).2.length:Int)],if kp.getD i default=true then(kpS ops kp i).2++ [ops.getD i default]else(kpS ops kp i).2)
def Ba (b:Blk) (kp:List Bool):Blk:=QJ (kpS b.ops kp b.ops.length).1 b (kpS b.ops kp b.ops.length).2
def qb:List IOp→Int→Bool
 | [],_=>false
 | o::l,r=>if o.kind=4∨o.kind=5∨o.kind=2∧o.k=r then false else if o.kind=8∧o.k=r then true else qb l r
theorem y9 (ops:List IOp) (kp:List Bool):∀i,(kpS ops kp i).1.length=i∧(kpS ops kp i).2.length≤i
 | 0=>⟨rfl,Nat.le_refl _⟩
 | i+1=>by
  obtain⟨h1,h2⟩:=y9 ops kp i
  unfold kpS
  refine⟨by rw [List.length_append,h1];rfl,?_⟩
  dsimp only
  split
  ·rw [List.length_append];simp only [List.length_cons,List.length_nil];omega
  ·omega
theorem abn (ops:List IOp) (kp:List Bool) {i n:Nat} (h:i≤n):(kpS ops kp i).2<+:(kpS ops kp n).2∧(kpS ops kp i).1<+:(kpS ops kp n).1:=by
 induction n with
 | zero=>rw [show i=0 by omega];exact⟨List.prefix_refl _,List.prefix_refl _⟩
 | succ n ih=>
  by_cases c:i=n+1
  ·subst c;exact⟨List.prefix_refl _,List.prefix_refl _⟩
  ·obtain⟨h1,h2⟩:=ih (by omega)
   refine⟨h1.trans ?_,h2.trans (List.prefix_append _ _)⟩
   show _<+:if kp.getD n default=true then _ else _
   split
   ·exact List.prefix_append _ _
   ·exact List.prefix_refl _
structure KP (b:Blk) (kp:List Bool):Prop where
 x:∀i:Int,0≤i→i<b.ops.length→((kp).getD (i).toNat default)=true→hX ((b.ops).getD (i).toNat default)→((kp).getD ((((b.ops).getD (i).toNat default)).x).toNat default)=true
 y:∀i:Int,0≤i→i<b.ops.length→((kp).getD (i).toNat default)=true→hY ((b.ops).getD (i).toNat default)→((kp).getD ((((b.ops).getD (i).toNat default)).y).toNat default)=true
 ex:b.fin≠1→((kp).getD (b.x).toNat default)=true
 ey:3≤b.fin→((kp).getD (b.y).toNat default)=true
 no:∀i:Int,0≤i→i<b.ops.length→((kp).getD (i).toNat default)=false→(((b.ops).getD (i).toNat default)).kind≤3∨(((b.ops).getD (i).toNat default)).kind=8∧qb (b.ops.drop (i.toNat+1)) (((b.ops).getD (i).toNat default)).k=true
structure KI (b:Blk) (kp:List Bool) (i:Nat) (s s':SS):Prop where
 t:s'.t=s.t
 ld:s'.ld=s.ld
 inn:s'.inn=s.inn
 evs:s'.evs=s.evs
 vl:s'.vals.length=(kpS b.ops kp i).2.length
 v:∀j:Nat,j<i→kp.getD j default=true→s'.vals.getD (kpS b.ops kp j).2.length default=s.vals.getD j default
 r4:s'.regs.length=4∧s.regs.length=4
 rg:∀r:Int,0≤r→r≤3→qb (b.ops.drop i) r=false→((s'.regs).getD (r).toNat default)=((s.regs).getD (r).toNat default)
def qN (ops:List IOp):List Bool:=(List.range ops.length).map fun i=> !(decide ((ops.getD i default).kind=8)&&qb (ops.drop (i+1)) (ops.getD i default).k)
noncomputable def vH (b:Blk):Blk:=if bp (bZ b)=true then Ba b (qN b.ops)else abm
theorem UH {ops:List IOp} {i:Nat} (h:i<ops.length):(qN ops).getD i default= !(decide ((ops.getD i default).kind=8)&&qb (ops.drop (i+1)) (ops.getD i default).k):=by
 unfold qN
 rw [getD_lt (by rw [List.length_map,List.length_range];exact h),List.getElem_map,List.getElem_range]
def us0 (b:Blk):List Bool:=(fun m:List Bool=>if 3≤b.fin then m.set b.y.toNat true else m) (if b.fin=1 then List.replicate b.ops.length false else(List.replicate b.ops.length false).set b.x.toNat true)
def usO (o:IOp) (i:Nat) (m:List Bool):List Bool:=
 if(m.getD i default || decide (4≤o.kind))=true then(fun m:List Bool=>if hY o then m.set o.y.toNat true else m) ((fun m:List Bool=>if hX o then m.set o.x.toNat true else m) (m.set i true))else m
def us (b:Blk):Nat→List Bool
 | 0=>us0 b
 | k+1=>usO (b.ops.getD (b.ops.length-1-k) default) (b.ops.length-1-k) (us b k)
noncomputable def BJ (b:Blk):List Bool:=if bp (bZ b)=true then us b b.ops.length else []
noncomputable def nN (b:Blk):Blk:=if bp (bZ b)=true then Ba b (us b b.ops.length)else abm
theorem abo (o:IOp) (i:Nat) (m:List Bool):(usO o i m).length=m.length:=by
 unfold usO;dsimp only;repeat' split
 all_goals simp only [List.length_set]
theorem abp (b:Blk):(us0 b).length=b.ops.length:=by
 unfold us0;dsimp only;repeat' split
 all_goals simp only [List.length_set,List.length_replicate]
theorem Ac (b:Blk):∀k,(us b k).length=b.ops.length
 | 0=>abp b
 | k+1=>by unfold us;rw [abo,Ac b k]
theorem vI {m:List Bool} {i:Nat} {j:Int} (h:j.toNat<m.length):(m.set j.toNat true).getD i default=(m.getD i default || decide (i=j.toNat)):=by
 by_cases c:i=j.toNat
 ·subst c;rw [getD_lt (by rw [List.length_set];exact h),List.getElem_set_self,decide_eq_true rfl,Bool.or_true]
 ·rw [decide_eq_false c,Bool.or_false]
  simp only [List.getD,List.getElem?_set_ne (Ne.symm c)]
theorem SY {o:IOp} {i t:Nat} {m:List Bool} (hi:i<m.length) (hx:hX o→o.x.toNat<m.length) (hy:hY o→o.y.toNat<m.length):(usO o i m).getD t default=true↔m.getD t default=true∨(m.getD i default=true∨4≤o.kind)∧(t=i∨hX o∧t=o.x.toNat∨hY o∧t=o.y.toNat):=by
 unfold usO
 dsimp only
 by_cases c:(m.getD i default || decide (4≤o.kind))=true
 ·rw [if_pos c]
  rw [Bool.or_eq_true,decide_eq_true_eq]at c
  have e1:∀t:Nat,(m.set i true).getD t default=true↔m.getD t default=true∨t=i:=fun t=>by
   have:=vI (m:=m) (i:=t) (j:=(i:Int)) hi
   rw [show((i:Int)).toNat=i from rfl]at this
   rw [this,Bool.or_eq_true,decide_eq_true_eq]
  have e2:∀t:Nat,((if hX o then(m.set i true).set o.x.toNat true else m.set i true).getD t default=true)↔(m.getD t default=true∨t=i)∨hX o∧t=o.x.toNat:=fun t=>by
   by_cases d:hX o
   ·rw [if_pos d,vI (by rw [List.length_set];exact hx d),Bool.or_eq_true,decide_eq_true_eq,e1];exact⟨fun h=>h.elim Or.inl (fun h=>Or.inr ⟨d,h⟩),fun h=>h.elim Or.inl (fun h=>Or.inr h.2)⟩
   ·rw [if_neg d,e1];exact⟨Or.inl,fun h=>h.elim id (fun h=>absurd h.1 d)⟩
  have l2:(if hX o then(m.set i true).set o.x.toNat true else m.set i true).length=m.length:=by split<;>simp only [List.length_set]
  by_cases d:hY o
  ·rw [if_pos d,vI (by rw [l2];exact hy d),Bool.or_eq_true,decide_eq_true_eq,e2];have c':=eq_true c;have d':=eq_true d;generalize hY o=Y at d' ⊢;generalize hX o=Z;rw [c',d'];grind
  ·rw [if_neg d,e2];have c':=eq_true c;have d':=eq_false d;generalize hY o=Y at d' ⊢;generalize hX o=Z;rw [c',d'];grind
 ·rw [if_neg c]
  rw [Bool.or_eq_true,decide_eq_true_eq]at c
  simp only [c,false_and,or_false]
theorem QO {m:List Bool} {t:Nat} {j:Int} (h:j.toNat<m.length):(m.set j.toNat true).getD t default=true↔m.getD t default=true∨t=j.toNat:=by rw [vI h,Bool.or_eq_true,decide_eq_true_eq]
structure UI (b:Blk) (p:Nat) (m:List Bool):Prop where
 k:∀i:Nat,p≤i→i<b.ops.length→4≤(b.ops.getD i default).kind→m.getD i default=true
 x:∀i:Nat,p≤i→i<b.ops.length→m.getD i default=true→hX (b.ops.getD i default)→((m).getD ((b.ops.getD i default).x).toNat default)=true
 y:∀i:Nat,p≤i→i<b.ops.length→m.getD i default=true→hY (b.ops.getD i default)→((m).getD ((b.ops.getD i default).y).toNat default)=true
 ex:b.fin≠1→((m).getD (b.x).toNat default)=true
 ey:3≤b.fin→((m).getD (b.y).toNat default)=true
 wh:∀t:Nat,t<b.ops.length→m.getD t default=true→4≤(b.ops.getD t default).kind∨b.fin≠1∧t=b.x.toNat∨3≤b.fin∧t=b.y.toNat∨∃j:Nat,p≤j∧j<b.ops.length∧t<j∧m.getD j default=true∧(hX (b.ops.getD j default)∧t=(b.ops.getD j default).x.toNat∨hY (b.ops.getD j default)∧t=(b.ops.getD j default).y.toNat)
theorem S9 {b:Blk} (hb:bZ b) (t:Nat):(us0 b).getD t default=true↔b.fin≠1∧t=b.x.toNat∨3≤b.fin∧t=b.y.toNat:=by
 have en:=hb.en
 have fx:=en.x1
 have fy:=en.y1
 unfold us0
 dsimp only
 have r:∀t,(List.replicate b.ops.length false).getD t default=false:=fun t=>by
  by_cases c:t<b.ops.length
  ·rw [getD_lt (by rw [List.length_replicate];exact c),List.getElem_replicate]
  ·rw [List.getD_eq_getElem?_getD,List.getElem?_eq_none (by rw [List.length_replicate];omega)];rfl
 have e1:∀t:Nat,((if b.fin=1 then List.replicate b.ops.length false else(List.replicate b.ops.length false).set b.x.toNat true).getD t default=true)↔b.fin≠1∧t=b.x.toNat:=fun t=>by
  by_cases d:b.fin=1
  ·rw [if_pos d,r];simp [d]
  ·have:=fx d
   have g0:=this.1
   have g1:=this.2.1
   rw [if_neg d,vI (by rw [List.length_replicate];omega),r];simp [d]
 have l1:(if b.fin=1 then List.replicate b.ops.length false else(List.replicate b.ops.length false).set b.x.toNat true).length=b.ops.length:=by split<;>simp only [List.length_set,List.length_replicate]
 by_cases d:3≤b.fin
 ·have:=fy d
  have g0:=this.1
  have g1:=this.2.1
  rw [if_pos d,vI (by rw [l1];omega),Bool.or_eq_true,decide_eq_true_eq,e1];simp only [d,true_and]
 ·rw [if_neg d,e1];simp only [d,false_and,or_false]
theorem ace {b:Blk} (hb:bZ b):∀k,k≤b.ops.length→UI b (b.ops.length-k) (us b k)
 | 0,_=>by
  have e:=S9 hb
  exact⟨fun i h1 h2=>absurd h2 (by omega),fun i h1 h2=>absurd h2 (by omega),fun i h1 h2=>absurd h2 (by omega),fun c=>(e _).2 (Or.inl ⟨c,rfl⟩),fun c=>(e _).2 (Or.inr ⟨c,rfl⟩),fun t _ h=>((e t).1 h).elim (fun h=>Or.inr (Or.inl h)) (fun h=>Or.inr (Or.inr (Or.inl h)))⟩
 | k+1,hk=>by
  have ih:=ace hb k (by omega)
  have ul:=Ac b k
  have ho:=hb.op ((b.ops.length-1-k:Nat):Int) (by omega) (by omega)
  rw [show(((b.ops.length-1-k:Nat):Int)).toNat=b.ops.length-1-k from rfl]at ho
  generalize hp:b.ops.length-1-k=p at ho
  have e0:b.ops.length-k=p+1:=by omega
  rw [e0]at ih
  rw [show b.ops.length- (k+1)=p by omega]
  have pl:p<b.ops.length:=by omega
  show UI b p (usO (b.ops.getD (b.ops.length-1-k) default) (b.ops.length-1-k) (us b k))
  rw [hp]
  have X:hX (b.ops.getD p default)→(b.ops.getD p default).x.toNat<p:=fun c=>by have:=ho.x1 c;have g0:=this.1;have g1:=this.2.1;omega
  have Y:hY (b.ops.getD p default)→(b.ops.getD p default).y.toNat<p:=fun c=>by have:=ho.y1 c;have g0:=this.1;have g1:=this.2.1;omega
  generalize us b k=m at ih ul
  have e:∀t:Nat,_↔_:=fun t=>SY (o:=b.ops.getD p default) (i:=p) (t:=t) (m:=m) (by omega) (fun c=>by have:=X c;omega) (fun c=>by have:=Y c;omega)
  have hi:∀t:Nat,p<t→((usO (b.ops.getD p default) p m).getD t default=true↔m.getD t default=true):=fun t h=>by
   rw [e]
   constructor
   ·rintro(h1 | ⟨_,h1 | ⟨h1,h2⟩ | ⟨h1,h2⟩⟩)
    ·exact h1
    ·omega
    ·have:=X h1;omega
    ·have:=Y h1;omega
   ·exact Or.inl
  have mono:∀t:Nat,m.getD t default=true→(usO (b.ops.getD p default) p m).getD t default=true:=fun t h=>(e t).2 (Or.inl h)
  have pp:(usO (b.ops.getD p default) p m).getD p default=true↔m.getD p default=true∨4≤(b.ops.getD p default).kind:=by
   rw [e]
   constructor
   ·rintro(h1 | ⟨h1,_⟩)
    ·exact Or.inl h1
    ·exact h1
   ·intro h;exact Or.inr ⟨h,Or.inl rfl⟩
  refine⟨fun i h1 h2 h3=> ?_,fun i h1 h2 h3 h4=> ?_,fun i h1 h2 h3 h4=> ?_,fun c=>mono _ (ih.ex c),fun c=>mono _ (ih.ey c),fun t h1 h2=> ?_⟩
  ·by_cases c:i=p
   ·subst c;exact pp.2 (Or.inr h3)
   ·exact mono _ (ih.k i (by omega) h2 h3)
  ·by_cases c:i=p
   ·subst c;exact(e _).2 (Or.inr ⟨pp.1 h3,Or.inr (Or.inl ⟨h4,rfl⟩)⟩)
   ·exact mono _ (ih.x i (by omega) h2 ((hi i (by omega)).1 h3) h4)
  ·by_cases c:i=p
   ·subst c;exact(e _).2 (Or.inr ⟨pp.1 h3,Or.inr (Or.inr ⟨h4,rfl⟩)⟩)
   ·exact mono _ (ih.y i (by omega) h2 ((hi i (by omega)).1 h3) h4)
  ·have old:m.getD t default=true→_:=fun h=>ih.wh t h1 h
   have go:m.getD t default=true→4≤(b.ops.getD t default).kind∨b.fin≠1∧t=b.x.toNat∨3≤b.fin∧t=b.y.toNat∨∃j:Nat,p≤j∧j<b.ops.length∧t<j∧(usO (b.ops.getD p default) p m).getD j default=true∧(hX (b.ops.getD j default)∧t=(b.ops.getD j default).x.toNat∨hY (b.ops.getD j default)∧t=(b.ops.getD j default).y.toNat):=fun h=>by
    rcases old h with h | h | h | ⟨j,j1,j2,j3,j4,j5⟩
    ·exact Or.inl h
    ·exact Or.inr (Or.inl h)
    ·exact Or.inr (Or.inr (Or.inl h))
    ·exact Or.inr (Or.inr (Or.inr ⟨j,by omega,j2,j3,mono _ j4,j5⟩))
   rcases(e t).1 h2 with h | ⟨h,g⟩
   ·exact go h
   ·rcases g with g | ⟨g1,g2⟩ | ⟨g1,g2⟩
    ·subst g
     rcases h with h | h
     ·exact go h
     ·exact Or.inl h
    ·exact Or.inr (Or.inr (Or.inr ⟨p,Nat.le_refl _,pl,by have:=X g1;omega,pp.2 h,Or.inl ⟨g1,g2⟩⟩))
    ·exact Or.inr (Or.inr (Or.inr ⟨p,Nat.le_refl _,pl,by have:=Y g1;omega,pp.2 h,Or.inr ⟨g1,g2⟩⟩))
theorem amr {b:Blk} (hb:bZ b):UI b 0 (us b b.ops.length):=by
 have:=ace hb b.ops.length (Nat.le_refl _)
 rw [Nat.sub_self]at this;exact this
theorem YP (b:Blk) (kp:List Bool):(Ba b kp).ops.length=(kpS b.ops kp b.ops.length).2.length:=List.length_map _
theorem QS (o:IOp) (l:List IOp) (r:Int):qb (o::l) r=if o.kind=4∨o.kind=5∨o.kind=2∧o.k=r then false else if o.kind=8∧o.k=r then true else qb l r:=rfl
theorem NH (b:Blk) (kp:List Bool):(Ba b kp).ops.length≤b.ops.length:=by rw [YP];exact(y9 b.ops kp b.ops.length).2
theorem Fw (b:Blk):(vH b).ops.length≤b.ops.length:=by
 unfold vH;split
 ·exact NH _ _
 ·exact Nat.zero_le _
theorem xU (b:Blk):(nN b).ops.length≤b.ops.length:=by
 unfold nN;split
 ·exact NH _ _
 ·exact Nat.zero_le _
theorem Bb (b:Blk):(eO b).ops.length≤b.ops.length:=by
 by_cases c:bZ b
 ·exact Nat.le_of_eq (NG c).2
 ·unfold eO;rw [gH c,if_neg (by decide)];exact Nat.zero_le _
theorem qO (b:Blk):(cB b).ops.length≤b.ops.length:=by
 by_cases c:bZ b
 ·exact Nat.le_of_eq (QL c).2
 ·unfold cB;rw [gH c,if_neg (by decide)];exact Nat.zero_le _
noncomputable def Jl (b:Blk):Blk:=nN (vH (nN (eO (cB b))))
theorem Hw (b:Blk):(Jl b).ops.length≤b.ops.length:=Nat.le_trans (xU _) (Nat.le_trans (Fw _) (Nat.le_trans (xU _) (Nat.le_trans (Bb _) (qO _))))
theorem Jm {b:Blk} (hb:bZ b):eO b=fcB b (fc b.ops b.ops.length):=by unfold eO;rw [if_pos (dB hb)]
end Go.TX.F
namespace Go.TX.F
open Go Go.AE Go.TX
theorem RB:(∀o:IOp,iY .iop 0 o=o.kind)∧(∀o:IOp,iY .iop 1 o=o.x)∧(∀o:IOp,iY .iop 2 o=o.y)∧(∀o:IOp,iY .iop 3 o=o.k)∧(∀o:IOp,iY .iop 4 o=o.at_)∧
  (∀b:Blk,iY .blk 0 b=b.pc)∧(∀b:Blk,iY .blk 1 b=b.len)∧(∀b:Blk,ow .blk 2 .iop b=b.ops)∧(∀b:Blk,iY .blk 3 b=b.fin)∧(∀b:Blk,iY .blk 4 b=b.x)∧(∀b:Blk,iY .blk 5 b=b.y)∧(∀b:Blk,iY .blk 6 b=b.k)∧
  (∀x,Co.mk .iop x=⟨x.1,x.2.1,x.2.2.1,x.2.2.2.1,x.2.2.2.2.1⟩)∧(∀x,Co.mk .blk x=⟨x.1,x.2.1,x.2.2.1,x.2.2.2.1,x.2.2.2.2.1,x.2.2.2.2.2.1,x.2.2.2.2.2.2.1⟩)∧
  (∀i:Ins,iY .ins 0 i=i.op)∧(∀i:Ins,iY .ins 1 i=i.d)∧(∀i:Ins,iY .ins 2 i=i.a)∧(∀i:Ins,iY .ins 3 i=i.k)∧(∀x,Co.mk .ins x=⟨x.1,x.2.1,x.2.2.1,x.2.2.2.1⟩)∧
  (∀e:Ev,iY .ev 0 e=e.kind)∧(∀e:Ev,iY .ev 1 e=e.at_)∧(∀e:Ev,ow .ev 2 .mono e=e.x)∧(∀e:Ev,ow .ev 3 .mono e=e.y)∧(∀e:Ev,ow .ev 4 .poly e=e.regs)∧(∀x,Co.mk .ev x=⟨x.1,x.2.1,x.2.2.1,x.2.2.2.1,x.2.2.2.2.1⟩)∧
  (∀s:Sym,ow .sym 0 .ev s=s.events)∧(∀s:Sym,ow .sym 1 .poly s=s.regs)∧(∀s:Sym,iY .sym 2 s=s.fin)∧(∀s:Sym,ow .sym 3 .mono s=s.x)∧(∀s:Sym,ow .sym 4 .mono s=s.y)∧(∀s:Sym,iY .sym 5 s=s.k)∧
  (∀x,Co.mk .sym x=⟨x.1,x.2.1,x.2.2.1,x.2.2.2.1,x.2.2.2.2.1,x.2.2.2.2.2.1⟩)∧(∀x,Co.mk .bool x=x.1)∧(∀x:Bool,ahO .bool 0 x=x):=
 ⟨fun _=>rfl,fun _=>rfl,fun _=>rfl,fun _=>rfl,fun _=>rfl,fun _=>rfl,fun _=>rfl,fun _=>rfl,fun _=>rfl,fun _=>rfl,fun _=>rfl,fun _=>rfl,fun _=>rfl,fun _=>rfl,fun _=>rfl,fun _=>rfl,fun _=>rfl,fun _=>rfl,fun _=>rfl,fun _=>rfl,fun _=>rfl,fun _=>rfl,fun _=>rfl,fun _=>rfl,fun _=>rfl,fun _=>rfl,fun _=>rfl,fun _=>rfl,fun _=>rfl,fun _=>rfl,fun _=>rfl,fun _=>rfl,fun _=>rfl,fun _=>rfl⟩
@[reducible] def hK (o : IOp) : Prop := o.kind = 1 ∨ o.kind = 2 ∨ o.kind = 3 ∨ o.kind = 8
theorem ams {p1:Int×Int×Int×Unit→Bool} {f1:Int×Int×Int×Unit→Bool×Unit} (hp1:∀a b c,p1 (a,b,c,())=true) (hf1:∀a b c,f1 (a,b,c,())=(inB a b c,())) (o:IOp):
  WH (std 0) p1 f1 (o,()) (fun y=>y=(decide (hX o),decide (hY o),decide (hK o),decide (evO o),())):=by
 dsimp only [WH,Alg.cl,Alg.cg,Alg.rb,Alg.bd,Alg.l1,Tup.q,Tup.o]
 simp (disch:=omega) only [RR,RB,hp1,hf1]
 refine Prod.ext ?_ (Prod.ext ?_ (Prod.ext ?_ (Prod.ext ?_ rfl)))<;>rw [Bool.eq_iff_iff]<;>simp [hX,hY,hK,evO,inB,or_assoc,and_assoc]
theorem amt {p1:Int×Int×Int×Unit→Bool} {f1:Int×Int×Int×Unit→Bool×Unit} (hp1:∀a b c,p1 (a,b,c,())=true) (hf1:∀a b c,f1 (a,b,c,())=(inB a b c,())) (o:IOp):
  WK (std 0) p1 f1 (o,()) (fun y=>y=(decide (mkV o),())):=by
 dsimp only [WK,Alg.cl,Alg.cg,Alg.rb,Alg.bd,Alg.l1,Tup.q,Tup.o]
 simp (disch:=omega) only [RR,RB,hp1,hf1]
 refine Prod.ext ?_ rfl
 rw [Bool.eq_iff_iff];simp [mkV,inB]
theorem amu {p1:Int×Int×Int×Unit→Bool} {f1:Int×Int×Int×Unit→Bool×Unit} (hp1:∀a b c,p1 (a,b,c,())=true) (hf1:∀a b c,f1 (a,b,c,())=(inB a b c,())) (o:IOp):
  XC (std 0) p1 f1 (o,()) (fun y=>y=(decide (evO o),())):=by
 dsimp only [XC,Alg.cl,Alg.cg,Alg.rb,Alg.bd,Alg.l1,Tup.q,Tup.o]
 simp (disch:=omega) only [RR,RB,hp1,hf1]
 refine Prod.ext ?_ rfl
 rw [Bool.eq_iff_iff];simp [evO,inB]
theorem aqp {p2:IOp×Unit→Bool} {f2:IOp×Unit→Bool×Unit} (hp2:∀o,p2 (o,())=true) (hf2:∀o,f2 (o,())=(decide (mkV o),()))
  {p1:Int×Int×Int×Unit→Bool} {f1:Int×Int×Int×Unit→Bool×Unit} (hp1:∀a b c,p1 (a,b,c,())=true) (hf1:∀a b c,f1 (a,b,c,())=(inB a b c,())) (b:Blk) (x n:Int) (h0:0≤n) (h1:n≤b.ops.length) (h2:b.ops.length<1000000000):
  aev (std 0) p2 f2 p1 f1 (b,x,n,()) (fun y=>y=(bp (Vl b.ops x n),())):=by
 dsimp only [aev,Alg.cl,Alg.cg,Alg.rb,Alg.bd,Alg.l1,Tup.q,Tup.o]
 simp (disch:=omega) only [RR,RB,hp1,hf1,hp2,hf2,eX,rz]
 refine⟨by omega,by omega,?_⟩
 refine Prod.ext ?_ rfl
 dsimp only
 rw [Bool.eq_iff_iff,bK,Bool.and_eq_true,eX,decide_eq_true_eq]
 unfold Vl
 constructor
 ·rintro⟨⟨a1,a2⟩,a3⟩;exact⟨a1,by omega,a3⟩
 ·rintro⟨a1,a2,a3⟩;exact⟨⟨a1,by omega⟩,a3⟩
theorem NI {ops:List IOp} {len i:Int} {o:IOp}:Bu ops len i o↔(1≤o.kind∧o.kind≤8)∧(hX o∧Vl ops o.x i∨¬hX o∧o.x=0)∧(hY o∧Vl ops o.y i∨¬hY o∧o.y=0)∧
  (hK o∧(o.kind=1∧(0≤o.k∧o.k≤65535)∨(o.kind=2∨o.kind=8)∧(0≤o.k∧o.k≤3)∨o.kind=3∧(1≤o.k∧o.k≤5))∨¬hK o∧o.k=0)∧(evO o∧(0≤o.at_∧o.at_<len)∨¬evO o∧o.at_=0):=by
 constructor
 ·rintro⟨kd,x1,x0,y1,y0,k1,k2,k3,k0,a1,a0⟩
  refine⟨kd,?_,?_,?_,?_⟩
  ·by_cases h:hX o
   ·exact Or.inl ⟨h,x1 h⟩
   ·exact Or.inr ⟨h,x0 h⟩
  ·by_cases h:hY o
   ·exact Or.inl ⟨h,y1 h⟩
   ·exact Or.inr ⟨h,y0 h⟩
  ·unfold hK;omega
  ·by_cases h:evO o
   ·exact Or.inl ⟨h,a1 h⟩
   ·exact Or.inr ⟨h,a0 h⟩
 ·rintro⟨kd,x,y,k,a⟩
  refine⟨kd,fun h=> ?_,fun h=> ?_,fun h=> ?_,fun h=> ?_,fun h=> ?_,fun h=> ?_,fun h=> ?_,fun h h'=> ?_,fun h=> ?_,fun h=> ?_⟩
  ·rcases x with x | x
   ·exact x.2
   ·exact absurd h x.1
  ·rcases x with x | x
   ·exact absurd x.1 h
   ·exact x.2
  ·rcases y with y | y
   ·exact y.2
   ·exact absurd h y.1
  ·rcases y with y | y
   ·exact absurd y.1 h
   ·exact y.2
  ·unfold hK at k;omega
  ·unfold hK at k;omega
  ·unfold hK at k;omega
  ·unfold hK at k;omega
  ·rcases a with a | a
   ·exact a.2
   ·exact absurd h a.1
  ·rcases a with a | a
   ·exact absurd a.1 h
   ·exact a.2
theorem aqr {p3:Blk×Int×Int×Unit→Bool} {f3:Blk×Int×Int×Unit→Bool×Unit} (hp3:∀b x n,0≤n→n≤b.ops.length→b.ops.length<1000000000→p3 (b,x,n,())=true) (hf3:∀b x n,0≤n→n≤b.ops.length→b.ops.length<1000000000→f3 (b,x,n,())=(bp (Vl b.ops x n),()))
  {p2:IOp×Unit→Bool} {f2:IOp×Unit→Bool×Bool×Bool×Bool×Unit} (hp2:∀o,p2 (o,())=true) (hf2:∀o,f2 (o,())=(decide (hX o),decide (hY o),decide (hK o),decide (evO o),()))
  {p4:Int×Unit→Bool} {f4:Int×Unit→Bool×Unit} (hp4:∀a,p4 (a,())=true) (hf4:∀a,f4 (a,())=(inB a 0 65535,()))
  {p1:Int×Int×Int×Unit→Bool} {f1:Int×Int×Int×Unit→Bool×Unit} (hp1:∀a b c,p1 (a,b,c,())=true) (hf1:∀a b c,f1 (a,b,c,())=(inB a b c,()))
  {p5:Int×Unit→Bool} {f5:Int×Unit→Bool×Unit} (hp5:∀a,p5 (a,())=true) (hf5:∀a,f5 (a,())=(inB a 1 5,()))
  {p6:Int×Unit→Bool} {f6:Int×Unit→Bool×Unit} (hp6:∀a,p6 (a,())=true) (hf6:∀a,f6 (a,())=(inB a 0 3,()))
  (b:Blk) (i:Int) (h0:0≤i) (h1:i<b.ops.length) (h2:b.ops.length<1000000000) (h3:1≤b.len∧b.len≤8):
  aew (std 0) p3 f3 p2 f2 p4 f4 p1 f1 p5 f5 p6 f6 (b,i,()) (fun y=>y=(bp (Bu b.ops b.len i ((b.ops).getD (i).toNat default)),())):=by
 have QT:=fun x=>hp3 b x i h0 (by omega) h2
 have QU:=fun x=>hf3 b x i h0 (by omega) h2
 dsimp only [aew,Alg.cl,Alg.cg,Alg.rb,Alg.bd,Alg.l1,Tup.q,Tup.o]
 simp (disch:=omega) only [RR,RB,hp1,hf1,hp2,hf2,QT,QU,hp4,hf4,hp5,hf5,hp6,hf6,rz]
 refine⟨by omega,by omega,fun h=> ?_,fun h=> ?_⟩
 ·rw [gH (fun g=>h g.kd)]
 ·have h:=eX.1 h
  refine Prod.ext ?_ rfl
  dsimp only
  rw [Bool.eq_iff_iff,bK,NI]
  generalize ((b.ops).getD (i).toNat default)=o at h ⊢
  simp only [Bool.and_eq_true,Bool.or_eq_true,Bool.not_eq_true',decide_eq_true_eq,decide_eq_false_iff_not,bK,eX,h,true_and,and_true]
  have e:∀ {a:Int},(0≤a∧a≤b.len-1)↔(0≤a∧a<b.len):=fun {a}=>by omega
  have k:(bif decide (o.kind=1)then inB o.k 0 65535 else bif decide (o.kind=2)then inB o.k 0 3 else bif decide (o.kind=3)then inB o.k 1 5 else(decide (o.kind=8)&&inB o.k 0 3))=true↔(o.kind=1∧(0≤o.k∧o.k≤65535)∨(o.kind=2∨o.kind=8)∧(0≤o.k∧o.k≤3)∨o.kind=3∧(1≤o.k∧o.k≤5)):=by
   rcases(by omega:o.kind=1∨o.kind=2∨o.kind=3∨o.kind=8∨(o.kind≠1∧o.kind≠2∧o.kind≠3∧o.kind≠8))with c | c | c | c | ⟨c1,c2,c3,c4⟩
   ·simp [c,inB]
   ·simp [c,inB]
   ·simp [c,inB]
   ·simp [c,inB]
   ·simp [c1,c2,c3,c4]
  rw [k]
  simp only [e,and_assoc]
theorem amv (b:Blk):aex (std 0) (b,()) (fun y=>y=(decide (b.fin≠1),decide (3≤b.fin),decide (b.fin≠2),())):=by
 dsimp only [aex,Alg.cl,Alg.cg,Alg.rb,Alg.bd,Alg.l1,Tup.q,Tup.o]
 simp (disch:=omega) only [RR,RB]
 refine Prod.ext ?_ (Prod.ext rfl (Prod.ext ?_ rfl))<;>simp
theorem Hy {b:Blk}:yZ b↔(1≤b.fin∧b.fin≤4)∧(b.fin≠1∧Vl b.ops b.x b.ops.length∨¬b.fin≠1∧b.x=0)∧(3≤b.fin∧Vl b.ops b.y b.ops.length∨¬3≤b.fin∧b.y=0)∧(b.fin≠2∧(0≤b.k∧b.k≤65535)∨¬b.fin≠2∧b.k=0):=by
 constructor
 ·rintro⟨f,x1,x0,y1,y0,k1,k0⟩
  refine⟨f,?_,?_,by omega⟩
  ·by_cases h:b.fin=1
   ·exact Or.inr ⟨fun g=>g h,x0 h⟩
   ·exact Or.inl ⟨h,x1 h⟩
  ·by_cases h:3≤b.fin
   ·exact Or.inl ⟨h,y1 h⟩
   ·exact Or.inr ⟨h,y0 (by omega)⟩
 ·rintro⟨f,x,y,k⟩
  refine⟨f,fun h=> ?_,fun h=> ?_,fun h=> ?_,fun h=> ?_,fun h=>by omega,fun h=>by omega⟩
  ·rcases x with x | x
   ·exact x.2
   ·exact absurd h x.1
  ·rcases x with x | x
   ·exact absurd h x.1
   ·exact x.2
  ·rcases y with y | y
   ·exact y.2
   ·exact absurd h y.1
  ·rcases y with y | y
   ·exact absurd y.1 (by omega)
   ·exact y.2
theorem aqs {p2:Blk×Unit→Bool} {f2:Blk×Unit→Bool×Bool×Bool×Unit} (hp2:∀b,p2 (b,())=true) (hf2:∀b,f2 (b,())=(decide (b.fin≠1),decide (3≤b.fin),decide (b.fin≠2),()))
  {p3:Blk×Int×Int×Unit→Bool} {f3:Blk×Int×Int×Unit→Bool×Unit} (hp3:∀b x n,0≤n→n≤b.ops.length→b.ops.length<1000000000→p3 (b,x,n,())=true) (hf3:∀b x n,0≤n→n≤b.ops.length→b.ops.length<1000000000→f3 (b,x,n,())=(bp (Vl b.ops x n),()))
  {p4:Int×Unit→Bool} {f4:Int×Unit→Bool×Unit} (hp4:∀a,p4 (a,())=true) (hf4:∀a,f4 (a,())=(inB a 0 65535,()))
  {p1:Int×Int×Int×Unit→Bool} {f1:Int×Int×Int×Unit→Bool×Unit} (hp1:∀a b c,p1 (a,b,c,())=true) (hf1:∀a b c,f1 (a,b,c,())=(inB a b c,())) (b:Blk) (h2:b.ops.length<1000000000):
  aey (std 0) p2 f2 p3 f3 p4 f4 p1 f1 (b,()) (fun y=>y=(bp (yZ b),())):=by
 have QT:=fun x=>hp3 b x b.ops.length (by omega) (Int.le_refl _) h2
 have QU:=fun x=>hf3 b x b.ops.length (by omega) (Int.le_refl _) h2
 dsimp only [aey,Alg.cl,Alg.cg,Alg.rb,Alg.bd,Alg.l1,Tup.q,Tup.o]
 simp (disch:=omega) only [RR,RB,hp1,hf1,hp2,hf2,QT,QU,hp4,hf4]
 refine Prod.ext ?_ rfl
 dsimp only
 rw [Bool.eq_iff_iff,bK,Hy]
 simp only [Bool.and_eq_true,Bool.or_eq_true,Bool.not_eq_true',decide_eq_true_eq,decide_eq_false_iff_not,bK,eX,and_assoc]
theorem amw {p2:Blk×Unit→Bool} {f2:Blk×Unit→Bool×Unit} (hp2:∀b,b.ops.length<1000000000→p2 (b,())=true) (hf2:∀b,b.ops.length<1000000000→f2 (b,())=(bp (yZ b),()))
  {p3:Blk×Int×Unit→Bool} {f3:Blk×Int×Unit→Bool×Unit} (hp3:∀(b:Blk) (i:Int),0≤i→i<b.ops.length→b.ops.length<1000000000→1≤b.len∧b.len≤8→p3 (b,i,())=true) (hf3:∀(b:Blk) (i:Int),0≤i→i<b.ops.length→b.ops.length<1000000000→1≤b.len∧b.len≤8→f3 (b,i,())=(bp (Bu b.ops b.len i ((b.ops).getD (i).toNat default)),()))
  {p1:Int×Int×Int×Unit→Bool} {f1:Int×Int×Int×Unit→Bool×Unit} (hp1:∀a b c,p1 (a,b,c,())=true) (hf1:∀a b c,f1 (a,b,c,())=(inB a b c,())) (b:Blk) (h2:b.ops.length<1000000000):
  WT (std 0) p2 f2 p3 f3 p1 f1 (b,()) (fun y=>y=(bp (bZ b),())):=by
 dsimp only [WT,Alg.cl,Alg.cg,Alg.rb,Alg.bd,Alg.l1,Tup.q,Tup.o]
 simp (disch:=omega) only [RR,RB,hp1,hf1]
 by_cases hl:1≤b.len∧b.len≤8
 ·have hl':=eX.2 hl
  simp (disch:=omega) only [RR,hl',eX,rz]
  refine⟨fun h=> ?_,fun h=> ?_⟩
  ·rw [gH (fun g=> ?_)]
   have g1:=g.pc
   have g2:=g.sz
   omega
  ·refine ay (fun(y:Int×Int×Blk×Unit)=>y.1=b.ops.length∧y.2.2.1=b∧0≤y.2.1∧y.2.1≤b.ops.length∧All y.2.1 (fun i=>Bu b.ops b.len i ((b.ops).getD (i).toNat default))) (fun y=>(b.ops.length-y.2.1).toNat) ⟨rfl,rfl,by simp,by simp,All.zero⟩ ?_
   rintro⟨(n:Int),(i:Int),(b':Blk),⟨⟩⟩ hI
   dsimp only at hI ⊢
   obtain⟨rfl,rfl,h3,h4,h5⟩:=hI
   simp (disch:=omega) only [RR,hp2 b' h2,hf2 b' h2]
   refine⟨fun h6=>⟨hp3 b' i h3 h6 h2 hl,?_⟩,fun h6=> ?_⟩
   ·rw [hf3 b' i h3 h6 h2 hl]
    dsimp only
    refine⟨fun h7=> ?_,fun h7=>⟨⟨by omega,by omega,h5.snoc (bK.1 h7)⟩,by omega⟩⟩
    rw [gH (fun g=>tZ.1 h7 (g.op i h3 h6))]
   ·by_cases he:yZ b'
    ·rw [dB he,dB (show bZ b' from⟨hl,by omega,by omega,fun j j1 j2=>h5 j j1 (by omega),he⟩)]
    ·rw [gH he,gH (fun g=>he g.en)]
 ·have hl':=rz.2 hl
  simp (disch:=omega) only [RR,hl']
  rw [gH (fun g=>hl g.ln)]
  exact⟨rfl,fun h=>h.1.1.elim⟩
end Go.TX.F
namespace Go.TX.F
open Go Go.AE Go.TX
theorem afL {p1:Int×Int×Int×Unit→Bool} {f1:Int×Int×Int×Unit→Bool×Unit} (hp1:∀a b c,p1 (a,b,c,())=true) (hf1:∀a b c,f1 (a,b,c,())=(inB a b c,())) (k:Int):
  Ph (std 0) p1 f1 (k,()) (fun y=>y=(decide ((1≤k∧k≤4)∨k=6),())):=by
 dsimp only [Ph,Alg.cl,Alg.cg,Alg.rb,Alg.bd,Alg.l1,Tup.q,Tup.o]
 simp (disch:=omega) only [RR,hp1,hf1]
 refine Prod.ext ?_ rfl
 rw [Bool.eq_iff_iff];simp [inB]
theorem afM {p1:Int×Unit→Bool} {f1:Int×Unit→Bool×Unit} (hp1:∀k,p1 (k,())=true) (hf1:∀k,f1 (k,())=(decide ((1≤k∧k≤4)∨k=6),())) (ops:List IOp) (x n:Int) (h1:n≤ops.length):
  Pj (std 0) p1 f1 (ops,x,n,()) (fun y=>y=(bp (Vl ops x n),())):=by
 dsimp only [Pj,Alg.cl,Alg.cg,Alg.rb,Alg.bd,Alg.l1,Tup.q,Tup.o]
 simp (disch:=omega) only [RR,RB,hp1,hf1]
 refine⟨by simp only [Bool.and_eq_false_iff,decide_eq_false_iff_not];omega,by simp only [Bool.and_eq_false_iff,decide_eq_false_iff_not];omega,?_⟩
 refine Prod.ext ?_ rfl
 dsimp only
 rw [Bool.eq_iff_iff,bK,Bool.and_eq_true,Bool.and_eq_true,decide_eq_true_eq,decide_eq_true_eq,decide_eq_true_eq,and_assoc]
 rfl
theorem afN {p4:Int×Unit→Bool} {f4:Int×Unit→Bool×Unit} (hp4:∀a,p4 (a,())=true) (hf4:∀a,f4 (a,())=(inB a 0 65535,()))
  {p1:Int×Int×Int×Unit→Bool} {f1:Int×Int×Int×Unit→Bool×Unit} (hp1:∀a b c,p1 (a,b,c,())=true) (hf1:∀a b c,f1 (a,b,c,())=(inB a b c,()))
  {p3:List IOp×Int×Int×Unit→Bool} {f3:List IOp×Int×Int×Unit→Bool×Unit} (hp3:∀(ops:List IOp) (x n:Int),n≤ops.length→p3 (ops,x,n,())=true) (hf3:∀(ops:List IOp) (x n:Int),n≤ops.length→f3 (ops,x,n,())=(bp (Vl ops x n),()))
  (ops:List IOp) (i len:Int) (h0:0≤i) (h1:i<ops.length) (h3:1≤len∧len≤8):Pm (std 0) p4 f4 p1 f1 p3 f3 (ops,i,len,()) (fun y=>y=(bp (Bu ops len i ((ops).getD (i).toNat default)),())):=by
 have QT:=fun x=>hp3 ops x i (by omega)
 have QU:=fun x=>hf3 ops x i (by omega)
 have e:∀ {a:Int},(0≤a∧a≤len-1)↔(0≤a∧a<len):=fun {a}=>by omega
 dsimp only [Pm,Alg.cl,Alg.cg,Alg.rb,Alg.bd,Alg.l1,Tup.q,Tup.o]
 simp (disch:=omega) only [RR,RB,hp1,hf1,QT,QU,hp4,hf4]
 refine⟨by omega,by omega,?_⟩
 rw [show bp (Bu ops len i ((ops).getD (i).toNat default))=bp (_)from ug NI]
 generalize ((ops).getD (i).toNat default)=o
 have go:∀ {c:Bool} {P:Prop},(c=true↔P)→(c,())=(bp P,()):=fun {c P} h=>Prod.ext (by dsimp only;rw [Bool.eq_iff_iff,bK];exact h) rfl
 refine⟨fun c=> ?_,fun c1=>⟨fun c=> ?_,fun c2=>⟨fun c=> ?_,fun c3=> ?_⟩⟩⟩
 ·refine go ?_
  simp only [Bool.and_eq_true,decide_eq_true_eq,bK,eX,c,hX,hY,hK,evO,e]
  simp [and_assoc]
 ·refine go ?_
  simp only [Bool.and_eq_true,decide_eq_true_eq,bK,eX,c,hX,hY,hK,evO,e]
  simp [and_assoc]
 ·refine go ?_
  simp only [Bool.and_eq_true,decide_eq_true_eq,bK,eX,c,hX,hY,hK,evO,e]
  simp [and_assoc]
 ·by_cases c4:o.kind=4∨o.kind=7
  ·have c5:o.kind≠8:=by omega
   rcases c4 with c | c<;>simp (disch:=omega) only [RR,c,Int.reduceEq]<;>(refine go ?_)<;>simp only [Bool.and_eq_true,decide_eq_true_eq,bK,eX,c,hX,hY,hK,evO,e]<;>simp [and_assoc]
  ·by_cases c:o.kind=5
   ·simp (disch:=omega) only [RR,c,Int.reduceEq]
    refine go ?_
    simp only [Bool.and_eq_true,decide_eq_true_eq,bK,eX,c,hX,hY,hK,evO,e]
    simp [and_assoc]
   ·by_cases c':o.kind=6
    ·simp (disch:=omega) only [RR,c',Int.reduceEq]
     refine go ?_
     simp only [Bool.and_eq_true,decide_eq_true_eq,bK,eX,c',hX,hY,hK,evO,e]
     simp [and_assoc]
    ·by_cases c8:o.kind=8
     ·simp (disch:=omega) only [RR,c8,Int.reduceEq]
      refine go ?_
      simp only [Bool.and_eq_true,decide_eq_true_eq,bK,eX,c8,hX,hY,hK,evO,e]
      simp [and_assoc]
     ·have n4:¬o.kind=4:=fun h=>c4 (Or.inl h)
      have n7:¬o.kind=7:=fun h=>c4 (Or.inr h)
      simp (disch:=omega) only [RR,n4,n7,c,c',c8]
      rw [gH (fun h=>by have:=h.1;omega)]
theorem afO {p4:Int×Unit→Bool} {f4:Int×Unit→Bool×Unit} (hp4:∀a,p4 (a,())=true) (hf4:∀a,f4 (a,())=(inB a 0 65535,()))
  {p3:List IOp×Int×Int×Unit→Bool} {f3:List IOp×Int×Int×Unit→Bool×Unit} (hp3:∀(ops:List IOp) (x n:Int),n≤ops.length→p3 (ops,x,n,())=true) (hf3:∀(ops:List IOp) (x n:Int),n≤ops.length→f3 (ops,x,n,())=(bp (Vl ops x n),()))
  (b:Blk):Pn (std 0) p4 f4 p3 f3 (b,()) (fun y=>y=(bp (yZ b),())):=by
 have QT:=fun x=>hp3 b.ops x b.ops.length (Int.le_refl _)
 have QU:=fun x=>hf3 b.ops x b.ops.length (Int.le_refl _)
 dsimp only [Pn,Alg.cl,Alg.cg,Alg.rb,Alg.bd,Alg.l1,Tup.q,Tup.o]
 simp (disch:=omega) only [RR,RB,QT,QU,hp4,hf4]
 rw [show bp (yZ b)=bp (_)from ug Hy]
 have go:∀ {c:Bool} {P:Prop},(c=true↔P)→(c,())=(bp P,()):=fun {c P} h=>Prod.ext (by dsimp only;rw [Bool.eq_iff_iff,bK];exact h) rfl
 refine⟨fun c=> ?_,fun c1=>⟨fun c=> ?_,fun c2=> ?_⟩⟩
 ·refine go ?_
  simp only [Bool.and_eq_true,decide_eq_true_eq,bK,eX,c]
  simp [and_assoc]
 ·refine go ?_
  simp only [Bool.and_eq_true,decide_eq_true_eq,bK,eX,c]
  simp [and_assoc]
 ·by_cases c:b.fin=3
  ·simp (disch:=omega) only [RR,c,Int.reduceEq]
   refine go ?_
   simp only [Bool.and_eq_true,decide_eq_true_eq,bK,eX,c]
   simp [and_assoc]
  ·by_cases c4:b.fin=4
   ·simp (disch:=omega) only [RR,c4,Int.reduceEq]
    refine go ?_
    simp only [Bool.and_eq_true,decide_eq_true_eq,bK,eX,c4]
    simp [and_assoc]
   ·simp (disch:=omega) only [RR,c,c4]
    rw [gH (fun h=>by have:=h.1;omega)]
theorem afP {p1:Int×Int×Int×Unit→Bool} {f1:Int×Int×Int×Unit→Bool×Unit} (hp1:∀a b c,p1 (a,b,c,())=true) (hf1:∀a b c,f1 (a,b,c,())=(inB a b c,()))
  {p2:Blk×Unit→Bool} {f2:Blk×Unit→Bool×Unit} (hp2:∀b,p2 (b,())=true) (hf2:∀b,f2 (b,())=(bp (yZ b),()))
  {p3:List IOp×Int×Int×Unit→Bool} {f3:List IOp×Int×Int×Unit→Bool×Unit} (hp3:∀(ops:List IOp) (i len:Int),0≤i→i<ops.length→1≤len∧len≤8→p3 (ops,i,len,())=true) (hf3:∀(ops:List IOp) (i len:Int),0≤i→i<ops.length→1≤len∧len≤8→f3 (ops,i,len,())=(bp (Bu ops len i ((ops).getD (i).toNat default)),())) (b:Blk) (h2:b.ops.length<1000000000):
  Po (std 0) p1 f1 p2 f2 p3 f3 (b,()) (fun y=>y=(bp (bZ b),())):=by
 dsimp only [Po,Alg.cl,Alg.cg,Alg.rb,Alg.bd,Alg.l1,Tup.q,Tup.o]
 simp (disch:=omega) only [RR,RB,hp1,hf1]
 by_cases hl:1≤b.len∧b.len≤8
 ·have hl':=eX.2 hl
  simp (disch:=omega) only [RR,hl',eX,rz]
  refine⟨fun h=> ?_,fun h=> ?_⟩
  ·rw [gH (fun g=> ?_)]
   have g1:=g.pc
   have g2:=g.sz
   omega
  ·refine ay (fun(y:Int×Blk×Unit)=>y.2.1=b∧0≤y.1∧y.1≤b.ops.length∧All y.1 (fun i=>Bu b.ops b.len i ((b.ops).getD (i).toNat default))) (fun y=>(b.ops.length-y.1).toNat) ⟨rfl,by simp,by simp,All.zero⟩ ?_
   rintro⟨(i:Int),(b':Blk),⟨⟩⟩ hI
   dsimp only at hI ⊢
   obtain⟨rfl,h3,h4,h5⟩:=hI
   simp (disch:=omega) only [RR,hp2 b',hf2 b']
   refine⟨fun h6=>⟨hp3 b'.ops i b'.len h3 h6 hl,?_⟩,fun h6=> ?_⟩
   ·rw [hf3 b'.ops i b'.len h3 h6 hl]
    dsimp only
    refine⟨fun h7=> ?_,fun h7=>⟨⟨by omega,by omega,h5.snoc (bK.1 h7)⟩,by omega⟩⟩
    rw [gH (fun g=>tZ.1 h7 (g.op i h3 h6))]
   ·by_cases he:yZ b'
    ·rw [dB he,dB (show bZ b' from⟨hl,by omega,by omega,fun j j1 j2=>h5 j j1 (by omega),he⟩)]
    ·rw [gH he,gH (fun g=>he g.en)]
 ·have hl':=rz.2 hl
  simp (disch:=omega) only [RR,hl']
  rw [gH (fun g=>hl g.ln)]
  exact⟨rfl,fun h=>h.1.1.elim⟩
theorem amx {p4:Int×Unit→Bool} {f4:Int×Unit→Bool×Unit} (hp4:∀a,p4 (a,())=true) (hf4:∀a,f4 (a,())=(inB a 0 65535,())) (r a b:Int):
  Wy (std 0) p4 f4 (r,a,b,()) (fun y=>y=(inB a 0 65535&&inB b 0 65535&& (decide (r=1∧a=b∨r=2∧a<b)),())):=by
 dsimp only [Wy,Alg.cl,Alg.cg,Alg.rb,Alg.bd,Alg.l1,Tup.q,Tup.o]
 simp (disch:=omega) only [RR,hp4,hf4]
 refine Prod.ext ?_ rfl
 rw [Bool.eq_iff_iff];simp
theorem amy {p1:List aj×Unit→Bool} {f1:List aj×Unit→List aj×Unit} (hp1:∀a,Sh a→p1 (a,())=true) (hf1:∀a,Sh a→f1 (a,())=(a,())) (a:List (List aj)) (ha:ShP a):
  Wu (std 0) p1 f1 (a,()) (fun y=>y=(a,())):=by
 have hlen:=ha.1
 dsimp only [Wu,Alg.cl,Alg.cg,Alg.rb,Alg.bd,Alg.l1,Tup.q,Tup.o]
 refine ay (fun(y:List (List aj)×Int×Int×List (List aj)×Unit)=>y.1=a∧y.2.1=a.length∧y.2.2.2.1=a.take y.2.2.1.toNat∧0≤y.2.2.1∧y.2.2.1≤a.length) (fun y=>(a.length-y.2.2.1).toNat) ⟨rfl,rfl,by simp,by simp,by simp⟩ ?_
 rintro⟨(l:List (List aj)),(m:Int),(i:Int),(o:List (List aj)),⟨⟩⟩ hI
 dsimp only at hI ⊢
 obtain⟨rfl,rfl,rfl,h1,h2⟩:=hI
 simp (disch:=omega) only [RR,hp1 _ (ha.at _),hf1 _ (ha.at _)]
 refine⟨fun h4=>⟨by omega,by omega,?_,⟨jm h1 h4 rfl,by omega,by omega⟩,by omega⟩,fun h4=>by rw [List.take_of_length_le (by omega)]⟩
 have:=List.length_take_le' i.toNat l
 simp only [List.length_cons,List.length_nil];omega
theorem amA {p1:List aj×Unit→Bool} {f1:List aj×Unit→List aj×Unit} (hp1:∀a,Sh a→p1 (a,())=true) (hf1:∀a,Sh a→f1 (a,())=(a,()))
  {p2:List (List aj)×Unit→Bool} {f2:List (List aj)×Unit→List (List aj)×Unit} (hp2:∀a,ShP a→p2 (a,())=true) (hf2:∀a,ShP a→f2 (a,())=(a,())) (s:Sym) (hs:ShY s):
  Wv (std 0) p1 f1 p2 f2 (s,()) (fun y=>y=(s.fin,s.k,s.events,s.regs,s.x,s.y,())):=by
 have hlen:=hs.e.1
 dsimp only [Wv,Alg.cl,Alg.cg,Alg.rb,Alg.bd,Alg.l1,Tup.q,Tup.o]
 simp (disch:=omega) only [RR,RB,hp1 _ hs.x,hf1 _ hs.x,hp1 _ hs.y,hf1 _ hs.y,hp2 _ hs.r,hf2 _ hs.r]
 refine ay (fun(y:List Ev×Int×Int×Int×Int×Int×Int×List Ev×List (List aj)×List aj×List aj×Unit)=>y.1=s.events∧y.2.1=s.events.length∧y.2.2.2.2.2.1=s.fin∧y.2.2.2.2.2.2.1=s.k∧y.2.2.2.2.2.2.2.1=s.events.take y.2.2.1.toNat∧y.2.2.2.2.2.2.2.2.1=s.regs∧y.2.2.2.2.2.2.2.2.2.1=s.x∧y.2.2.2.2.2.2.2.2.2.2.1=s.y∧0≤y.2.2.1∧y.2.2.1≤s.events.length) (fun y=>(s.events.length-y.2.2.1).toNat) ⟨rfl,rfl,rfl,rfl,by simp,rfl,rfl,rfl,by simp,by simp⟩ ?_
 rintro⟨(l:List Ev),(m:Int),(i:Int),(q1:Int),(q2:Int),(q3:Int),(q4:Int),(o:List Ev),(r:List (List aj)),(u:List aj),(v:List aj),⟨⟩⟩ hI
 dsimp only at hI ⊢
 obtain⟨rfl,rfl,rfl,rfl,rfl,rfl,rfl,rfl,h1,h2⟩:=hI
 have he:=hs.e.at i.toNat
 simp (disch:=omega) only [RR,RB,hp1 _ he.1,hf1 _ he.1,hp1 _ he.2.1,hf1 _ he.2.1,hp2 _ he.2.2,hf2 _ he.2.2]
 refine⟨fun h4=>⟨by omega,by omega,?_,⟨jm h1 h4 rfl,by omega,by omega⟩,by omega⟩,fun h4=>by rw [List.take_of_length_le (by omega)]⟩
 have:=List.length_take_le' i.toNat s.events
 simp only [List.length_cons,List.length_nil];omega
end Go.TX.F
namespace Go.TX.F
open Go Go.AE Go.TX
theorem amB {p1:Int×Unit→Bool} {f1:Int×Unit→List aj×Unit} (hp1:∀n,p1 (n,())=true) (hf1:∀n,f1 (n,())=(gX n,()))
  {p2:List Atom×Atom×Unit→Bool} {f2:List Atom×Atom×Unit→List Atom×Int×Unit} (hp2:∀(t:List Atom) a,t.length<1000000000→ShA a→p2 (t,a,())=true) (hf2:∀(t:List Atom) a,t.length<1000000000→ShA a→f2 (t,a,())=((bI t a).1,(bI t a).2,()))
  (kd k:Int) (t:List Atom) (fl:Bool) (ht:t.length<1000000000):
  Xo (std 0) p1 f1 p2 f2 (kd,k,t,fl,()) (fun y=>y=if(bI t ⟨kd,k,[],[]⟩).2<0 then([],t,true,())else(gX (bI t ⟨kd,k,[],[]⟩).2,(bI t ⟨kd,k,[],[]⟩).1,fl,())):=by
 have sa:ShA ⟨kd,k,[],[]⟩:=⟨mQ,mQ⟩
 dsimp only [Xo,Alg.cl,Alg.cg,Alg.rb,Alg.bd,Alg.l1,Tup.q,Tup.o]
 simp (disch:=omega) only [RR,hp1,hf1,hp2 _ _ ht sa,hf2 _ _ ht sa]
 exact⟨fun h=>by rw [if_pos h],fun h=>by rw [if_neg h]⟩
theorem Ta (t:List Atom) (n:Nat):rN t (n+1)=((bI (rN t n).1 ⟨1,n,[],[]⟩).1,(rN t n).2++ [gX (bI (rN t n).1 ⟨1,n,[],[]⟩).2]):=rfl
theorem amC {p1:Int×Int×List Atom×Bool×Unit→Bool} {f1:Int×Int×List Atom×Bool×Unit→List aj×List Atom×Bool×Unit} (hp1:∀kd k (t:List Atom) fl,t.length<1000000000→p1 (kd,k,t,fl,())=true)
  (hf1:∀kd k (t:List Atom) fl,t.length<1000000000→f1 (kd,k,t,fl,())=if(bI t ⟨kd,k,[],[]⟩).2<0 then([],t,true,())else(gX (bI t ⟨kd,k,[],[]⟩).2,(bI t ⟨kd,k,[],[]⟩).1,fl,()))
  (t:List Atom) (fl:Bool) (ht:aI t) (hl:t.length≤196):Xu (std 0) p1 f1 (t,fl,()) (fun y=>y=((rN t 4).1,fl,(rN t 4).2,())):=by
 dsimp only [Xu,Alg.cl,Alg.cg,Alg.rb,Alg.bd,Alg.l1,Tup.q,Tup.o]
 refine ay (fun(y:Int×List Atom×Bool×List (List aj)×Unit)=>0≤y.1∧y.1≤4∧y.2.2.1=fl∧y.2.1=(rN t y.1.toNat).1∧y.2.2.2.1=(rN t y.1.toNat).2) (fun y=>(4-y.1).toNat) ⟨by simp,by simp,rfl,rfl,rfl⟩ ?_
 rintro⟨(i:Int),(u:List Atom),(g:Bool),(r:List (List aj)),⟨⟩⟩ hI
 dsimp only at hI ⊢
 obtain⟨h1,h2,rfl,rfl,rfl⟩:=hI
 have ok:=Ht ht hl i.toNat (by omega)
 have l1:=ok.tl
 have l2:=ok.r4
 simp (disch:=omega) only [RR,hp1 _ _ (rN t i.toNat).1 _ (by omega),hf1 _ _ (rN t i.toNat).1 _ (by omega),List.length_cons,List.length_nil]
 refine⟨fun h3=> ?_,fun h3=> ?_⟩
 ·have hp:=Je ht hl (n:=i.toNat) (by omega)
  rw [show((i.toNat:Nat):Int)=i by omega]at hp
  rw [if_neg (by omega)]
  have e:(i+1).toNat=i.toNat+1:=by omega
  have e2:((i.toNat:Nat):Int)=i:=by omega
  refine⟨by omega,⟨by omega,by omega,rfl,?_,?_⟩,by omega⟩
  ·rw [e,Ta,e2]
  ·rw [e,Ta,e2]
 ·rw [show i.toNat=4 by omega]
theorem amD (a:List (List aj)) (h0:0<a.length) (h1:a.length<1000000000):XD (std 0) (a,()) (fun y=>y=(a,a,())):=by
 dsimp only [XD,Alg.cl,Alg.cg,Alg.rb,Alg.bd,Alg.l1,Tup.q,Tup.o]
 simp (disch:=omega) only [RR,List.length_nil]
 exact⟨by omega,by omega,rfl⟩
theorem amE {p2:List Atom×Unit→Bool} {f2:List Atom×Unit→List Atom×Unit} (hp2:∀a,ShT a→p2 (a,())=true) (hf2:∀a,ShT a→f2 (a,())=(a,()))
  {p1:List Atom×Bool×Unit→Bool} {f1:List Atom×Bool×Unit→List Atom×Bool×List (List aj)×Unit} (hp1:∀(t:List Atom) fl,aI t→t.length≤196→p1 (t,fl,())=true) (hf1:∀(t:List Atom) fl,aI t→t.length≤196→f1 (t,fl,())=((rN t 4).1,fl,(rN t 4).2,())):
  Xw (std 0) p2 f2 p1 f1 () (fun y=>y.1=t4):=by
 have s4:ShT t4:=YN.1.sh
 unfold t4 at s4 ⊢
 dsimp only [Xw,Alg.cl,Alg.cg,Alg.rb,Alg.bd,Alg.l1,Tup.q,Tup.o]
 simp (disch:=omega) only [RR,hp1 [] false vG (by simp),hf1 [] false vG (by simp),hp2 _ s4,hf2 _ s4]
theorem amF {p1:List aj×Unit→Bool} {f1:List aj×Unit→Int×Bool×Unit} (hp1:∀a,Sh a→p1 (a,())=true) (hf1:∀a,Sh a→f1 (a,())=((dV a).1,(dV a).2,()))
  {p2:List aj×Unit→Bool} {f2:List aj×Unit→Bool×Unit} (hp2:∀a,Sh a→p2 (a,())=true) (hf2:∀a,Sh a→f2 (a,())=(bp (aT a),()))
  {p3:List aj×List aj×Unit→Bool} {f3:List aj×List aj×Unit→Int×Unit} (hp3:∀a b,Sh a→p3 (a,b,())=true) (hf3:∀a b,Sh a→f3 (a,b,())=(iO a b,()))
  {p4:Sym×Unit→Bool} {f4:Sym×Unit→Int×Int×List Ev×List (List aj)×List aj×List aj×Unit} (hp4:∀s,ShY s→p4 (s,())=true) (hf4:∀s,ShY s→f4 (s,())=(s.fin,s.k,s.events,s.regs,s.x,s.y,()))
  {p5:List aj×List aj×Unit→Bool} {f5:List aj×List aj×Unit→Bool×Unit} (hp5:∀a b,Sh a→p5 (a,b,())=true) (hf5:∀a b,Sh a→f5 (a,b,())=(decide (iO a b=0),()))
  {p6:Int×Int×Int×Unit→Bool} {f6:Int×Int×Int×Unit→Bool×Unit} (hp6:∀r a b,p6 (r,a,b,())=true) (hf6:∀r a b,f6 (r,a,b,())=(inB a 0 65535&&inB b 0 65535&& (decide (r=1∧a=b∨r=2∧a<b)),()))
  (s:Sym) (n:Int) (hs:ShY s) (h0:0≤s.fin) (h1:s.fin≤4):Wz (std 0) p1 f1 p2 f2 p3 f3 p4 f4 p5 f5 p6 f6 (s,n,()) (fun y=>y=(symEnd s n,())):=by
 dsimp only [Wz,Alg.cl,Alg.cg,Alg.rb,Alg.bd,Alg.l1,Tup.q,Tup.o]
 simp (disch:=omega) only [RR,RB,hp1 _ hs.x,hf1 _ hs.x,hp1 _ hs.y,hf1 _ hs.y,hp2 _ hs.x,hf2 _ hs.x,hp2 _ hs.y,hf2 _ hs.y,hp3 _ _ hs.x,hf3 _ _ hs.x,hp4 s hs,hf4 s hs,hp5 _ _ hs.x,hf5 _ _ hs.x,hp6,hf6]
 have xy:iO s.x s.y=0↔s.x=s.y:=lU
 have rx:(dV s.x).2=true→inB (dV s.x).1 0 65535=true:=fun h=>eX.2 (Fp h).2.2
 have ry:(dV s.y).2=true→inB (dV s.y).1 0 65535=true:=fun h=>eX.2 (Fp h).2.2
 unfold symEnd
 refine⟨fun h=> ?_,fun h=>⟨fun g=> ?_,fun g=>⟨fun k=> ?_,fun k=>⟨fun l=>⟨fun m=> ?_,fun m=> ?_⟩,fun l=>⟨fun m=> ?_,fun m=> ?_⟩⟩⟩⟩⟩
 ·rw [if_pos (by rw [uf,Bool.and_eq_false_iff];exact h)];rfl
 all_goals rw [if_neg (by rw [uf,h.1,h.2];simp)]
 ·rw [if_pos g]
 all_goals rw [if_neg (show¬(s.fin=2∧(dV s.x).2=true) by
  rintro⟨a,b⟩;rw [decide_eq_true a,b]at g;cases g)]
 ·rw [if_pos k]
 all_goals rw [if_neg (show¬(s.fin≠3∧s.fin≠4) by
  rintro⟨a,b⟩;rw [decide_eq_false a,decide_eq_false b]at k;cases k)]
 ·rw [if_pos (by rw [←xy];exact l),if_neg]
  rintro(⟨q1,q2⟩ | ⟨⟨q1,q2⟩,q3⟩)
  ·have:=m.1;rw [decide_eq_true (xy.2 q1),decide_eq_true q2]at this;cases this
  ·have:=m.2
   rw [q1,q2,rx q1,ry q2,decide_eq_true (by omega)]at this;cases this
 ·rw [if_pos (by rw [←xy];exact l),if_pos]
  rcases m with⟨q1,q2⟩ | ⟨q1,_,q3⟩
  ·exact Or.inl ⟨xy.1 q1,q2⟩
  ·exact Or.inr ⟨q1,by omega⟩
 all_goals rw [if_neg (show¬(s.x=s.y∨(dV s.x).2=true∧(dV s.y).2=true) by
  rintro(q | ⟨q1,q2⟩)
  ·exact l.1 (xy.2 q)
  ·have:=l.2;rw [q1,q2]at this;cases this)]
 ·rw [if_pos m]
 ·rw [if_neg]
  rintro⟨a,b⟩;rw [decide_eq_true a,decide_eq_true b]at m;cases m
end Go.TX.F
