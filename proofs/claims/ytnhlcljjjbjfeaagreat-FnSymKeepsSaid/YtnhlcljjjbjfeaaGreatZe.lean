/- Part 5 of a proof: what the last part needs. No condition. -/
import Derived.Test.YtnhlcljjjbjfeaaGreatZd
set_option linter.all false
set_option linter.unusedSectionVars false
set_option linter.unusedVariables false
set_option linter.unusedSimpArgs false
namespace Go.TX.Seat
open Go Go.AE Go.TX Go.TX.F Go.Proofs
set_option maxRecDepth 100000
theorem alr (A:Alg) (bF:Ct A.ah jf) (iN:Ct A.ah uO) (qc:Ct A.ah Ca): @Ru aI.z X E A [] (.seq .u (.seq .u (.seq .u (.seq (.seq .u (.block (.loop ⟨[(1,.c (.pb 0 7 0)),(2,.c (.pb 1 7 0)),(3,.c (.own 2)),(4,.c (.int .i64))],[.box (.sv false .blk),.box (.agg [.int .i64,.int .i64,.nil,.int .i64,.int .i64,.int .i64,.int .i64]),.rows true .bool]⟩ .u))) .u)))) Cc Tryz.f45 [(30,⟨_,bF⟩),(119,⟨_,iN⟩),(118,⟨_,qc⟩)] (Ib A bF.pre bF.fn iN.pre iN.fn qc.pre qc.fn):=fun _=>by kernel_rfl
theorem als (A:Alg) (bF:Ct A.ah jf) (aC:Ct A.ah bR): @Ru aI.z X E A [] (.seq .u (.seq .u (.seq .u (.seq (.seq .u (.block (.loop ⟨[(1,.c (.pb 0 7 0)),(3,.c (.own 1)),(4,.c (.int .i64))],[.box (.sv false .blk),.rows true .bool]⟩ .u))) (.seq (.seq .u (.cut ⟨[(1,.c (.pb 0 7 0)),(3,.c (.own 1))],[.box (.sv false .blk),.rows true .bool]⟩ (.cond .u .u))) (.seq (.seq .u (.cut ⟨[(1,.c (.pb 0 7 0)),(3,.c (.own 1))],[.box (.sv false .blk),.rows true .bool]⟩ (.cond .u .u))) (.seq (.seq .u (.block (.loop ⟨[(1,.c (.pb 0 7 0)),(3,.c (.own 1)),(5,.c (.int .i64))],[.box (.sv false .blk),.rows true .bool]⟩ (.seq .u (.seq (.cut ⟨[(1,.c (.pb 0 7 0)),(3,.c (.own 1)),(5,.c (.int .i64))],[.box (.sv false .blk),.rows true .bool]⟩ (.block (.seq .u (.seq .u (.seq (.seq .u (.cut ⟨[(1,.c (.pb 0 7 0)),(3,.c (.own 1)),(5,.c (.int .i64)),(6,.c (.pb 2 5 0))],[.box (.sv false .blk),.rows true .bool,.box (.sv false .iop)]⟩ (.cond .u .u))) (.seq .u (.cut ⟨[(1,.c (.pb 0 7 0)),(3,.c (.own 1)),(5,.c (.int .i64))],[.box (.sv false .blk),.rows true .bool]⟩ (.cond .u .u)))))))) .u))))) .u))))))) Ce Tryz.f50 [(30,⟨_,bF⟩),(89,⟨_,aC⟩)] (Ic A bF.pre bF.fn aC.pre aC.fn):=fun _=>by kernel_rfl
theorem alu (A:Alg) (bF:Ct A.ah jf) (qd:Ct A.ah Ce) (iN:Ct A.ah uO): @Ru aI.z X E A [(3,[(0,([1],[])),(1,([1],[])),(2,([8],[0])),(3,([7,9],[])),(4,([2,10],[]))])] .u Cg Tryz.f49 [(30,⟨_,bF⟩),(50,⟨_,qd⟩),(119,⟨_,iN⟩)] (Ie A bF.pre bF.fn qd.pre qd.fn iN.pre iN.fn):=fun _=>by kernel_rfl
theorem alv (A:Alg) (qg:Ct A.ah BZ) (iO:Ct A.ah uM) (qh:Ct A.ah Cg) (qj:Ct A.ah Cc): @Ru aI.z X E A [] .u Ch Tryz.f57 [(42,⟨_,qg⟩),(54,⟨_,iO⟩),(49,⟨_,qh⟩),(45,⟨_,qj⟩)] (Mt A qg.pre qg.fn iO.pre iO.fn qh.pre qh.fn qj.pre qj.fn):=fun _=>by kernel_rfl
theorem alx (A:Alg) (aD:Ct A.ah bY): @Ru aI.z X E A [] (.seq .u (.seq .u (.seq .u (.seq (.seq .u (.block (.seq (.seq .u (.cut ⟨[(0,.c (.pb 0 2 0)),(2,.c (.pb 1 4 0)),(3,.c (.int .i64)),(4,.c (.int .i64)),(10,.c (.int .i64)),(11,.c (.bool))],[.box (.agg [.rows true .u8,.int .i64]),.box (.agg [.int .i64,.int .i64,.int .i64,.int .i64])]⟩ (.cond .u .u))) (.cond .u (.seq .u (.cond .u (.seq (.seq .u (.cut ⟨[(0,.c (.pb 0 2 0)),(2,.c (.pb 1 4 0)),(3,.c (.int .i64)),(4,.c (.int .i64)),(10,.c (.int .i64)),(30,.c (.bool))],[.box (.agg [.rows true .u8,.int .i64]),.box (.agg [.int .i64,.int .i64,.int .i64,.int .i64])]⟩ (.cond .u (.seq .u (.cut ⟨[(0,.c (.pb 0 2 0)),(2,.c (.pb 1 4 0)),(3,.c (.int .i64)),(4,.c (.int .i64)),(10,.c (.int .i64)),(30,.c (.bool))],[.box (.agg [.rows true .u8,.int .i64]),.box (.agg [.int .i64,.int .i64,.int .i64,.int .i64])]⟩ (.cond .u .u)))))) (.cond .u (.seq .u (.cond .u (.seq (.seq .u (.cut ⟨[(0,.c (.pb 0 2 0)),(2,.c (.pb 1 4 0)),(3,.c (.int .i64)),(4,.c (.int .i64)),(10,.c (.int .i64)),(54,.c (.bool))],[.box (.agg [.rows true .u8,.int .i64]),.box (.agg [.int .i64,.int .i64,.int .i64,.int .i64])]⟩ (.cond .u .u))) .u))))))))))) .u)))) Ci Tryz.f204 [(61,⟨_,aD⟩)] (Ig A aD.pre aD.fn):=fun _=>by kernel_rfl
theorem aly (A:Alg): @Ru aI.z X E A [] (.seq .u (.seq (.seq .u (.block (.seq .u (.cond .u (.seq .u (.cond .u (.seq .u (.cond .u (.seq (.seq .u (.cut ⟨[(1,.c (.pb 0 4 0)),(4,.c (.int .i64)),(30,.c (.bool))],[.box (.sv false .ins)]⟩ (.cond .u (.seq .u (.cut ⟨[(1,.c (.pb 0 4 0)),(4,.c (.int .i64)),(30,.c (.bool))],[.box (.sv false .ins)]⟩ (.cond .u (.seq .u (.cut ⟨[(1,.c (.pb 0 4 0)),(4,.c (.int .i64)),(30,.c (.bool))],[.box (.sv false .ins)]⟩ (.cond .u (.seq .u (.cut ⟨[(1,.c (.pb 0 4 0)),(4,.c (.int .i64)),(30,.c (.bool))],[.box (.sv false .ins)]⟩ (.cond .u .u)))))))))))) (.cond .u (.seq .u (.cond .u (.seq .u (.cond .u (.seq (.seq .u (.cut ⟨[(1,.c (.pb 0 4 0)),(54,.c (.bool))],[.box (.sv false .ins)]⟩ (.cond .u .u))) .u))))))))))))))) .u)) Cj Tryz.f222 [] (Ih A):=fun _=>by kernel_rfl
theorem alz (A:Alg) (aC:Ct A.ah bR) (ql:Ct A.ah Cj): @Ru aI.z X E A [] .u uP Tryz.f206 [(89,⟨_,aC⟩),(222,⟨_,ql⟩)] (Ii A aC.pre aC.fn ql.pre ql.fn):=fun _=>by kernel_rfl
theorem alA (A:Alg): @Ru aI.z X E A [] .u uQ Tryz.f207 [] (Ij A):=fun _=>by kernel_rfl
theorem alB (A:Alg) (iP:Ct A.ah uQ) (iQ:Ct A.ah uP): @Ru aI.z X E A [] .u uR Tryz.f205 [(207,⟨_,iP⟩),(206,⟨_,iQ⟩)] (Ik A iP.pre iP.fn iQ.pre iQ.fn):=fun _=>by kernel_rfl
theorem alC (A:Alg) (qm:Ct A.ah Ci) (aD:Ct A.ah bY) (iR:Ct A.ah uR): @Ru aI.z X E A [(3,[(0,([3],[])),(1,([9],[])),(2,([3],[])),(3,([11],[])),(4,([0],[])),(5,([13],[1,3])),(6,([10,12,14],[])),(7,([2,15],[]))])] .u Ck Tryz.f182 [(204,⟨_,qm⟩),(61,⟨_,aD⟩),(205,⟨_,iR⟩)] (Il A qm.pre qm.fn aD.pre aD.fn iR.pre iR.fn):=fun _=>by kernel_rfl
theorem alD (A:Alg) (qo:Ct A.ah Ck) (aD:Ct A.ah bY): @Ru aI.z X E A [] (.seq .u (.seq .u (.seq (.seq .u (.block (.loop ⟨[(0,.c (.pb 0 2 0)),(3,.c (.own 1)),(4,.c (.int .i64))],[.box (.agg [.rows true .u8,.int .i64]),.rows true .ins]⟩ .u))) .u))) Cm Tryz.f139 [(182,⟨_,qo⟩),(61,⟨_,aD⟩)] (Im A qo.pre qo.fn aD.pre aD.fn):=fun _=>by kernel_rfl
theorem alE (A:Alg) (iP:Ct A.ah uQ) (iQ:Ct A.ah uP) (aC:Ct A.ah bR) (iR:Ct A.ah uR): @Ru aI.z X E A [] (.seq .u (.seq .u (.seq (.seq .u (.block (.loop ⟨[(1,.c (.rows false .ins)),(5,.c (.int .i64))],[]⟩ .u))) .u))) Cn Tryz.f183 [(207,⟨_,iP⟩),(206,⟨_,iQ⟩),(89,⟨_,aC⟩),(205,⟨_,iR⟩)] (Io A iP.pre iP.fn iQ.pre iQ.fn aC.pre aC.fn iR.pre iR.fn):=fun _=>by kernel_rfl
theorem alF (A:Alg): @Ru aI.z X E A [(2,[(0,([2],[])),(1,([2],[])),(2,([13],[])),(3,([14],[])),(4,([15],[])),(5,([4,12],[2])),(6,([16],[]))])] .u jg Tryz.f208 [] (Ip A):=fun _=>by kernel_rfl
theorem alG (A:Alg) (bG:Ct A.ah jg): @Ru aI.z X E A [] .u uS Tryz.f209 [(208,⟨_,bG⟩)] (Iq A bG.pre bG.fn):=fun _=>by kernel_rfl
theorem alH (A:Alg) (bG:Ct A.ah jg): @Ru aI.z X E A [] .u jS Tryz.f210 [(208,⟨_,bG⟩)] (Ir A bG.pre bG.fn):=fun _=>by kernel_rfl
theorem alI (A:Alg) (bV:Ct A.ah jS) (bG:Ct A.ah jg): @Ru aI.z X E A [] .u uT Tryz.f211 [(210,⟨_,bV⟩),(208,⟨_,bG⟩)] (Iu A bV.pre bV.fn bG.pre bG.fn):=fun _=>by kernel_rfl
theorem alJ (A:Alg): @Ru aI.z X E A [] (.seq .u (.seq .u (.seq (.seq .u (.block (.loop ⟨[(0,.c (.int .i64)),(3,.c (.int .i64)),(4,.c (.int .i64))],[]⟩ .u))) .u))) Cq Tryz.f212 [] (Iw A):=fun _=>by kernel_rfl
theorem alK (A:Alg) (bV:Ct A.ah jS) (bG:Ct A.ah jg) (iT:Ct A.ah uT) (iU:Ct A.ah uS): @Ru aI.z X E A [] .u Cr Tryz.f213 [(210,⟨_,bV⟩),(208,⟨_,bG⟩),(211,⟨_,iT⟩),(209,⟨_,iU⟩)] (Iy A bV.pre bV.fn bG.pre bG.fn iT.pre iT.fn iU.pre iU.fn):=fun _=>by kernel_rfl
theorem alL (A:Alg) (bV:Ct A.ah jS): @Ru aI.z X E A [] (.seq .u (.seq .u (.seq .u (.seq .u (.seq .u (.seq (.seq .u (.cut ⟨[(3,.c (.pb 1 4 0)),(4,.c (.pb 2 7 0)),(8,.c (.int .i64)),(9,.c (.pb 3 7 0)),(10,.c (.int .i64))],[.gone,.box (.sv false .ins),.box (.agg [.int .i64,.int .i64,.nil,.int .i64,.int .i64,.int .i64,.int .i64]),.box (.agg [.int .i64,.int .i64,.own 4,.int .i64,.int .i64,.int .i64,.int .i64]),.rows true .iop]⟩ (.cond .u .u))) .u)))))) Cu Tryz.f214 [(210,⟨_,bV⟩)] (Iz A bV.pre bV.fn):=fun _=>by kernel_rfl
theorem alM (A:Alg) (bV:Ct A.ah jS) (qp:Ct A.ah Cu) (bG:Ct A.ah jg) (qw:Ct A.ah Cr) (iT:Ct A.ah uT) (iU:Ct A.ah uS) (qx:Ct A.ah Cq): @Ru aI.z X E A [(9,[(0,([3],[])),(1,([4],[])),(2,([56],[])),(3,([4],[])),(4,([58],[])),(5,([59],[0,2])),(6,([60],[])),(7,([55,57,61],[])),(8,([62],[])),(9,([54],[])),(10,([54],[])),(11,([],[])),(12,([11,63],[])),(13,([64],[]))])] (.seq .u (.seq (.seq .u (.block (.seq .u (.cond .u (.seq .u (.cond .u (.seq .u (.cond .u (.seq (.seq .u (.cut ⟨[(2,.c (.int .i64)),(3,.c (.pb 1 7 0)),(4,.c (.pb 2 4 0)),(6,.c (.pb 3 7 0)),(22,.c (.int .i64)),(70,.c (.bool))],[.rows true .iop,.box (.agg [.int .i64,.int .i64,.own 0,.int .i64,.int .i64,.int .i64,.int .i64]),.box (.sv false .ins),.box (.agg [.int .i64,.int .i64,.nil,.int .i64,.int .i64,.int .i64,.int .i64])]⟩ (.cond .u .u))) (.cond .u (.seq .u (.cond .u (.seq .u (.cond .u (.seq (.seq .u (.cut ⟨[(3,.c (.pb 1 7 0)),(4,.c (.pb 2 4 0)),(6,.c (.pb 3 7 0)),(109,.c (.bool))],[.rows true .iop,.box (.agg [.int .i64,.int .i64,.own 0,.int .i64,.int .i64,.int .i64,.int .i64]),.box (.sv false .ins),.box (.agg [.int .i64,.int .i64,.nil,.int .i64,.int .i64,.int .i64,.int .i64])]⟩ (.cond .u (.seq .u (.cut ⟨[(3,.c (.pb 1 7 0)),(4,.c (.pb 2 4 0)),(6,.c (.pb 3 7 0)),(109,.c (.bool))],[.rows true .iop,.box (.agg [.int .i64,.int .i64,.own 0,.int .i64,.int .i64,.int .i64,.int .i64]),.box (.sv false .ins),.box (.agg [.int .i64,.int .i64,.nil,.int .i64,.int .i64,.int .i64,.int .i64])]⟩ (.cond .u .u)))))) .u))))))))))))))) .u)) Cv Tryz.f184 [(210,⟨_,bV⟩),(214,⟨_,qp⟩),(208,⟨_,bG⟩),(213,⟨_,qw⟩),(211,⟨_,iT⟩),(209,⟨_,iU⟩),(212,⟨_,qx⟩)] (IB A bV.pre bV.fn qp.pre qp.fn bG.pre bG.fn qw.pre qw.fn iT.pre iT.fn iU.pre iU.fn qx.pre qx.fn):=fun _=>by kernel_rfl
theorem alN (A:Alg) (qy:Ct A.ah Cn) (qz:Ct A.ah Cv): @Ru aI.z X E A [(7,[(0,([5],[])),(1,([1],[])),(2,([6],[])),(3,([27,28],[])),(4,([29],[])),(5,([6],[])),(6,([26,30,31],[])),(7,([5,32],[]))])] (.seq .u (.seq .u (.seq .u (.seq (.seq .u (.block (.loop ⟨[(1,.c (.rows false .ins)),(4,.c (.pb 0 7 0)),(5,.c (.pb 1 7 0)),(6,.c (.int .i64))],[.box (.agg [.int .i64,.int .i64,.nil,.int .i64,.int .i64,.int .i64,.int .i64]),.box (.agg [.int .i64,.int .i64,.own 2,.int .i64,.int .i64,.int .i64,.int .i64]),.rows true .iop]⟩ .u))) .u)))) Cw Tryz.f140 [(183,⟨_,qy⟩),(184,⟨_,qz⟩)] (IC A qy.pre qy.fn qz.pre qz.fn):=fun _=>by kernel_rfl
theorem alO (A:Alg) (qA:Ct A.ah Cw) (qB:Ct A.ah Ch) (iO:Ct A.ah uM) (aD:Ct A.ah bY) (qC:Ct A.ah Cm): @Ru aI.z X E A [] .u Cx Tryz.f66 [(140,⟨_,qA⟩),(57,⟨_,qB⟩),(54,⟨_,iO⟩),(61,⟨_,aD⟩),(139,⟨_,qC⟩)] (IE A qA.pre qA.fn qB.pre qB.fn iO.pre iO.fn aD.pre aD.fn qC.pre qC.fn):=fun _=>by kernel_rfl
theorem arD (A:Alg): @Ru aI.z X E A [] .u Ml Tryz.f148 [] (Zk A):=fun _=>by kernel_rfl
theorem arE (A:Alg) (u7:Ct A.ah Ml): @Ru aI.z X E A [] .u Em Tryz.f80 [(148,⟨_,u7⟩)] (Zl A u7.pre u7.fn):=fun _=>by kernel_rfl
theorem arF (A:Alg): @Ru aI.z X E A [] (.seq .u (.seq .u (.seq (.seq .u (.block (.loop ⟨[(3,.c (.int .i64)),(6,.c (.rows false .i64)),(7,.c (.int .i64)),(8,.c (.int .i64))],[]⟩ .u))) .u))) Mq Tryz.f81 [] (Zo A):=fun _=>by kernel_rfl
theorem ao4 (A:Alg) (lM:Ct A.ah Em): @Ru aI.z X E A [] (.seq .u (.seq (.seq .u (.block (.loop ⟨[(0,.c (.rows false .i64)),(1,.c (.rows false .i64)),(9,.c (.rows false .i64)),(10,.c (.int .i64)),(11,.c (.int .i64))],[]⟩ .u))) .u)) Kc Tryz.f149 [(80,⟨_,lM⟩)] (PK A lM.pre lM.fn):=fun _=>by kernel_rfl
theorem ao5 (A:Alg) (vg:Ct A.ah Mq) (lM:Ct A.ah Em) (xX:Ct A.ah Kc): @Ru aI.z X E A [] .u nY Tryz.f82 [(81,⟨_,vg⟩),(80,⟨_,lM⟩),(149,⟨_,xX⟩)] (PL A vg.pre vg.fn lM.pre lM.fn xX.pre xX.fn):=fun _=>by kernel_rfl
theorem ao6 (A:Alg): @Ru aI.z X E A [] .u dA Tryz.f121 [] (PN A):=fun _=>by kernel_rfl
theorem arG (A:Alg) (u7:Ct A.ah Ml): @Ru aI.z X E A [] .u En Tryz.f185 [(148,⟨_,u7⟩)] (Zp A u7.pre u7.fn):=fun _=>by kernel_rfl
theorem alP (A:Alg) (lN:Ct A.ah En): @Ru aI.z X E A [(4,[(0,([0],[])),(1,([3],[])),(2,([11,12],[])),(3,([13],[])),(4,([0],[])),(5,([3],[])),(6,([16],[])),(7,([15,17],[])),(8,([18],[])),(9,([14,19],[]))])] (.seq .u (.seq (.seq .u (.block (.loop ⟨[(0,.c (.rows false .i64)),(3,.c (.int .i64))],[]⟩ .u))) .u)) Cy Tryz.f141 [(185,⟨_,lN⟩)] (IG A lN.pre lN.fn):=fun _=>by kernel_rfl
theorem ao7 (A:Alg): @Ru aI.z X E A [] .u Ke Tryz.f187 [] (PO A):=fun _=>by kernel_rfl
theorem alQ (A:Alg) (xY:Ct A.ah Ke): @Ru aI.z X E A [] (.seq .u (.seq (.seq .u (.block (.loop ⟨[(0,.c (.rows false .i64)),(1,.c (.fn 187 [(0,1)])),(7,.c (.int .i64)),(8,.c (.int .i64))],[.box (.c (.int .i64))]⟩ .u))) .u)) Cz Tryz.f215 [(187,⟨_,xY⟩)] (II A xY.pre xY.fn):=fun _=>by kernel_rfl
theorem alR (A:Alg) (qD:Ct A.ah Cz): @Ru aI.z X E A [] .u CB Tryz.f186 [(215,⟨_,qD⟩)] (IJ A qD.pre qD.fn):=fun _=>by kernel_rfl
theorem ao8 (A:Alg) (qE:Ct A.ah CB): @Ru aI.z X E A [] (.seq .u (.seq (.seq .u (.block (.loop ⟨[(3,.c (.pb 0 1 0)),(8,.c (.rows false .mono)),(9,.c (.int .i64)),(10,.c (.int .i64))],[.box (.c (.int .i64))]⟩ .u))) .u)) Ah Tryz.f142 [(186,⟨_,qE⟩)] (PS A qE.pre qE.fn):=fun _=>by kernel_rfl
theorem ao9 (A:Alg): @Ru aI.z X E A [] .u Kg Tryz.f144 [] (PU A):=fun _=>by kernel_rfl
theorem alS (A:Alg) (xZ:Ct A.ah Kg): @Ru aI.z X E A [] (.seq .u (.seq (.seq .u (.block (.loop ⟨[(0,.c (.rows false .mono)),(1,.c (.fn 144 [])),(7,.c (.int .i64)),(8,.c (.int .i64))],[]⟩ .u))) .u)) CF Tryz.f188 [(144,⟨_,xZ⟩)] (IK A xZ.pre xZ.fn):=fun _=>by kernel_rfl
theorem alT (A:Alg) (qF:Ct A.ah CF): @Ru aI.z X E A [] .u CG Tryz.f143 [(188,⟨_,qF⟩)] (IL A qF.pre qF.fn):=fun _=>by kernel_rfl
theorem apa (A:Alg) (aF:Ct A.ah dA) (kM:Ct A.ah Ah) (qG:Ct A.ah Cy) (eB:Ct A.ah nY) (qH:Ct A.ah CG): @Ru aI.z X E A [(4,[(0,([4],[])),(1,([13],[])),(2,([14],[])),(3,([15],[])),(4,([16],[])),(5,([4,17],[])),(6,([17,18],[])),(7,([17,19],[])),(8,([17,20],[])),(9,([17,21],[])),(10,([22],[])),(11,([4,23],[])),(12,([23,24],[])),(13,([23,25],[])),(14,([23,26],[])),(15,([23,27],[])),(16,([28],[])),(17,([3,29],[])),(18,([29,30],[])),(19,([29,31],[])),(20,([1,32],[])),(21,([32,33],[])),(22,([3,32],[])),(23,([32,35],[])),(24,([32,34,36],[])),(25,([32,37],[])),(26,([32,38],[])),(27,([4,32],[])),(28,([32,40],[])),(29,([32,39,41],[])),(30,([32,42],[])),(31,([29,32,43],[])),(32,([29,44],[]))])] (.seq .u (.seq (.seq .u (.block (.loop ⟨[(1,.c (.pb 0 1 0)),(6,.c (.rows false .mono)),(7,.c (.int .i64)),(8,.c (.int .i64))],[.box (.sv false .poly)]⟩ .u))) .u)) jk Tryz.f67 [(121,⟨_,aF⟩),(142,⟨_,kM⟩),(141,⟨_,qG⟩),(82,⟨_,eB⟩),(143,⟨_,qH⟩)] (PW A aF.pre aF.fn kM.pre kM.fn qG.pre qG.fn eB.pre eB.fn qH.pre qH.fn):=fun _=>by kernel_rfl
theorem apb (A:Alg) (bB:Ct A.ah jk): @Ru aI.z X E A [] .u Ai Tryz.f22 [(67,⟨_,bB⟩)] (PX A bB.pre bB.fn):=fun _=>by kernel_rfl
theorem apc (A:Alg) (vg:Ct A.ah Mq) (lM:Ct A.ah Em) (eB:Ct A.ah nY): @Ru aI.z X E A [(7,[(0,([7],[])),(1,([27],[])),(2,([3],[])),(3,([29],[])),(4,([6],[])),(5,([30,31],[])),(6,([32],[])),(7,([33],[])),(9,([7],[])),(10,([36],[])),(11,([3],[])),(12,([38],[])),(13,([6],[])),(14,([39,40],[])),(15,([41],[])),(16,([42],[])),(8,([28,34],[10,12,16])),(17,([37,43],[])),(18,([35,44],[])),(19,([45],[])),(20,([46],[]))])] (.seq .u (.seq .u (.seq (.seq .u (.block (.loop ⟨[(3,.c (.pb 0 1 0)),(20,.c (.rows false .mono)),(21,.c (.int .i64)),(22,.c (.int .i64))],[.box (.sv false .poly)]⟩ .u))) .u))) vI Tryz.f24 [(81,⟨_,vg⟩),(80,⟨_,lM⟩),(82,⟨_,eB⟩)] (PY A vg.pre vg.fn lM.pre lM.fn eB.pre eB.fn):=fun _=>by kernel_rfl
theorem apd (A:Alg): @Ru aI.z X E A [] .u Aj Tryz.f189 [] (PZ A):=fun _=>by kernel_rfl
theorem ape (A:Alg) (kN:Ct A.ah Aj): @Ru ⟨[20],[]⟩ X E A [(5,[(0,([3],[])),(1,([13],[])),(2,([5],[])),(3,([15],[])),(4,([5],[])),(5,([17],[])),(6,([18],[1,3])),(7,([16,19],[])),(8,([20],[1])),(9,([14,21],[])),(10,([3],[])),(11,([22,23],[]))])] (.seq .u (.seq .u (.seq (.seq .u (.block (.loop ⟨[(2,.c (.pb 0 1 0)),(3,.c (.pb 1 1 0)),(7,.c (.rows false .mono)),(8,.c (.int .i64)),(9,.c (.int .i64))],[.box (.agg [.nil]),.box (.agg [.own 2]),.rows true .mono]⟩ .u))) .u))) vJ Tryz.f146 [(189,⟨_,kN⟩)] (P6 A kN.pre kN.fn):=fun _=>by kernel_rfl
theorem apf (A:Alg) (gG:Ct A.ah vJ): @Ru aI.z X E A [] (.seq .u (.seq .u (.seq (.seq .u (.block (.loop ⟨[(3,.c (.own 0)),(6,.c (.rows false .poly)),(7,.c (.int .i64)),(8,.c (.int .i64))],[.rows true .poly]⟩ .u))) .u))) Kh Tryz.f145 [(146,⟨_,gG⟩)] (P7 A gG.pre gG.fn):=fun _=>by kernel_rfl
theorem apg (A:Alg) (gG:Ct A.ah vJ) (yc:Ct A.ah Kh): @Ru ⟨[42],[]⟩ X E A [(1,[(0,([1],[])),(1,([6],[])),(3,([1],[])),(4,([9],[])),(5,([1],[])),(6,([11],[])),(8,([1],[])),(9,([14],[])),(11,([1],[])),(12,([17],[])),(2,([7],[4,6,9,12])),(7,([12],[4,9,12])),(10,([15],[4,12])),(13,([8,10,13,16,18],[])),(14,([],[])),(15,([3,19],[]))]),(5,[(0,([3],[])),(1,([27],[])),(2,([5],[])),(3,([29],[])),(4,([5],[])),(5,([31],[])),(6,([5],[])),(7,([33],[])),(9,([5],[])),(10,([36],[])),(12,([5],[])),(13,([39],[])),(8,([34],[1,3,5,10,13])),(11,([37],[1,3,5,13])),(14,([40],[1,3,5])),(15,([30,32,35,38,41],[])),(16,([42],[1])),(17,([28,43],[])),(18,([3],[])),(19,([44,45],[]))])] (.seq .u (.seq .u (.seq (.seq .u (.block (.loop ⟨[(2,.c (.pb 0 6 0)),(3,.c (.pb 1 6 0)),(21,.c (.rows false .ev)),(22,.c (.int .i64)),(23,.c (.int .i64))],[.box (.agg [.nil,.nil,.int .i64,.nil,.nil,.int .i64]),.box (.agg [.own 2,.own 3,.int .i64,.own 4,.own 5,.int .i64]),.rows true .ev,.rows true .poly,.rows true .mono,.rows true .mono]⟩ .u))) .u))) Ki Tryz.f68 [(146,⟨_,gG⟩),(145,⟨_,yc⟩)] (P8 A gG.pre gG.fn yc.pre yc.fn):=fun _=>by kernel_rfl
theorem aph (A:Alg) (gH:Ct A.ah vI): @Ru aI.z X E A [] .u vK Tryz.f69 [(24,⟨_,gH⟩)] (P9 A gH.pre gH.fn):=fun _=>by kernel_rfl
theorem apj (A:Alg) (aF:Ct A.ah dA): @Ru aI.z X E A [] .u jI Tryz.f78 [(121,⟨_,aF⟩)] (Qc A aF.pre aF.fn):=fun _=>by kernel_rfl
theorem apk (A:Alg) (bP:Ct A.ah jI): @Ru aI.z X E A [] .u Kj Tryz.f70 [(78,⟨_,bP⟩)] (Qd A bP.pre bP.fn):=fun _=>by kernel_rfl
theorem apl (A:Alg) (kP:Ct A.ah Ai) (bB:Ct A.ah jk) (gH:Ct A.ah vI) (yg:Ct A.ah Ki) (gI:Ct A.ah vK) (yh:Ct A.ah Kj): @Ru aI.z X E A [] (.seq .u (.seq .u (.seq .u (.seq .u (.seq .u (.seq .u (.seq (.block (.seq .u (.cut ⟨[(4,.c (.pb 0 6 0)),(5,.c (.pb 1 6 0))],[.box (.agg [.nil,.nil,.int .i64,.nil,.nil,.int .i64]),.box (.agg [.own 2,.own 3,.int .i64,.own 4,.own 5,.int .i64]),.rows true .ev,.rows true .poly,.rows true .mono,.rows true .mono]⟩ (.cond .u (.seq .u (.cut ⟨[(4,.c (.pb 0 6 0)),(5,.c (.pb 1 6 0))],[.box (.agg [.nil,.nil,.int .i64,.nil,.nil,.int .i64]),.box (.agg [.own 2,.own 3,.int .i64,.own 4,.own 5,.int .i64]),.rows true .ev,.rows true .poly,.rows true .mono,.rows true .mono]⟩ (.cond .u (.seq .u (.cut ⟨[(4,.c (.pb 0 6 0)),(5,.c (.pb 1 6 0))],[.box (.agg [.nil,.nil,.int .i64,.nil,.nil,.int .i64]),.box (.agg [.own 2,.own 3,.int .i64,.own 4,.own 5,.int .i64]),.rows true .ev,.rows true .poly,.rows true .mono,.rows true .mono]⟩ (.cond (.seq .u (.seq .u (.seq .u (.cut ⟨[(4,.c (.pb 0 6 0)),(5,.c (.pb 1 6 0))],[.box (.agg [.nil,.nil,.int .i64,.nil,.nil,.int .i64]),.box (.agg [.own 2,.own 3,.int .i64,.nil,.nil,.int .i64]),.rows true .ev,.rows true .poly]⟩ (.cond .u .u))))) (.seq .u (.cut ⟨[(4,.c (.pb 0 6 0)),(5,.c (.pb 1 6 0))],[.box (.agg [.nil,.nil,.int .i64,.nil,.nil,.int .i64]),.box (.agg [.own 2,.own 3,.int .i64,.own 4,.own 5,.int .i64]),.rows true .ev,.rows true .poly,.rows true .mono,.rows true .mono]⟩ (.cond .u .u))))))))))))) .u))))))) Kk Tryz.f16 [(22,⟨_,kP⟩),(67,⟨_,bB⟩),(24,⟨_,gH⟩),(68,⟨_,yg⟩),(69,⟨_,gI⟩),(70,⟨_,yh⟩)] (Qe A kP.pre kP.fn bB.pre bB.fn gH.pre gH.fn yg.pre yg.fn gI.pre gI.fn yh.pre yh.fn):=fun _=>by kernel_rfl
theorem apm (A:Alg): @Ru aI.z X E A [(6,[(0,([0],[])),(1,([5],[])),(2,([17,18],[])),(3,([19],[])),(4,([1],[])),(5,([5],[])),(6,([21,22],[])),(7,([23],[])),(8,([20,24],[]))])] (.seq .u (.seq .u (.seq (.seq .u (.block (.loop ⟨[(0,.c (.rows false .i64)),(1,.c (.rows false .i64)),(5,.c (.int .i64))],[]⟩ .u))) .u))) Kl Tryz.f79 [] (Qh A):=fun _=>by kernel_rfl
theorem apn (A:Alg) (yj:Ct A.ah Kl): @Ru aI.z X E A [(6,[(0,([2],[])),(1,([20],[])),(2,([5],[])),(3,([21,22],[])),(4,([23],[])),(5,([24],[])),(6,([3],[])),(7,([26],[])),(8,([5],[])),(9,([27,28],[])),(10,([29],[])),(11,([30],[])),(12,([25,31],[])),(13,([32],[])),(14,([2,33],[])),(15,([33,34],[])),(16,([5,33],[])),(17,([33,35,36],[])),(18,([33,37],[])),(19,([33,38],[])),(20,([3,33],[])),(21,([33,40],[])),(22,([5,33],[])),(23,([33,41,42],[])),(24,([33,43],[])),(25,([33,44],[])),(26,([33,39,45],[])),(27,([33,46],[])),(28,([33,47],[]))])] (.seq .u (.seq .u (.seq (.seq .u (.block (.loop ⟨[(2,.c (.pb 0 1 0)),(3,.c (.pb 1 1 0)),(5,.c (.int .i64))],[.box (.sv false .poly),.box (.sv false .poly)]⟩ .u))) .u))) vL Tryz.f23 [(79,⟨_,yj⟩)] (Qi A yj.pre yj.fn):=fun _=>by kernel_rfl
theorem apo (A:Alg) (gJ:Ct A.ah vL): @Ru aI.z X E A [(6,[(0,([0],[])),(1,([5],[])),(2,([17,18],[])),(3,([19],[])),(4,([1],[])),(5,([5],[])),(6,([21,22],[])),(7,([23],[])),(8,([20,24],[])),(9,([25],[]))])] (.seq .u (.seq .u (.seq (.seq .u (.block (.loop ⟨[(0,.c (.rows false .poly)),(1,.c (.rows false .poly)),(5,.c (.int .i64))],[]⟩ .u))) .u))) Km Tryz.f21 [(23,⟨_,gJ⟩)] (Qj A gJ.pre gJ.fn):=fun _=>by kernel_rfl
theorem apq (A:Alg) (gJ:Ct A.ah vL) (yu:Ct A.ah Km): @Ru aI.z X E A [] (.seq .u (.seq .u (.seq (.seq .u (.block (.loop ⟨[(2,.c (.pb 0 6 0)),(3,.c (.pb 1 6 0)),(5,.c (.int .i64))],[.box (.sv false .sym),.box (.sv false .sym)]⟩ .u))) .u))) Kn Tryz.f17 [(23,⟨_,gJ⟩),(21,⟨_,yu⟩)] (Qk A gJ.pre gJ.fn yu.pre yu.fn):=fun _=>by kernel_rfl
theorem apr (A:Alg) (bP:Ct A.ah jI): @Ru aI.z X E A [] .u Ko Tryz.f20 [(78,⟨_,bP⟩)] (Ql A bP.pre bP.fn):=fun _=>by kernel_rfl
theorem alU (A:Alg) (aD:Ct A.ah bY) (dV:Ct A.ah mW): @Ru aI.z X E A [(9,[(0,([5],[])),(1,([33],[])),(2,([6],[])),(3,([5],[])),(4,([36],[])),(5,([6],[])),(6,([37,38],[])),(7,([39],[])),(8,([40],[])),(9,([41],[])),(10,([34,35],[])),(11,([43],[])),(12,([42,44],[]))]),(11,[(0,([5],[])),(1,([47],[])),(2,([6],[])),(3,([0],[])),(4,([6],[])),(5,([51],[])),(6,([50,52],[1])),(7,([48,49],[])),(8,([54],[])),(9,([53,55],[]))]),(13,[(0,([5],[])),(1,([58],[])),(2,([6],[])),(3,([0],[])),(4,([6],[])),(5,([62],[])),(6,([61,63],[1])),(7,([59,60],[])),(8,([65],[])),(9,([64,66],[]))]),(15,[(0,([5],[])),(1,([69],[])),(2,([6],[])),(3,([0],[])),(4,([5],[])),(5,([73],[])),(6,([74],[])),(7,([72,75],[1])),(8,([70,71],[])),(9,([77],[])),(10,([76,78],[]))]),(23,[(0,([5],[])),(1,([99],[])),(2,([6],[])),(3,([5],[])),(4,([102],[])),(5,([6],[])),(6,([104],[])),(7,([103,105],[])),(8,([106],[])),(9,([100,101],[])),(10,([107,108],[]))]),(26,[(0,([5],[])),(1,([117],[])),(2,([6],[])),(3,([0],[])),(4,([120],[1])),(5,([121],[])),(6,([118,119],[])),(7,([122,123],[]))])] (.seq .u (.seq .u (.seq .u (.seq .u (.seq (.seq .u (.block (.seq .u (.cut ⟨[(4,.c (.pb 1 7 0)),(5,.c (.pb 2 7 0))],[.box (.agg [.rows true .u8,.int .i64]),.box (.agg [.int .i64,.int .i64,.nil,.int .i64,.int .i64,.int .i64,.int .i64]),.box (.agg [.int .i64,.int .i64,.own 3,.int .i64,.int .i64,.int .i64,.int .i64]),.rows true .iop]⟩ (.cond .u (.seq .u (.cut ⟨[(4,.c (.pb 1 7 0)),(5,.c (.pb 2 7 0))],[.box (.agg [.rows true .u8,.int .i64]),.box (.agg [.int .i64,.int .i64,.nil,.int .i64,.int .i64,.int .i64,.int .i64]),.box (.agg [.int .i64,.int .i64,.own 3,.int .i64,.int .i64,.int .i64,.int .i64]),.rows true .iop]⟩ (.cond .u (.seq .u (.cut ⟨[(4,.c (.pb 1 7 0)),(5,.c (.pb 2 7 0))],[.box (.agg [.rows true .u8,.int .i64]),.box (.agg [.int .i64,.int .i64,.nil,.int .i64,.int .i64,.int .i64,.int .i64]),.box (.agg [.int .i64,.int .i64,.own 3,.int .i64,.int .i64,.int .i64,.int .i64]),.rows true .iop]⟩ (.cond .u (.seq .u (.cut ⟨[(4,.c (.pb 1 7 0)),(5,.c (.pb 2 7 0))],[.box (.agg [.rows true .u8,.int .i64]),.box (.agg [.int .i64,.int .i64,.nil,.int .i64,.int .i64,.int .i64,.int .i64]),.box (.agg [.int .i64,.int .i64,.own 3,.int .i64,.int .i64,.int .i64,.int .i64]),.rows true .iop]⟩ (.cond .u (.seq .u (.cut ⟨[(4,.c (.pb 1 7 0)),(5,.c (.pb 2 7 0))],[.box (.agg [.rows true .u8,.int .i64]),.box (.agg [.int .i64,.int .i64,.nil,.int .i64,.int .i64,.int .i64,.int .i64]),.box (.agg [.int .i64,.int .i64,.own 3,.int .i64,.int .i64,.int .i64,.int .i64]),.rows true .iop]⟩ (.cond .u (.seq .u (.cut ⟨[(4,.c (.pb 1 7 0)),(5,.c (.pb 2 7 0))],[.box (.agg [.rows true .u8,.int .i64]),.box (.agg [.int .i64,.int .i64,.nil,.int .i64,.int .i64,.int .i64,.int .i64]),.box (.agg [.int .i64,.int .i64,.own 3,.int .i64,.int .i64,.int .i64,.int .i64]),.rows true .iop]⟩ (.cond .u (.seq .u (.cut ⟨[(4,.c (.pb 1 7 0)),(5,.c (.pb 2 7 0))],[.box (.agg [.rows true .u8,.int .i64]),.box (.agg [.int .i64,.int .i64,.nil,.int .i64,.int .i64,.int .i64,.int .i64]),.box (.agg [.int .i64,.int .i64,.own 3,.int .i64,.int .i64,.int .i64,.int .i64]),.rows true .iop]⟩ (.cond (.seq .u (.cut ⟨[(4,.c (.pb 1 7 0)),(5,.c (.pb 2 7 0))],[.box (.agg [.rows true .u8,.int .i64]),.box (.agg [.int .i64,.int .i64,.nil,.int .i64,.int .i64,.int .i64,.int .i64]),.box (.agg [.int .i64,.int .i64,.own 3,.int .i64,.int .i64,.int .i64,.int .i64]),.rows true .iop]⟩ (.cond .u .u))) (.seq .u (.cut ⟨[(4,.c (.pb 1 7 0)),(5,.c (.pb 2 7 0))],[.box (.agg [.rows true .u8,.int .i64]),.box (.agg [.int .i64,.int .i64,.nil,.int .i64,.int .i64,.int .i64,.int .i64]),.box (.agg [.int .i64,.int .i64,.own 3,.int .i64,.int .i64,.int .i64,.int .i64]),.rows true .iop]⟩ (.cond .u .u)))))))))))))))))))))))))) .u))))) CJ Tryz.f151 [(61,⟨_,aD⟩),(113,⟨_,dV⟩)] (Dj A aD.pre aD.fn dV.pre dV.fn):=fun _=>by kernel_rfl
theorem alV (A:Alg) (iV:Ct A.ah uh) (aD:Ct A.ah bY) (qI:Ct A.ah CJ) (qJ:Ct A.ah Cx): @Ru aI.z X E A [(15,[(0,([5],[])),(1,([54],[])),(2,([],[])),(3,([0],[])),(7,([5],[])),(8,([61],[])),(9,([62],[])),(4,([57],[1,8])),(5,([56,58],[])),(6,([59],[])),(10,([60,63],[])),(11,([64],[])),(12,([55,65],[])),(13,([5],[])),(14,([66,67],[]))])] (.seq .u (.seq .u (.seq (.seq .u (.cut ⟨[(4,.c (.pb 1 7 0)),(5,.c (.pb 2 7 0))],[.box (.agg [.rows true .u8,.int .i64]),.box (.agg [.int .i64,.int .i64,.nil,.int .i64,.int .i64,.int .i64,.int .i64]),.box (.agg [.int .i64,.int .i64,.own 3,.int .i64,.int .i64,.int .i64,.int .i64]),.rows true .iop]⟩ (.cond (.seq .u (.block (.seq .u (.cut ⟨[(4,.c (.pb 1 7 0)),(5,.c (.pb 2 7 0))],[.box (.agg [.rows true .u8,.int .i64]),.box (.agg [.int .i64,.int .i64,.nil,.int .i64,.int .i64,.int .i64,.int .i64]),.box (.agg [.int .i64,.int .i64,.own 3,.int .i64,.int .i64,.int .i64,.int .i64]),.rows true .iop]⟩ (.cond .u (.seq .u (.cut ⟨[(4,.c (.pb 1 7 0)),(5,.c (.pb 2 7 0))],[.box (.agg [.rows true .u8,.int .i64]),.box (.agg [.int .i64,.int .i64,.nil,.int .i64,.int .i64,.int .i64,.int .i64]),.box (.agg [.int .i64,.int .i64,.own 3,.int .i64,.int .i64,.int .i64,.int .i64]),.rows true .iop]⟩ (.cond .u (.seq .u (.cut ⟨[(4,.c (.pb 1 7 0)),(5,.c (.pb 2 7 0))],[.box (.agg [.rows true .u8,.int .i64]),.box (.agg [.int .i64,.int .i64,.nil,.int .i64,.int .i64,.int .i64,.int .i64]),.box (.agg [.int .i64,.int .i64,.own 3,.int .i64,.int .i64,.int .i64,.int .i64]),.rows true .iop]⟩ (.cond (.block (.loop ⟨[(4,.c (.pb 1 7 0)),(5,.c (.pb 2 7 0))],[.box (.agg [.rows true .u8,.int .i64]),.box (.agg [.int .i64,.int .i64,.nil,.int .i64,.int .i64,.int .i64,.int .i64]),.box (.agg [.int .i64,.int .i64,.own 3,.int .i64,.int .i64,.int .i64,.int .i64]),.rows true .iop]⟩ .u)) (.seq .u (.cut ⟨[(4,.c (.pb 1 7 0)),(5,.c (.pb 2 7 0))],[.box (.agg [.rows true .u8,.int .i64]),.box (.agg [.int .i64,.int .i64,.nil,.int .i64,.int .i64,.int .i64,.int .i64]),.box (.agg [.int .i64,.int .i64,.own 3,.int .i64,.int .i64,.int .i64,.int .i64]),.rows true .iop]⟩ (.cond .u .u)))))))))))))) .u))) .u))) CK Tryz.f98 [(158,⟨_,iV⟩),(61,⟨_,aD⟩),(151,⟨_,qI⟩),(66,⟨_,qJ⟩)] (IV A iV.pre iV.fn aD.pre aD.fn qI.pre qI.fn qJ.pre qJ.fn):=fun _=>by kernel_rfl
end Go.TX.Seat
namespace Go.TX.Seat
open Go Go.AE Go.TX Go.TX.F Go.Proofs
set_option maxRecDepth 100000
theorem aps (A:Alg) (aF:Ct A.ah dA): @Ru aI.z X E A [] .u Ak Tryz.f164 [(121,⟨_,aF⟩)] (Qm A aF.pre aF.fn):=fun _=>by kernel_rfl
theorem apt (A:Alg) (aF:Ct A.ah dA): @Ru aI.z X E A [] .u Al Tryz.f165 [(121,⟨_,aF⟩)] (Qn A aF.pre aF.fn):=fun _=>by kernel_rfl
theorem apu (A:Alg) (aF:Ct A.ah dA) (kQ:Ct A.ah Ak) (kM:Ct A.ah Ah) (bB:Ct A.ah jk) (kR:Ct A.ah Al): @Ru aI.z X E A [] .u Am Tryz.f108 [(121,⟨_,aF⟩),(164,⟨_,kQ⟩),(142,⟨_,kM⟩),(67,⟨_,bB⟩),(165,⟨_,kR⟩)] (Qo A aF.pre aF.fn kQ.pre kQ.fn kM.pre kM.fn bB.pre bB.fn kR.pre kR.fn):=fun _=>by kernel_rfl
theorem apv (A:Alg) (gI:Ct A.ah vK): @Ru aI.z X E A [] .u Kq Tryz.f168 [(69,⟨_,gI⟩)] (Qp A gI.pre gI.fn):=fun _=>by kernel_rfl
theorem apw (A:Alg) (yw:Ct A.ah Kq): @Ru aI.z X E A [] .u Kr Tryz.f167 [(168,⟨_,yw⟩)] (Qq A yw.pre yw.fn):=fun _=>by kernel_rfl
theorem alW (A:Alg) (yx:Ct A.ah Kr): @Ru aI.z X E A [] (.seq .u (.seq (.seq .u (.block (.loop ⟨[(0,.c (.rows false .atom)),(1,.c (.fn 167 [(0,4)])),(7,.c (.int .i64)),(8,.c (.int .i64))],[.box (.sv false .atom)]⟩ .u))) .u)) CO Tryz.f166 [(167,⟨_,yx⟩)] (IW A yx.pre yx.fn):=fun _=>by kernel_rfl
theorem apx (A:Alg) (qK:Ct A.ah CO): @Ru aI.z X E A [] .u Ao Tryz.f109 [(166,⟨_,qK⟩)] (Qr A qK.pre qK.fn):=fun _=>by kernel_rfl
theorem apy (A:Alg) (kS:Ct A.ah Am) (kU:Ct A.ah Ao): @Ru aI.z X E A [] (.seq .u (.seq (.seq .u (.block (.loop ⟨[(1,.c (.pb 0 1 0)),(6,.c (.rows false .atom)),(7,.c (.int .i64)),(8,.c (.int .i64))],[.box (.sv false .tab)]⟩ .u))) .u)) Kt Tryz.f38 [(108,⟨_,kS⟩),(109,⟨_,kU⟩)] (Qs A kS.pre kS.fn kU.pre kU.fn):=fun _=>by kernel_rfl
theorem apz (A:Alg) (aF:Ct A.ah dA): @Ru aI.z X E A [] .u Ap Tryz.f100 [(121,⟨_,aF⟩)] (Qt A aF.pre aF.fn):=fun _=>by kernel_rfl
theorem apA (A:Alg) (aF:Ct A.ah dA): @Ru aI.z X E A [] .u Ku Tryz.f199 [(121,⟨_,aF⟩)] (Qu A aF.pre aF.fn):=fun _=>by kernel_rfl
theorem apB (A:Alg) (yA:Ct A.ah Ku) (aF:Ct A.ah dA): @Ru aI.z X E A [] .u Aq Tryz.f172 [(199,⟨_,yA⟩),(121,⟨_,aF⟩)] (Qv A yA.pre yA.fn aF.pre aF.fn):=fun _=>by kernel_rfl
theorem apC (A:Alg) (kV:Ct A.ah Aq) (kW:Ct A.ah Ap) (bP:Ct A.ah jI) (aF:Ct A.ah dA) (kQ:Ct A.ah Ak) (kR:Ct A.ah Al): @Ru ⟨[],[27,40]⟩ X E A [(5,[(0,([],[])),(1,([5],[])),(2,([28],[])),(5,([5],[])),(6,([31],[])),(9,([5],[])),(10,([34],[])),(13,([5],[])),(14,([37],[])),(18,([5],[])),(19,([41],[])),(3,([29],[6,10,14,19])),(4,([27,30],[])),(7,([32],[10,14,19])),(8,([27,33],[])),(11,([35],[14,19])),(12,([27,36],[])),(15,([38],[19])),(16,([27,39],[])),(17,([27],[])),(20,([30,33,36,39,40,42],[])),(21,([43],[]))])] .u Kv Tryz.f122 [(172,⟨_,kV⟩),(100,⟨_,kW⟩),(78,⟨_,bP⟩),(121,⟨_,aF⟩),(164,⟨_,kQ⟩),(165,⟨_,kR⟩)] (Qw A kV.pre kV.fn kW.pre kW.fn bP.pre bP.fn aF.pre aF.fn kQ.pre kQ.fn kR.pre kR.fn):=fun _=>by kernel_rfl
theorem apD (A:Alg): @Ru aI.z X E A [(1,[(0,([1],[])),(1,([5],[])),(2,([6],[])),(3,([1],[])),(4,([8],[])),(5,([9],[])),(6,([1],[])),(7,([11],[])),(8,([12],[])),(9,([7],[])),(10,([10],[])),(11,([13],[]))])] .u Ar Tryz.f106 [] (Qz A):=fun _=>by kernel_rfl
theorem apE (A:Alg) (kX:Ct A.ah Ar) (kV:Ct A.ah Aq) (bP:Ct A.ah jI) (aF:Ct A.ah dA): @Ru aI.z X E A [] .u Kw Tryz.f123 [(106,⟨_,kX⟩),(172,⟨_,kV⟩),(78,⟨_,bP⟩),(121,⟨_,aF⟩)] (QA A kX.pre kX.fn kV.pre kV.fn bP.pre bP.fn aF.pre aF.fn):=fun _=>by kernel_rfl
theorem apF (A:Alg) (yB:Ct A.ah Kw) (yC:Ct A.ah Kv) (aF:Ct A.ah dA): @Ru aI.z X E A [] (.seq .u (.seq .u (.seq (.seq .u (.block (.loop ⟨[(1,.c (.pb 0 7 0)),(25,.c (.int .i64)),(26,.c (.int .i64))],[.box (.sv false .blk)]⟩ .u))) .u))) Ky Tryz.f51 [(123,⟨_,yB⟩),(122,⟨_,yC⟩),(121,⟨_,aF⟩)] (QB A yB.pre yB.fn yC.pre yC.fn aF.pre aF.fn):=fun _=>by kernel_rfl
theorem apG (A:Alg): @Ru aI.z X E A [] .u Kz Tryz.f198 [] (QC A):=fun _=>by kernel_rfl
theorem apH (A:Alg) (kS:Ct A.ah Am) (kU:Ct A.ah Ao) (yD:Ct A.ah Kz): @Ru aI.z X E A [(6,[(0,([2],[])),(1,([28],[])),(3,([3],[])),(4,([31],[])),(2,([29],[3])),(5,([30,32],[])),(6,([33],[])),(7,([],[])),(8,([7,34],[]))]),(7,[(0,([7],[])),(1,([2],[])),(2,([36],[])),(3,([37],[])),(4,([4,35],[2])),(5,([38],[]))])] .u Au Tryz.f162 [(108,⟨_,kS⟩),(109,⟨_,kU⟩),(198,⟨_,yD⟩)] (QD A kS.pre kS.fn kU.pre kU.fn yD.pre yD.fn):=fun _=>by kernel_rfl
theorem apI (A:Alg) (aF:Ct A.ah dA): @Ru aI.z X E A [] .u Av Tryz.f163 [(121,⟨_,aF⟩)] (QE A aF.pre aF.fn):=fun _=>by kernel_rfl
theorem apJ (A:Alg) (kY:Ct A.ah Av) (kZ:Ct A.ah Au): @Ru aI.z X E A [] .u Aw Tryz.f105 [(163,⟨_,kY⟩),(162,⟨_,kZ⟩)] (QF A kY.pre kY.fn kZ.pre kZ.fn):=fun _=>by kernel_rfl
theorem apK (A:Alg) (lg:Ct A.ah Aw): @Ru aI.z X E A [] (.seq .u (.seq .u (.seq (.seq .u (.block (.loop ⟨[(0,.c (.pb 0 2 0)),(3,.c (.own 1)),(5,.c (.int .i64))],[.box (.agg [.rows true .atom,.bool]),.rows true .poly]⟩ .u))) .u))) KA Tryz.f99 [(105,⟨_,lg⟩)] (QG A lg.pre lg.fn):=fun _=>by kernel_rfl
theorem apL (A:Alg) (aF:Ct A.ah dA): @Ru aI.z X E A [] .u KC Tryz.f101 [(121,⟨_,aF⟩)] (QH A aF.pre aF.fn):=fun _=>by kernel_rfl
theorem apM (A:Alg): @Ru aI.z X E A [] .u KD Tryz.f102 [] (QI A):=fun _=>by kernel_rfl
theorem apN (A:Alg) (aF:Ct A.ah dA): @Ru aI.z X E A [] .u vM Tryz.f103 [(121,⟨_,aF⟩)] (QJ A aF.pre aF.fn):=fun _=>by kernel_rfl
theorem apO (A:Alg): @Ru aI.z X E A [] .u vN Tryz.f169 [] (QK A):=fun _=>by kernel_rfl
theorem apP (A:Alg) (bP:Ct A.ah jI) (gK:Ct A.ah vN): @Ru aI.z X E A [] .u KE Tryz.f112 [(78,⟨_,bP⟩),(169,⟨_,gK⟩)] (QL A bP.pre bP.fn gK.pre gK.fn):=fun _=>by kernel_rfl
theorem apQ (A:Alg) (eB:Ct A.ah nY): @Ru aI.z X E A [] .u Ay Tryz.f224 [(82,⟨_,eB⟩)] (QM A eB.pre eB.fn):=fun _=>by kernel_rfl
theorem alX (A:Alg) (lu:Ct A.ah Ay): @Ru aI.z X E A [(4,[(0,([9],[])),(1,([1],[])),(2,([18,19],[])),(3,([20],[])),(4,([3,21],[])),(5,([0,21],[])),(6,([9,21],[])),(7,([21,23,24],[])),(8,([21,25],[])),(9,([0,21],[])),(10,([9,21],[])),(11,([21,28],[])),(12,([21,27,29],[])),(13,([21,30],[])),(14,([21,22,26,31],[])),(15,([21,32],[])),(16,([21,33],[]))]),(6,[(0,([0],[])),(1,([9],[])),(2,([0],[])),(3,([9],[])),(4,([40],[])),(5,([0],[])),(6,([9],[])),(7,([43],[])),(8,([42,44],[])),(9,([45],[])),(10,([0],[])),(11,([9],[])),(12,([47,48],[])),(13,([49],[])),(14,([37,38],[])),(15,([46,51],[])),(16,([39,41],[])),(17,([50,52],[]))])] (.seq .u (.block (.loop ⟨[(0,.c (.own 0)),(1,.c (.int .i64)),(2,.c (.int .i64)),(3,.c (.fn 224 [])),(8,.c (.int .i64))],[.rows false .mono]⟩ (.seq .u (.seq (.block (.seq .u (.block (.loop ⟨[(0,.c (.own 0)),(1,.c (.int .i64)),(2,.c (.int .i64)),(3,.c (.fn 224 [])),(8,.c (.int .i64)),(9,.c (.int .i64))],[.rows false .mono]⟩ .u)))) .u))))) CP Tryz.f240 [(224,⟨_,lu⟩)] (IZ A lu.pre lu.fn):=fun _=>by kernel_rfl
theorem alY (A:Alg): @Ru aI.z X E A [(3,[(0,([0],[])),(1,([1],[])),(2,([10],[])),(3,([17,18],[])),(4,([0],[])),(5,([2],[])),(6,([10],[])),(7,([21,22],[])),(8,([0],[])),(9,([2],[])),(10,([10],[])),(11,([25,26],[])),(12,([24,27],[])),(13,([28],[])),(14,([0],[])),(15,([1],[])),(16,([10],[])),(17,([31,32],[])),(18,([30,33],[])),(19,([34],[])),(20,([16,19],[])),(21,([29,36],[])),(22,([20,23],[])),(23,([35,37],[]))])] (.seq .u (.block (.loop ⟨[(0,.c (.own 0)),(1,.c (.int .i64)),(2,.c (.int .i64)),(3,.c (.int .i64)),(10,.c (.int .i64))],[.rows false .mono]⟩ .u))) CQ Tryz.f249 [] (I4 A):=fun _=>by kernel_rfl
theorem alZ (A:Alg) (qL:Ct A.ah CQ): @Ru aI.z X E A [] (.seq .u (.seq .u (.seq (.block (.loop ⟨[(0,.c (.own 0)),(2,.c (.int .i64)),(4,.c (.fn 224 [])),(10,.c (.int .i64)),(11,.c (.int .i64))],[.rows false .mono]⟩ (.seq .u (.block (.seq .u (.cut ⟨[(0,.c (.own 0)),(2,.c (.int .i64)),(4,.c (.fn 224 [])),(10,.c (.int .i64)),(11,.c (.int .i64))],[.rows false .mono]⟩ (.cond .u .u))))))) .u))) CS Tryz.f247 [(249,⟨_,qL⟩)] (I5 A qL.pre qL.fn):=fun _=>by kernel_rfl
theorem al0 (A:Alg) (lu:Ct A.ah Ay) (qM:Ct A.ah CS) (lC:Ct A.ah nZ): @Ru aI.z X E A [(5,[(0,([4],[])),(1,([0],[])),(2,([12],[])),(3,([41,42],[])),(4,([43],[])),(5,([0],[])),(6,([1],[])),(7,([45,46],[])),(8,([47],[])),(9,([40,44,48],[])),(10,([49],[]))]),(11,[(0,([0],[])),(1,([13],[])),(2,([0],[])),(3,([13],[])),(4,([64],[])),(5,([0],[])),(6,([13],[])),(7,([67],[])),(8,([66,68],[])),(9,([69],[])),(10,([0],[])),(11,([13],[])),(12,([71,72],[])),(13,([73],[])),(14,([61,62],[])),(15,([70,75],[])),(16,([63,65],[])),(17,([74,76],[]))]),(17,[(0,([4],[])),(1,([0],[])),(2,([2],[])),(3,([93,94],[])),(4,([95],[])),(5,([0],[])),(6,([16],[])),(7,([97,98],[])),(8,([99],[])),(9,([92,96,100],[])),(10,([101],[])),(11,([102],[]))]),(23,[(0,([0],[])),(1,([17],[])),(2,([0],[])),(3,([17],[])),(4,([116],[])),(5,([0],[])),(6,([17],[])),(7,([119],[])),(8,([118,120],[])),(9,([121],[])),(10,([0],[])),(11,([17],[])),(12,([123,124],[])),(13,([125],[])),(14,([113,114],[])),(15,([122,127],[])),(16,([115,117],[])),(17,([126,128],[]))]),(35,[(0,([4],[])),(1,([0],[])),(2,([22],[])),(3,([23],[])),(4,([160,161],[])),(5,([159,162],[])),(6,([163],[])),(7,([0],[])),(8,([23],[])),(9,([165,166],[])),(10,([167],[])),(11,([158,164,168],[])),(12,([169],[])),(13,([170],[]))])] (.seq (.seq .u (.cond (.seq .u (.seq .u (.seq (.block (.loop ⟨[(0,.c (.own 0)),(1,.c (.int .i64)),(4,.c (.fn 224 [])),(10,.c (.int .i64)),(11,.c (.int .i64))],[.rows false .mono]⟩ (.seq .u (.block (.seq .u (.seq .u (.cut ⟨[(0,.c (.own 0)),(1,.c (.int .i64)),(4,.c (.fn 224 [])),(10,.c (.int .i64)),(11,.c (.int .i64))],[.rows false .mono]⟩ (.cond .u .u)))))))) (.seq (.seq .u (.block (.loop ⟨[(0,.c (.own 0)),(10,.c (.int .i64)),(13,.c (.int .i64))],[.rows false .mono]⟩ .u))) .u)))) .u)) (.seq (.seq .u (.cond (.seq .u (.seq .u (.seq (.block (.loop ⟨[(0,.c (.own 0)),(2,.c (.int .i64)),(4,.c (.fn 224 [])),(14,.c (.int .i64)),(15,.c (.int .i64))],[.rows false .mono]⟩ (.seq .u (.block (.seq .u (.seq .u (.cut ⟨[(0,.c (.own 0)),(2,.c (.int .i64)),(4,.c (.fn 224 [])),(14,.c (.int .i64)),(15,.c (.int .i64))],[.rows false .mono]⟩ (.cond .u .u)))))))) (.seq (.seq .u (.block (.loop ⟨[(0,.c (.own 0)),(14,.c (.int .i64)),(17,.c (.int .i64))],[.rows false .mono]⟩ .u))) .u)))) .u)) (.seq .u (.seq .u (.seq .u (.seq (.seq .u (.cut ⟨[(0,.c (.own 0)),(1,.c (.int .i64)),(2,.c (.int .i64)),(3,.c (.int .i64)),(4,.c (.fn 224 [])),(18,.c (.int .i64)),(19,.c (.int .i64)),(20,.c (.int .i64)),(21,.c (.int .i64))],[.rows false .mono]⟩ (.cond .u .u))) (.seq .u (.seq (.block (.loop ⟨[(0,.c (.own 0)),(1,.c (.int .i64)),(2,.c (.int .i64)),(3,.c (.int .i64)),(4,.c (.fn 224 [])),(18,.c (.int .i64)),(19,.c (.int .i64)),(20,.c (.int .i64)),(21,.c (.int .i64)),(22,.c (.int .i64))],[.rows false .mono]⟩ (.seq .u (.block (.seq .u (.seq .u (.cut ⟨[(0,.c (.own 0)),(1,.c (.int .i64)),(2,.c (.int .i64)),(3,.c (.int .i64)),(4,.c (.fn 224 [])),(18,.c (.int .i64)),(19,.c (.int .i64)),(20,.c (.int .i64)),(21,.c (.int .i64)),(22,.c (.int .i64))],[.rows false .mono]⟩ (.cond .u .u)))))))) (.seq .u (.seq (.seq .u (.cut ⟨[(0,.c (.own 0)),(1,.c (.int .i64)),(3,.c (.int .i64)),(4,.c (.fn 224 [])),(18,.c (.int .i64)),(20,.c (.int .i64)),(24,.c (.int .i64))],[.rows false .mono]⟩ (.cond .u .u))) (.seq (.seq .u (.cut ⟨[(0,.c (.own 0)),(3,.c (.int .i64)),(4,.c (.fn 224 [])),(18,.c (.int .i64)),(24,.c (.int .i64))],[.rows false .mono]⟩ (.cond .u .u))) (.seq .u (.cut ⟨[],[.rows false .mono]⟩ (.cond .u .u)))))))))))))) nZ Tryz.f241 [(224,⟨_,lu⟩),(247,⟨_,qM⟩),(241,⟨_,lC⟩)] (I6 A lu.pre lu.fn qM.pre qM.fn lC.pre lC.fn):=fun _=>by kernel_rfl
theorem al1 (A:Alg) (qN:Ct A.ah CP) (lC:Ct A.ah nZ): @Ru aI.z X E A [] (.seq .u (.seq .u (.seq (.block (.loop ⟨[(0,.c (.own 0)),(1,.c (.int .i64)),(2,.c (.fn 224 [])),(6,.c (.int .i64)),(7,.c (.int .i64)),(8,.c (.int .i64))],[.rows false .mono]⟩ .u)) (.seq .u (.block (.loop ⟨[(0,.c (.own 0)),(1,.c (.int .i64)),(2,.c (.fn 224 [])),(6,.c (.int .i64))],[.rows false .mono]⟩ (.seq .u (.block (.seq .u (.seq (.block (.loop ⟨[(0,.c (.own 0)),(1,.c (.int .i64)),(2,.c (.fn 224 [])),(6,.c (.int .i64)),(7,.c (.int .i64)),(8,.c (.int .i64))],[.rows false .mono]⟩ .u)) (.seq (.seq .u (.seq .u (.cut ⟨[(0,.c (.own 0)),(1,.c (.int .i64)),(2,.c (.fn 224 [])),(6,.c (.int .i64))],[.rows false .mono]⟩ (.cond .u .u)))) .u))))))))))) CU Tryz.f229 [(240,⟨_,qN⟩),(241,⟨_,lC⟩)] (I9 A qN.pre qN.fn lC.pre lC.fn):=fun _=>by kernel_rfl
theorem al2 (A:Alg) (qO:Ct A.ah CU): @Ru aI.z X E A [] .u CV Tryz.f223 [(229,⟨_,qO⟩)] (Ja A qO.pre qO.fn):=fun _=>by kernel_rfl
theorem apR (A:Alg) (eB:Ct A.ah nY) (bB:Ct A.ah jk) (gK:Ct A.ah vN) (kN:Ct A.ah Aj) (qP:Ct A.ah CV): @Ru ⟨[51],[]⟩ X E A [(5,[(0,([0],[])),(1,([5],[])),(2,([14,15],[])),(3,([16],[])),(5,([],[])),(4,([],[])),(6,([7,17],[]))]),(6,[(0,([5],[])),(1,([0],[])),(2,([19],[])),(3,([18,20],[])),(4,([21],[])),(5,([7,22],[])),(6,([22,23],[])),(7,([0,22],[])),(8,([5,22],[])),(9,([22,25,26],[])),(10,([22,27],[])),(11,([22,28],[])),(12,([22,24,29],[])),(13,([22,30],[])),(14,([22,31],[]))]),(10,[(0,([4],[])),(1,([45],[])),(2,([6],[])),(3,([7],[])),(4,([48],[])),(5,([49],[1])),(6,([47,50],[])),(7,([51],[1])),(8,([46,52],[])),(9,([4],[])),(10,([53,54],[]))])] (.seq .u (.seq .u (.seq .u (.seq (.seq .u (.block (.loop ⟨[(0,.c (.own 0)),(2,.c (.pb 1 1 0)),(4,.c (.pb 2 1 0)),(5,.c (.int .i64))],[.rows false .mono,.box (.agg [.nil]),.box (.agg [.own 3]),.rows true .mono]⟩ (.seq .u (.block (.seq .u (.seq (.block (.loop ⟨[(0,.c (.own 0)),(2,.c (.pb 1 1 0)),(4,.c (.pb 2 1 0)),(5,.c (.int .i64)),(6,.c (.int .i64)),(7,.c (.pb 3 2 0))],[.rows false .mono,.box (.agg [.nil]),.box (.agg [.own 4]),.box (.sv false .mono),.rows true .mono]⟩ .u)) (.seq .u (.cut ⟨[(0,.c (.own 0)),(2,.c (.pb 1 1 0)),(4,.c (.pb 2 1 0)),(5,.c (.int .i64))],[.rows false .mono,.box (.agg [.nil]),.box (.agg [.own 3]),.rows true .mono]⟩ (.cond .u .u)))))))))) .u)))) Az Tryz.f217 [(82,⟨_,eB⟩),(67,⟨_,bB⟩),(169,⟨_,gK⟩),(189,⟨_,kN⟩),(223,⟨_,qP⟩)] (QS A eB.pre eB.fn bB.pre bB.fn gK.pre gK.fn kN.pre kN.fn qP.pre qP.fn):=fun _=>by kernel_rfl
theorem al3 (A:Alg): @Ru aI.z X E A [] (.seq .u (.seq .u (.seq (.seq .u (.seq .u (.cut ⟨[(0,.c (.own 0))],[.rows true .mono]⟩ (.cond .u .u)))) .u))) CW Tryz.f225 [] (Jb A):=fun _=>by kernel_rfl
theorem apS (A:Alg) (qQ:Ct A.ah CW): @Ru aI.z X E A [] (.seq .u (.seq .u (.seq (.seq .u (.block (.loop ⟨[(0,.c (.rows false .poly)),(3,.c (.int .i64)),(9,.c (.rows false .poly)),(10,.c (.int .i64)),(11,.c (.int .i64))],[]⟩ .u))) (.seq .u (.seq (.seq .u (.block (.loop ⟨[(6,.c (.own 0)),(25,.c (.rows false .poly)),(26,.c (.int .i64)),(27,.c (.int .i64))],[.rows false .mono]⟩ .u))) .u))))) KF Tryz.f218 [(225,⟨_,qQ⟩)] (QT A qQ.pre qQ.fn):=fun _=>by kernel_rfl
theorem apT (A:Alg) (bB:Ct A.ah jk) (lD:Ct A.ah Az) (yE:Ct A.ah KF): @Ru aI.z X E A [] .u KG Tryz.f195 [(67,⟨_,bB⟩),(217,⟨_,lD⟩),(218,⟨_,yE⟩)] (QU A bB.pre bB.fn lD.pre lD.fn yE.pre yE.fn):=fun _=>by kernel_rfl
theorem al4 (A:Alg): @Ru aI.z X E A [] (.seq .u (.seq .u (.seq (.seq .u (.seq .u (.cut ⟨[(0,.c (.own 0))],[.rows true .i64]⟩ (.cond .u .u)))) .u))) CX Tryz.f226 [] (Jc A):=fun _=>by kernel_rfl
theorem apU (A:Alg) (qR:Ct A.ah CX): @Ru aI.z X E A [] (.seq .u (.seq .u (.seq (.seq .u (.block (.loop ⟨[(0,.c (.rows false .ints)),(3,.c (.int .i64)),(9,.c (.rows false .ints)),(10,.c (.int .i64)),(11,.c (.int .i64))],[]⟩ .u))) (.seq .u (.seq (.seq .u (.block (.loop ⟨[(6,.c (.own 0)),(25,.c (.rows false .ints)),(26,.c (.int .i64)),(27,.c (.int .i64))],[.rows true .i64]⟩ .u))) .u))))) KH Tryz.f219 [(226,⟨_,qR⟩)] (QV A qR.pre qR.fn):=fun _=>by kernel_rfl
theorem al5 (A:Alg) (lN:Ct A.ah En): @Ru aI.z X E A [(4,[(0,([7],[])),(1,([1],[])),(2,([16,17],[])),(3,([18],[])),(4,([0,19],[])),(5,([7,19],[])),(6,([19,20,21],[])),(7,([19,22],[])),(8,([0,19],[])),(9,([7,19],[])),(10,([19,25],[])),(11,([19,24,26],[])),(12,([19,27],[])),(13,([19,23,28],[])),(14,([19,29],[]))]),(6,[(0,([0],[])),(1,([7],[])),(2,([0],[])),(3,([7],[])),(4,([36],[])),(5,([0],[])),(6,([7],[])),(7,([39],[])),(8,([38,40],[])),(9,([41],[])),(10,([0],[])),(11,([7],[])),(12,([43,44],[])),(13,([45],[])),(14,([33,34],[])),(15,([42,47],[])),(16,([35,37],[])),(17,([46,48],[]))])] (.seq .u (.block (.loop ⟨[(0,.c (.own 0)),(1,.c (.int .i64)),(2,.c (.int .i64)),(6,.c (.int .i64))],[.rows true .i64]⟩ (.seq .u (.seq (.block (.seq .u (.block (.loop ⟨[(0,.c (.own 0)),(1,.c (.int .i64)),(2,.c (.int .i64)),(6,.c (.int .i64)),(7,.c (.int .i64))],[.rows true .i64]⟩ .u)))) .u))))) CY Tryz.f230 [(185,⟨_,lN⟩)] (Jd A lN.pre lN.fn):=fun _=>by kernel_rfl
theorem al6 (A:Alg) (lN:Ct A.ah En) (qU:Ct A.ah CY) (qV:Ct A.ah F3) (qW:Ct A.ah F4) (qX:Ct A.ah F5) (qY:Ct A.ah F6) (qZ:Ct A.ah F7) (q8:Ct A.ah F8) (q9:Ct A.ah F9) (lF:Ct A.ah og): @Ru aI.z X E A [(17,[(0,([1],[])),(1,([73],[])),(2,([74],[])),(3,([0,75],[])),(4,([1,75],[])),(5,([75,77],[])),(6,([75,76,78],[])),(7,([75,79],[])),(8,([0,75],[])),(9,([11,75],[])),(10,([75,81,82],[])),(11,([75,83],[])),(12,([75,80,84],[])),(13,([75,85],[])),(14,([75,86],[]))])] (.seq .u (.seq .u (.block (.loop ⟨[(0,.c (.own 0)),(1,.c (.int .i64)),(2,.c (.int .i64)),(3,.c (.int .i64)),(8,.c (.bool)),(9,.c (.bool))],[.rows true .i64]⟩ (.cut ⟨[(0,.c (.own 0)),(1,.c (.int .i64)),(2,.c (.int .i64)),(3,.c (.int .i64)),(8,.c (.bool)),(9,.c (.bool))],[.rows true .i64]⟩ (.block (.seq .u (.seq .u (.seq .u (.seq (.seq .u (.cut ⟨[(0,.c (.own 0)),(1,.c (.int .i64)),(2,.c (.int .i64)),(3,.c (.int .i64)),(8,.c (.bool)),(9,.c (.bool)),(10,.c (.int .i64))],[.rows true .i64]⟩ (.cond .u .u))) (.seq .u (.seq (.seq .u (.cut ⟨[(0,.c (.own 0)),(1,.c (.int .i64)),(2,.c (.int .i64)),(3,.c (.int .i64)),(8,.c (.bool)),(9,.c (.bool)),(10,.c (.int .i64)),(11,.c (.int .i64)),(12,.c (.int .i64))],[.rows true .i64]⟩ (.cond .u .u))) (.seq (.seq .u (.cut ⟨[(0,.c (.own 0)),(1,.c (.int .i64)),(2,.c (.int .i64)),(3,.c (.int .i64)),(8,.c (.bool)),(9,.c (.bool)),(10,.c (.int .i64)),(11,.c (.int .i64))],[.rows true .i64]⟩ (.cond .u .u))) (.seq .u (.seq .u (.seq .u (.seq .u (.seq .u (.seq .u (.cut ⟨[(0,.c (.own 0)),(1,.c (.int .i64)),(2,.c (.int .i64)),(3,.c (.int .i64)),(8,.c (.bool)),(9,.c (.bool))],[.rows true .i64]⟩ (.cond .u .u))))))))))))))))))))) og Tryz.f227 [(185,⟨_,lN⟩),(230,⟨_,qU⟩),(231,⟨_,qV⟩),(232,⟨_,qW⟩),(233,⟨_,qX⟩),(234,⟨_,qY⟩),(235,⟨_,qZ⟩),(236,⟨_,q8⟩),(237,⟨_,q9⟩),(227,⟨_,lF⟩)] (Je A lN.pre lN.fn qU.pre qU.fn qV.pre qV.fn qW.pre qW.fn qX.pre qX.fn qY.pre qY.fn qZ.pre qZ.fn q8.pre q8.fn q9.pre q9.fn lF.pre lF.fn):=fun _=>by kernel_rfl
theorem al7 (A:Alg) (lF:Ct A.ah og) (wO:Ct A.ah VP): @Ru aI.z X E A [] .u CZ Tryz.f220 [(227,⟨_,lF⟩),(228,⟨_,wO⟩)] (Jf A lF.pre lF.fn wO.pre wO.fn):=fun _=>by kernel_rfl
theorem apV (A:Alg) (bB:Ct A.ah jk) (gK:Ct A.ah vN) (lD:Ct A.ah Az) (yF:Ct A.ah KH) (ru:Ct A.ah CZ): @Ru aI.z X E A [] (.seq .u (.seq .u (.seq .u (.seq (.seq .u (.block (.loop ⟨[(3,.c (.pb 0 1 0)),(4,.c (.pb 1 1 0)),(6,.c (.own 2)),(22,.c (.rows false .mono)),(23,.c (.int .i64)),(24,.c (.int .i64))],[.box (.sv false .poly),.box (.agg [.nil]),.rows true .mono]⟩ (.seq .u (.seq .u (.seq (.block (.seq .u (.seq .u (.block (.loop ⟨[(3,.c (.pb 0 1 0)),(4,.c (.pb 1 1 0)),(6,.c (.own 2)),(8,.c (.pb 3 2 0)),(22,.c (.rows false .mono)),(23,.c (.int .i64)),(24,.c (.int .i64)),(29,.c (.rows false .mono)),(30,.c (.int .i64)),(31,.c (.int .i64))],[.box (.sv false .poly),.box (.agg [.nil]),.rows true .mono,.box (.sv false .mono)]⟩ .u))))) .u)))))) .u)))) AA Tryz.f197 [(67,⟨_,bB⟩),(169,⟨_,gK⟩),(217,⟨_,lD⟩),(219,⟨_,yF⟩),(220,⟨_,ru⟩)] (QW A bB.pre bB.fn gK.pre gK.fn lD.pre lD.fn yF.pre yF.fn ru.pre ru.fn):=fun _=>by kernel_rfl
theorem apW (A:Alg) (bB:Ct A.ah jk) (gL:Ct A.ah vM) (bP:Ct A.ah jI) (lG:Ct A.ah AA): @Ru aI.z X E A [(3,[(0,([2],[])),(1,([1],[])),(2,([18],[0])),(3,([17,19],[])),(4,([20],[])),(5,([16],[])),(6,([16],[])),(7,([],[])),(8,([5,21],[])),(9,([22],[]))])] .u KI Tryz.f196 [(67,⟨_,bB⟩),(103,⟨_,gL⟩),(78,⟨_,bP⟩),(197,⟨_,lG⟩)] (QX A bB.pre bB.fn gL.pre gL.fn bP.pre bP.fn lG.pre lG.fn):=fun _=>by kernel_rfl
theorem apX (A:Alg) (gI:Ct A.ah vK) (gL:Ct A.ah vM) (yG:Ct A.ah KE) (yH:Ct A.ah KG) (lG:Ct A.ah AA) (yI:Ct A.ah KI) (kP:Ct A.ah Ai): @Ru aI.z X E A [(5,[(0,([4],[])),(1,([5],[])),(2,([23],[0])),(3,([22,24],[])),(4,([25],[])),(5,([25],[])),(6,([6,26],[])),(7,([27],[]))])] (.seq .u (.seq .u (.seq .u (.seq .u (.seq .u (.seq (.seq .u (.cut ⟨[(0,.c (.int .i64)),(4,.c (.pb 0 1 0)),(6,.c (.pb 1 1 0)),(10,.c (.int .i64)),(11,.c (.bool))],[.box (.sv true .poly),.box (.agg [.nil])]⟩ (.cond .u .u))) .u)))))) KJ Tryz.f161 [(69,⟨_,gI⟩),(103,⟨_,gL⟩),(112,⟨_,yG⟩),(195,⟨_,yH⟩),(197,⟨_,lG⟩),(196,⟨_,yI⟩),(22,⟨_,kP⟩)] (Q0 A gI.pre gI.fn gL.pre gL.fn yG.pre yG.fn yH.pre yH.fn lG.pre lG.fn yI.pre yI.fn kP.pre kP.fn):=fun _=>by kernel_rfl
theorem apY (A:Alg) (gH:Ct A.ah vI) (yJ:Ct A.ah KJ) (kZ:Ct A.ah Au) (kY:Ct A.ah Av): @Ru aI.z X E A [(3,[(0,([4],[])),(1,([11],[])),(2,([8,23],[1])),(3,([9,24],[])),(4,([],[]))]),(9,[(0,([13],[])),(1,([14],[])),(2,([49],[0])),(3,([8,48],[])),(4,([9,50],[])),(5,([],[]))])] (.seq .u (.seq .u (.seq (.seq .u (.cut ⟨[(1,.c (.int .i64)),(4,.c (.pb 0 1 0)),(6,.c (.pb 1 1 0)),(7,.c (.pb 2 1 0)),(8,.c (.pb 3 1 0)),(9,.c (.pb 4 1 0))],[.box (.sv true .tab),.box (.sv true .poly),.box (.sv true .poly),.box (.agg [.nil]),.box (.agg [.nil])]⟩ (.cond .u .u))) .u))) KL Tryz.f104 [(24,⟨_,gH⟩),(161,⟨_,yJ⟩),(162,⟨_,kZ⟩),(163,⟨_,kY⟩)] (Q5 A gH.pre gH.fn yJ.pre yJ.fn kZ.pre kZ.fn kY.pre kY.fn):=fun _=>by kernel_rfl
theorem apZ (A:Alg) (gG:Ct A.ah vJ): @Ru ⟨[25],[]⟩ X E A [(5,[(0,([3],[])),(1,([13],[])),(2,([5],[])),(3,([15],[])),(4,([5],[])),(5,([17],[])),(6,([5],[])),(7,([19],[])),(9,([5],[])),(10,([22],[])),(8,([20],[1,3,5,10])),(11,([23],[1,3,5])),(12,([16,18,21,24],[])),(13,([25],[1])),(14,([14,26],[])),(15,([3],[])),(16,([27,28],[]))])] (.seq .u (.seq .u (.seq (.seq .u (.block (.loop ⟨[(2,.c (.pb 0 1 0)),(3,.c (.pb 1 1 0)),(7,.c (.rows false .atom)),(8,.c (.int .i64)),(9,.c (.int .i64))],[.box (.agg [.nil]),.box (.agg [.own 2]),.rows true .atom]⟩ .u))) .u))) KM Tryz.f107 [(146,⟨_,gG⟩)] (Q6 A gG.pre gG.fn):=fun _=>by kernel_rfl
theorem ap0 (A:Alg) (kX:Ct A.ah Ar) (yK:Ct A.ah Ky) (yL:Ct A.ah KC) (kW:Ct A.ah Ap) (gL:Ct A.ah vM) (yM:Ct A.ah Kk) (yN:Ct A.ah Kt) (yO:Ct A.ah KM) (yP:Ct A.ah KL) (lg:Ct A.ah Aw) (yQ:Ct A.ah KA) (yR:Ct A.ah KD): @Ru aI.z X E A [(4,[(0,([6],[])),(2,([3],[])),(3,([47],[])),(4,([3],[])),(5,([49],[])),(1,([45],[3,5])),(6,([46,48,50],[])),(7,([],[])),(8,([7,51],[]))]),(27,[(0,([6],[])),(1,([134],[])),(2,([135],[])),(3,([136],[])),(4,([12],[])),(5,([138],[])),(6,([17],[])),(7,([18],[])),(8,([137,139,140,141],[])),(9,([142],[])),(10,([133],[])),(11,([133],[])),(12,([133],[])),(13,([],[])),(14,([],[])),(15,([20,143],[])),(16,([21,144],[])),(17,([145],[]))]),(30,[(0,([6],[])),(1,([8],[])),(2,([11],[])),(3,([20],[])),(4,([21],[])),(5,([150],[])),(6,([155],[])),(7,([153,156],[4])),(8,([151,152],[])),(9,([154,157],[]))]),(47,[(0,([6],[])),(1,([213],[])),(2,([214],[])),(3,([215],[])),(5,([7],[])),(6,([3],[])),(7,([219],[])),(8,([3],[])),(9,([221],[])),(10,([220,222],[])),(4,([216],[5,7,9])),(11,([218,223],[])),(12,([4,217],[])),(13,([5,224],[]))])] (.seq .u (.seq .u (.seq .u (.seq .u (.seq .u (.seq .u (.seq (.seq .u (.block (.loop ⟨[(3,.c (.pb 0 7 0)),(4,.c (.pb 1 1 0)),(5,.c (.pb 2 6 0)),(6,.c (.pb 3 2 0)),(7,.c (.pb 4 6 0)),(8,.c (.own 5)),(9,.c (.int .i64)),(10,.c (.int .i64)),(57,.c (.rows false .iop)),(58,.c (.int .i64)),(59,.c (.int .i64))],[.box (.sv false .blk),.box (.agg [.nil]),.box (.agg [.nil,.nil,.int .i64,.nil,.nil,.int .i64]),.box (.agg [.rows true .atom,.bool]),.box (.agg [.own 6,.own 7,.int .i64,.nil,.nil,.int .i64]),.rows true .poly,.rows true .ev,.rows true .poly]⟩ (.seq .u (.seq .u (.seq (.block (.seq .u (.seq .u (.seq .u (.seq (.seq .u (.cut ⟨[(3,.c (.pb 0 7 0)),(4,.c (.pb 1 1 0)),(5,.c (.pb 2 6 0)),(6,.c (.pb 3 2 0)),(7,.c (.pb 4 6 0)),(8,.c (.own 5)),(9,.c (.int .i64)),(10,.c (.int .i64)),(11,.c (.int .i64)),(12,.c (.pb 6 5 0)),(14,.c (.bool)),(17,.c (.pb 7 1 0)),(18,.c (.pb 8 1 0)),(57,.c (.rows false .iop)),(58,.c (.int .i64)),(59,.c (.int .i64))],[.box (.sv false .blk),.box (.agg [.nil]),.box (.agg [.nil,.nil,.int .i64,.nil,.nil,.int .i64]),.box (.agg [.rows true .atom,.bool]),.box (.agg [.own 9,.own 10,.int .i64,.nil,.nil,.int .i64]),.rows true .poly,.box (.sv false .iop),.box (.sv true .poly),.box (.agg [.nil]),.rows true .ev,.rows true .poly]⟩ (.cond .u .u))) (.seq (.seq .u (.cut ⟨[(3,.c (.pb 0 7 0)),(4,.c (.pb 1 1 0)),(5,.c (.pb 2 6 0)),(6,.c (.pb 3 2 0)),(7,.c (.pb 4 6 0)),(8,.c (.own 5)),(9,.c (.int .i64)),(10,.c (.int .i64)),(11,.c (.int .i64)),(12,.c (.pb 6 5 0)),(17,.c (.pb 7 1 0)),(18,.c (.pb 8 1 0)),(57,.c (.rows false .iop)),(58,.c (.int .i64)),(59,.c (.int .i64))],[.box (.sv false .blk),.box (.agg [.nil]),.box (.agg [.nil,.nil,.int .i64,.nil,.nil,.int .i64]),.box (.agg [.rows true .atom,.bool]),.box (.agg [.own 9,.own 10,.int .i64,.nil,.nil,.int .i64]),.rows true .poly,.box (.sv false .iop),.box (.sv true .poly),.box (.sv true .poly),.rows true .ev,.rows true .poly]⟩ (.cond .u .u))) (.seq (.seq .u (.cut ⟨[(3,.c (.pb 0 7 0)),(4,.c (.pb 1 1 0)),(5,.c (.pb 2 6 0)),(6,.c (.pb 3 2 0)),(7,.c (.pb 4 6 0)),(8,.c (.own 5)),(9,.c (.int .i64)),(10,.c (.int .i64)),(11,.c (.int .i64)),(12,.c (.pb 6 5 0)),(17,.c (.pb 7 1 0)),(18,.c (.pb 8 1 0)),(57,.c (.rows false .iop)),(58,.c (.int .i64)),(59,.c (.int .i64))],[.box (.sv false .blk),.box (.agg [.nil]),.box (.agg [.nil,.nil,.int .i64,.nil,.nil,.int .i64]),.box (.agg [.rows true .atom,.bool]),.box (.agg [.own 9,.own 10,.int .i64,.nil,.nil,.int .i64]),.rows true .poly,.box (.sv false .iop),.box (.sv true .poly),.box (.sv true .poly),.rows true .ev,.rows true .poly]⟩ (.cond (.seq .u (.seq (.seq .u (.cut ⟨[(3,.c (.pb 0 7 0)),(4,.c (.pb 1 1 0)),(5,.c (.pb 2 6 0)),(6,.c (.pb 3 2 0)),(7,.c (.pb 4 6 0)),(8,.c (.own 5)),(9,.c (.int .i64)),(10,.c (.int .i64)),(11,.c (.int .i64)),(12,.c (.pb 6 5 0)),(17,.c (.pb 7 1 0)),(18,.c (.pb 8 1 0)),(19,.c (.pb 9 5 0)),(57,.c (.rows false .iop)),(58,.c (.int .i64)),(59,.c (.int .i64))],[.box (.sv false .blk),.box (.agg [.nil]),.box (.agg [.nil,.nil,.int .i64,.nil,.nil,.int .i64]),.box (.agg [.rows true .atom,.bool]),.box (.agg [.own 10,.own 11,.int .i64,.nil,.nil,.int .i64]),.rows true .poly,.box (.sv false .iop),.box (.sv true .poly),.box (.sv true .poly),.box (.agg [.int .i64,.int .i64,.rows true .mono,.rows true .mono,.own 12]),.rows true .ev,.rows true .poly,.rows true .poly]⟩ (.cond .u .u))) .u)) .u))) (.seq .u (.block (.seq .u (.cut ⟨[(3,.c (.pb 0 7 0)),(4,.c (.pb 1 1 0)),(5,.c (.pb 2 6 0)),(6,.c (.pb 3 2 0)),(7,.c (.pb 4 6 0)),(8,.c (.own 5)),(9,.c (.int .i64)),(10,.c (.int .i64)),(57,.c (.rows false .iop)),(58,.c (.int .i64)),(59,.c (.int .i64))],[.box (.sv false .blk),.box (.agg [.nil]),.box (.agg [.nil,.nil,.int .i64,.nil,.nil,.int .i64]),.box (.agg [.rows true .atom,.bool]),.box (.agg [.own 6,.own 7,.int .i64,.nil,.nil,.int .i64]),.rows true .poly,.rows true .ev,.rows true .poly]⟩ (.cond .u (.seq .u (.cut ⟨[(3,.c (.pb 0 7 0)),(4,.c (.pb 1 1 0)),(5,.c (.pb 2 6 0)),(6,.c (.pb 3 2 0)),(7,.c (.pb 4 6 0)),(8,.c (.own 5)),(9,.c (.int .i64)),(10,.c (.int .i64)),(57,.c (.rows false .iop)),(58,.c (.int .i64)),(59,.c (.int .i64))],[.box (.sv false .blk),.box (.agg [.nil]),.box (.agg [.nil,.nil,.int .i64,.nil,.nil,.int .i64]),.box (.agg [.rows true .atom,.bool]),.box (.agg [.own 6,.own 7,.int .i64,.nil,.nil,.int .i64]),.rows true .poly,.rows true .ev,.rows true .poly]⟩ (.cond .u (.seq .u (.cut ⟨[(3,.c (.pb 0 7 0)),(4,.c (.pb 1 1 0)),(5,.c (.pb 2 6 0)),(6,.c (.pb 3 2 0)),(7,.c (.pb 4 6 0)),(8,.c (.own 5)),(9,.c (.int .i64)),(10,.c (.int .i64)),(57,.c (.rows false .iop)),(58,.c (.int .i64)),(59,.c (.int .i64))],[.box (.sv false .blk),.box (.agg [.nil]),.box (.agg [.nil,.nil,.int .i64,.nil,.nil,.int .i64]),.box (.agg [.rows true .atom,.bool]),.box (.agg [.own 6,.own 7,.int .i64,.nil,.nil,.int .i64]),.rows true .poly,.rows true .ev,.rows true .poly]⟩ (.cond .u (.seq .u (.cut ⟨[(3,.c (.pb 0 7 0)),(4,.c (.pb 1 1 0)),(5,.c (.pb 2 6 0)),(6,.c (.pb 3 2 0)),(7,.c (.pb 4 6 0)),(8,.c (.own 5)),(9,.c (.int .i64)),(10,.c (.int .i64)),(57,.c (.rows false .iop)),(58,.c (.int .i64)),(59,.c (.int .i64))],[.box (.sv false .blk),.box (.agg [.nil]),.box (.agg [.nil,.nil,.int .i64,.nil,.nil,.int .i64]),.box (.agg [.rows true .atom,.bool]),.box (.agg [.own 6,.own 7,.int .i64,.nil,.nil,.int .i64]),.rows true .poly,.rows true .ev,.rows true .poly]⟩ (.cond .u (.seq .u (.cut ⟨[(3,.c (.pb 0 7 0)),(4,.c (.pb 1 1 0)),(5,.c (.pb 2 6 0)),(6,.c (.pb 3 2 0)),(7,.c (.pb 4 6 0)),(8,.c (.own 5)),(9,.c (.int .i64)),(10,.c (.int .i64)),(57,.c (.rows false .iop)),(58,.c (.int .i64)),(59,.c (.int .i64))],[.box (.sv false .blk),.box (.agg [.nil]),.box (.agg [.nil,.nil,.int .i64,.nil,.nil,.int .i64]),.box (.agg [.rows true .atom,.bool]),.box (.agg [.own 6,.own 7,.int .i64,.nil,.nil,.int .i64]),.rows true .poly,.rows true .ev,.rows true .poly]⟩ (.cond .u (.seq .u (.cut ⟨[(3,.c (.pb 0 7 0)),(4,.c (.pb 1 1 0)),(5,.c (.pb 2 6 0)),(6,.c (.pb 3 2 0)),(7,.c (.pb 4 6 0)),(8,.c (.own 5)),(9,.c (.int .i64)),(10,.c (.int .i64)),(57,.c (.rows false .iop)),(58,.c (.int .i64)),(59,.c (.int .i64))],[.box (.sv false .blk),.box (.agg [.nil]),.box (.agg [.nil,.nil,.int .i64,.nil,.nil,.int .i64]),.box (.agg [.rows true .atom,.bool]),.box (.agg [.own 6,.own 7,.int .i64,.nil,.nil,.int .i64]),.rows true .poly,.rows true .ev,.rows true .poly]⟩ (.cond .u .u))))))))))))))))))))))))))) .u)))))) (.seq .u (.seq (.seq .u (.cut ⟨[(3,.c (.pb 0 7 0)),(4,.c (.pb 1 1 0)),(5,.c (.pb 2 6 0)),(6,.c (.pb 3 2 0)),(7,.c (.pb 4 6 0)),(8,.c (.own 5)),(24,.c (.bool))],[.box (.sv false .blk),.box (.agg [.nil]),.box (.agg [.nil,.nil,.int .i64,.nil,.nil,.int .i64]),.box (.agg [.rows true .atom,.bool]),.box (.agg [.own 6,.own 7,.int .i64,.rows true .mono,.nil,.int .i64]),.rows true .poly,.rows true .ev,.rows true .poly]⟩ (.cond .u .u))) (.seq (.seq .u (.cut ⟨[(3,.c (.pb 0 7 0)),(4,.c (.pb 1 1 0)),(5,.c (.pb 2 6 0)),(6,.c (.pb 3 2 0)),(7,.c (.pb 4 6 0))],[.box (.sv false .blk),.box (.agg [.nil]),.box (.agg [.nil,.nil,.int .i64,.nil,.nil,.int .i64]),.box (.agg [.rows true .atom,.bool]),.box (.agg [.own 5,.own 6,.int .i64,.rows true .mono,.rows true .mono,.int .i64]),.rows true .ev,.rows true .poly]⟩ (.cond .u .u))) .u)))))))))) KN Tryz.f37 [(106,⟨_,kX⟩),(51,⟨_,yK⟩),(101,⟨_,yL⟩),(100,⟨_,kW⟩),(103,⟨_,gL⟩),(16,⟨_,yM⟩),(38,⟨_,yN⟩),(107,⟨_,yO⟩),(104,⟨_,yP⟩),(105,⟨_,lg⟩),(99,⟨_,yQ⟩),(102,⟨_,yR⟩)] (Q7 A kX.pre kX.fn yK.pre yK.fn yL.pre yL.fn kW.pre kW.fn gL.pre gL.fn yM.pre yM.fn yN.pre yN.fn yO.pre yO.fn yP.pre yP.fn lg.pre lg.fn yQ.pre yQ.fn yR.pre yR.fn):=fun _=>by kernel_rfl
end Go.TX.Seat
namespace Go.TX.Seat
open Go Go.AE Go.TX Go.TX.F Go.Proofs
set_option maxRecDepth 100000
theorem al8 (A:Alg) (aX:Ct A.ah gB) (iF:Ct A.ah uD): @Ru aI.z X E A [] .u C8 Tryz.f216 [(19,⟨_,aX⟩),(202,⟨_,iF⟩)] (Jg A aX.pre aX.fn iF.pre iF.fn):=fun _=>by kernel_rfl
theorem al9 (A:Alg) (aC:Ct A.ah bR) (iW:Ct A.ah uG) (rz:Ct A.ah C8) (rA:Ct A.ah BS) (iX:Ct A.ah uI): @Ru aI.z X E A [(3,[(0,([4],[])),(2,([1],[])),(3,([6],[])),(4,([7],[])),(1,([29],[3,4])),(5,([30,31,32,33],[])),(6,([34],[])),(7,([34],[])),(8,([8,35],[])),(9,([9,36],[]))])] .u C9 Tryz.f193 [(89,⟨_,aC⟩),(130,⟨_,iW⟩),(216,⟨_,rz⟩),(134,⟨_,rA⟩),(131,⟨_,iX⟩)] (Jh A aC.pre aC.fn iW.pre iW.fn rz.pre rz.fn rA.pre rA.fn iX.pre iX.fn):=fun _=>by kernel_rfl
theorem ama (A:Alg) (iW:Ct A.ah uG) (iK:Ct A.ah uJ) (iX:Ct A.ah uI): @Ru aI.z X E A [(3,[(0,([2],[])),(2,([3],[])),(1,([10],[2])),(3,([11,12],[])),(4,([13],[])),(5,([13],[])),(6,([4,14],[])),(7,([15],[]))])] .u Da Tryz.f194 [(130,⟨_,iW⟩),(132,⟨_,iK⟩),(131,⟨_,iX⟩)] (Ji A iW.pre iW.fn iK.pre iK.fn iX.pre iX.fn):=fun _=>by kernel_rfl
theorem amb (A:Alg) (aD:Ct A.ah bY) (rC:Ct A.ah C9) (rD:Ct A.ah BH) (rE:Ct A.ah BJ) (rF:Ct A.ah Da): @Ru aI.z X E A [(6,[(0,([3],[])),(1,([0],[])),(4,([0],[])),(5,([6],[])),(7,([0],[])),(8,([6],[])),(2,([26],[0])),(3,([27],[])),(6,([29,30],[0])),(9,([32,33],[0])),(10,([25,28,31,34],[])),(11,([35],[])),(12,([24],[])),(13,([24],[])),(14,([],[])),(15,([],[])),(16,([7,36],[])),(17,([8,37],[]))]),(9,[(0,([3],[])),(1,([],[])),(2,([0],[])),(6,([0],[])),(3,([45],[0])),(4,([44,46],[])),(5,([47],[])),(7,([49],[0,5])),(8,([48,50],[])),(9,([43,51],[])),(10,([52],[])),(11,([42],[])),(12,([42],[])),(13,([],[])),(14,([9,53],[])),(15,([54],[]))])] (.seq .u (.seq .u (.seq (.seq .u (.block (.loop ⟨[(0,.c (.pb 0 2 0)),(2,.c (.pb 1 1 0)),(3,.c (.pb 2 1 0)),(5,.c (.int .i64))],[.box (.agg [.rows true .u8,.int .i64]),.box (.agg [.nil]),.box (.agg [.own 3]),.rows true .atom]⟩ .u))) (.seq (.seq .u (.cut ⟨[(2,.c (.pb 1 1 0)),(3,.c (.pb 2 1 0))],[.box (.agg [.rows true .u8,.int .i64]),.box (.agg [.nil]),.box (.agg [.own 3]),.rows true .atom]⟩ (.cond .u .u))) .u)))) Db Tryz.f160 [(61,⟨_,aD⟩),(193,⟨_,rC⟩),(173,⟨_,rD⟩),(64,⟨_,rE⟩),(194,⟨_,rF⟩)] (Jj A aD.pre aD.fn rC.pre rC.fn rD.pre rD.fn rE.pre rE.fn rF.pre rF.fn):=fun _=>by kernel_rfl
theorem amc (A:Alg) (aD:Ct A.ah bY) (iV:Ct A.ah uh) (bT:Ct A.ah jQ) (rG:Ct A.ah Db): @Ru ⟨[26,35],[]⟩ X E A [(6,[(0,([5],[])),(1,([21],[])),(2,([5],[])),(3,([23],[])),(4,([24],[])),(5,([25],[])),(6,([26],[1])),(7,([22,27],[])),(8,([5],[])),(9,([28,29],[]))]),(8,[(0,([5],[])),(1,([32],[])),(2,([],[1])),(3,([34],[])),(4,([35],[1])),(5,([33,36],[])),(6,([5],[])),(7,([37,38],[]))]),(10,[(0,([5],[])),(1,([41],[])),(2,([],[])),(3,([0],[])),(4,([44],[1])),(5,([43,45],[])),(6,([46],[])),(7,([42],[])),(8,([48],[])),(9,([47,49],[]))])] (.seq .u (.seq .u (.seq (.seq .u (.cut ⟨[(4,.c (.pb 1 1 0)),(5,.c (.pb 2 1 0))],[.box (.agg [.rows true .u8,.int .i64]),.box (.agg [.nil]),.box (.agg [.own 3]),.rows true .atom]⟩ (.cond (.seq .u (.block (.seq .u (.cut ⟨[(4,.c (.pb 1 1 0)),(5,.c (.pb 2 1 0))],[.box (.agg [.rows true .u8,.int .i64]),.box (.agg [.nil]),.box (.agg [.own 3]),.rows true .atom]⟩ (.cond .u (.seq .u (.cut ⟨[(4,.c (.pb 1 1 0)),(5,.c (.pb 2 1 0))],[.box (.agg [.rows true .u8,.int .i64]),.box (.agg [.nil]),.box (.agg [.own 3]),.rows true .atom]⟩ (.cond .u (.seq .u (.cut ⟨[(4,.c (.pb 1 1 0)),(5,.c (.pb 2 1 0))],[.box (.agg [.rows true .u8,.int .i64]),.box (.agg [.nil]),.box (.agg [.own 3]),.rows true .atom]⟩ (.cond .u .u))))))))))) .u))) .u))) Dc Tryz.f97 [(61,⟨_,aD⟩),(158,⟨_,iV⟩),(129,⟨_,bT⟩),(160,⟨_,rG⟩)] (Jk A aD.pre aD.fn iV.pre iV.fn bT.pre bT.fn rG.pre rG.fn):=fun _=>by kernel_rfl
theorem amd (A:Alg) (rH:Ct A.ah BA) (rJ:Ct A.ah CK) (rM:Ct A.ah Dc): @Ru aI.z X E A [] .u Df Tryz.f36 [(59,⟨_,rH⟩),(98,⟨_,rJ⟩),(97,⟨_,rM⟩)] (Jl A rH.pre rH.fn rJ.pre rJ.fn rM.pre rM.fn):=fun _=>by kernel_rfl
theorem ap1 (A:Alg) (gJ:Ct A.ah vL): @Ru aI.z X E A [] (.seq .u (.seq .u (.seq (.seq .u (.block (.loop ⟨[(2,.c (.pb 0 1 0)),(3,.c (.pb 1 1 0)),(5,.c (.int .i64))],[.box (.sv false .tab),.box (.sv false .tab)]⟩ .u))) .u))) KO Tryz.f39 [(23,⟨_,gJ⟩)] (Q8 A gJ.pre gJ.fn):=fun _=>by kernel_rfl
theorem ap2 (A:Alg) (yS:Ct A.ah KN) (yT:Ct A.ah Ko) (yU:Ct A.ah Kn) (yV:Ct A.ah KO) (rO:Ct A.ah Df): @Ru aI.z X E A [(8,[(0,([5],[])),(1,([32],[])),(2,([33],[])),(3,([7],[])),(4,([34,35],[])),(5,([36],[])),(6,([5,37],[])),(7,([37,38],[])),(8,([37,39],[])),(9,([7,37],[])),(10,([4,37],[])),(11,([37,42],[])),(12,([37,43],[])),(13,([37,41,44],[])),(14,([37,45],[])),(15,([37,40,46],[])),(16,([37,47],[])),(17,([48],[])),(18,([5,49],[])),(19,([49,50],[])),(20,([7,49],[])),(21,([49,51,52],[])),(22,([49,53],[])),(23,([3,49],[])),(24,([49,54,55],[])),(25,([49,56],[])),(26,([49,57],[]))])] .u Y7 Tryz.f8 [(37,⟨_,yS⟩),(20,⟨_,yT⟩),(17,⟨_,yU⟩),(39,⟨_,yV⟩),(36,⟨_,rO⟩)] (Q9 A yS.pre yS.fn yT.pre yT.fn yU.pre yU.fn yV.pre yV.fn rO.pre rO.fn):=fun _=>by kernel_rfl
end Go.TX.Seat
namespace Go.TX
open Go Go.AE
theorem ame (x y:Int):bq .lss x y=decide (x<y):=rfl
theorem amf (x y:Int):bq .leq x y=decide (x≤y):=rfl
theorem amg (x y:Int):bq .gtr x y=decide (y<x):=rfl
theorem amh (x y:Int):bq .geq x y=decide (y≤x):=rfl
theorem ami (x y:Int):bq .eql x y=decide (x=y):=rfl
theorem amj (x y:Int):bq .neq x y= !decide (x=y):=rfl
theorem amk (k:IntKind) (x y:Int):jO .add k x y=k.wrap (x+y):=rfl
theorem ZU (k:IntKind) (x y:Int):jO .sub k x y=k.wrap (x-y):=rfl
theorem aml (k:IntKind) (x y:Int):jO .mul k x y=k.wrap (x*y):=rfl
theorem amm (k:IntKind) (x y:Int):jO .quo k x y=k.wrap (x.tdiv y):=rfl
theorem ZV (k:IntKind) (x y:Int):jO .rem k x y=x.tmod y:=rfl
theorem w64 {x:Int} (h1: -9223372036854775808≤x) (h2:x≤9223372036854775807):IntKind.i64.wrap x=x:=IntWalk.i64_in _ (by omega)
theorem ae4 (m:aj):kD .mono 0 m=m.bK:=rfl
theorem ae5 (m:aj):oZ .mono 1 .i64 m=m.atoms:=rfl
theorem amn (p:List aj):oZ .poly 0 .mono p=p:=rfl
theorem ap3 (p:List Atom):oZ .tab 0 .atom p=p:=rfl
theorem amo (p:List Int):oZ .ints 0 .i64 p=p:=rfl
theorem ae6 (m:Atom):kD .atom 0 m=m.kind:=rfl
theorem ae7 (m:Atom):kD .atom 1 m=m.k:=rfl
theorem ae8 (m:Atom):oZ .atom 2 .mono m=m.x:=rfl
theorem ae9 (m:Atom):oZ .atom 3 .mono m=m.y:=rfl
theorem ap4 (n:Int):kD .i64 0 n=n:=rfl
theorem arH (n:Int):kD .u8 0 n=n:=rfl
theorem afa (x):Co.mk .mono x=⟨x.1,x.2.1⟩:=rfl
theorem afb (x):Co.mk .poly x=x.1:=rfl
theorem amq (x):Co.mk .tab x=x.1:=rfl
theorem afc (x):Co.mk .ints x=x.1:=rfl
theorem amr (x):Co.mk .i64 x=x.1:=rfl
theorem afd (x):Co.mk .atom x=⟨x.1,x.2.1,x.2.2.1,x.2.2.2.1⟩:=rfl
theorem ay {α ρ:Type} {f:α→(α ⊕ ρ→Prop)→Prop} {x:α} {Q:ρ→Prop} (I:α→Prop) (μ:α→Nat) (h0:I x) (hs:∀y,I y→f y (El (fun z _=>I z∧μ z<μ y) Q)):Vy f x Q:=⟨I,μ,h0,hs⟩
theorem ZW {α ρ:Type} (k:α→(ρ→Prop)→Prop) (Q:ρ→Prop) (x:α):El k Q (.inl x)=k x Q:=rfl
theorem ZX {α ρ:Type} (k:α→(ρ→Prop)→Prop) (Q:ρ→Prop) (r:ρ):El k Q (.inr r)=Q r:=rfl
theorem getD_lt {α:Type} {xs:List α} {d:α} {i:Nat} (h:i<xs.length):xs.getD i d=xs[i]:=by simp [List.getD,h]
theorem dM {α:Type} {xs:List α} {d:α} {i:Int} (h0:0≤i) (h:i<xs.length):xs.getD i.toNat d∈xs:=by
  rw [getD_lt (by omega)];exact List.getElem_mem _
theorem RR:(∀(x y:Int),bq BinOp.lss x y=decide (x<y))∧(∀(x y:Int),bq BinOp.leq x y=decide (x≤y))∧(∀(x y:Int),bq BinOp.gtr x y=decide (y<x))∧(∀(x y:Int),bq BinOp.geq x y=decide (y≤x))∧(∀(x y:Int),bq BinOp.eql x y=decide (x=y))∧(∀(x y:Int),bq BinOp.neq x y= !decide (x=y))∧(∀(k:IntKind) (x y:Int),jO BinOp.add k x y=k.wrap (x+y))∧(∀(k:IntKind) (x y:Int),jO BinOp.sub k x y=k.wrap (x-y))∧(∀(k:IntKind) (x y:Int),jO BinOp.mul k x y=k.wrap (x*y))∧(∀(k:IntKind) (x y:Int),jO BinOp.quo k x y=k.wrap (x.tdiv y))∧(∀(k:IntKind) (x y:Int),jO BinOp.rem k x y=x.tmod y)∧(∀ {x:Int}, -9223372036854775808≤x→x≤9223372036854775807→IntKind.i64.wrap x=x)∧(∀(m:aj),kD Co.mono 0 m=m.bK)∧(∀(m:aj),oZ Co.mono 1 Co.i64 m=m.atoms)∧(∀(p:List aj),oZ Co.poly 0 Co.mono p=p)∧(∀(p:List Atom),oZ Co.tab 0 Co.atom p=p)∧(∀(p:List Int),oZ Co.ints 0 Co.i64 p=p)∧(∀(m:Atom),kD Co.atom 0 m=m.kind)∧(∀(m:Atom),kD Co.atom 1 m=m.k)∧(∀(m:Atom),oZ Co.atom 2 Co.mono m=m.x)∧(∀(m:Atom),oZ Co.atom 3 Co.mono m=m.y)∧(∀(n:Int),kD Co.i64 0 n=n)∧(∀(n:Int),kD Co.u8 0 n=n)∧(∀(x:jd Co.mono.xL),Co.mono.mk x=aj.mk x.fst x.snd.fst)∧(∀(x:jd Co.poly.xL),Co.poly.mk x=x.fst)∧(∀(x:jd Co.tab.xL),Co.tab.mk x=x.fst)∧(∀(x:jd Co.ints.xL),Co.ints.mk x=x.fst)∧(∀(x:jd Co.i64.xL),Co.i64.mk x=x.fst)∧(∀(x:jd Co.atom.xL),Co.atom.mk x=Atom.mk x.fst x.snd.fst x.snd.snd.fst x.snd.snd.snd.fst)∧(∀ {α ρ:Type} (k:α→(ρ→Prop)→Prop) (Q:ρ→Prop) (x:α),El k Q (Sum.inl x)=k x Q)∧(∀ {α ρ:Type} (k:α→(ρ→Prop)→Prop) (Q:ρ→Prop) (r:ρ),El k Q (Sum.inr r)=Q r)∧(∀(c f:Bool),(bif c then true else f)=(c || f))∧(∀(c t:Bool),(bif c then t else false)=(c&&t))∧(∀(c f:Bool),(bif c then false else f)=(!c&&f))∧(∀(c t:Bool),(bif c then t else true)=(!c || t))∧(∀(a b:Bool),((a || b)=true)=(a=true∨b=true))∧(∀ {x y:Bool},(x || y)=false↔x=false∧y=false)∧(∀(a b:Bool),((a&&b)=true)=(a=true∧b=true))∧(∀ {p:Prop} [inst:Decidable p],(decide p=true)=p)∧(∀ {p:Prop} {x:Decidable p},decide p=false↔¬p)∧(∀(b:Bool),((!b)=true)=(b=false))∧(∀(b:Bool),((!b)=false)=(b=true))∧(∀(b:Bool),(!!b)=b)∧(∀(p:Prop),(True∧p)=p)∧(∀(p:Prop),(p∧True)=p)∧(∀ {α:Type} [inst:LE α] {x y:α},x≥y↔y≤x)∧(¬True)=False∧(¬False)=True∧(false=true)=False∧(true=false)=False∧(∀(p:Prop),(False→p)=True)∧(∀(p:Prop),(True→p)=p)∧(∀(α:Prop),(α→True)=True)∧(∀(α:Type),(∀(a:α),True)=True)∧(∀(p:Prop),(False∨p)=p)∧(∀(p:Prop),(p∨False)=p)∧(∀(p:Prop),(True∨p)=True)∧(∀(p:Prop),(p∨True)=True)∧(∀ {α:Type} {x:Decidable True} (t e:α),(if True then t else e)=t)∧∀ {α:Type} {x:Decidable False} (t e:α),(if False then t else e)=e:=And.intro (@ame)<| And.intro (@amf)<| And.intro (@amg)<| And.intro (@amh)<| And.intro (@ami)<| And.intro (@amj)<| And.intro (@amk)<| And.intro (@ZU)<| And.intro (@aml)<| And.intro (@amm)<| And.intro (@ZV)<| And.intro (@w64)<| And.intro (@ae4)<| And.intro (@ae5)<| And.intro (@amn)<| And.intro (@ap3)<| And.intro (@amo)<| And.intro (@ae6)<| And.intro (@ae7)<| And.intro (@ae8)<| And.intro (@ae9)<| And.intro (@ap4)<| And.intro (@arH)<| And.intro (@afa)<| And.intro (@afb)<| And.intro (@amq)<| And.intro (@afc)<| And.intro (@amr)<| And.intro (@afd)<| And.intro (@ZW)<| And.intro (@ZX)<| And.intro (@Bool.cond_true_left)<| And.intro (@Bool.cond_false_right)<| And.intro (@Bool.cond_false_left)<| And.intro (@Bool.cond_true_right)<| And.intro (@Bool.or_eq_true)<| And.intro (@Bool.or_eq_false_iff)<| And.intro (@Bool.and_eq_true)<| And.intro (@decide_eq_true_eq)<| And.intro (@decide_eq_false_iff_not)<| And.intro (@Bool.not_eq_true')<| And.intro (@Bool.not_eq_false')<| And.intro (@Bool.not_not)<| And.intro (@true_and)<| And.intro (@and_true)<| And.intro (@ge_iff_le.{0})<| And.intro (@not_true_eq_false)<| And.intro (@not_false_eq_true)<| And.intro (@Bool.false_eq_true)<| And.intro (@Bool.true_eq_false)<| And.intro (@false_implies)<| And.intro (@true_implies)<| And.intro (@implies_true.{0})<| And.intro (@implies_true.{1})<| And.intro (@false_or)<| And.intro (@or_false)<| And.intro (@true_or)<| And.intro (@or_true)<| And.intro (@if_true.{1})<| @if_false.{1}
end Go.TX
namespace Go.TX.F
open Go Go.AE Go.TX
def inB (a lo hi:Int):Bool:=decide (lo≤a)&&decide (a≤hi)
theorem af4 (a b c:Int):PN (std 0) (a,b,c,()) (fun y=>y=(inB a b c,())):=by
  dsimp only [PN,Alg.cl,Alg.cg,Alg.rb,Alg.bd,Alg.l1,Tup.q,Tup.o]
  simp (disch:=omega) only [RR]
  rfl
theorem af5 {p:Int×Int×Int×Unit→Bool} {f:Int×Int×Int×Unit→Bool×Unit} (hp:∀a b c,p (a,b,c,())=true) (hf:∀a b c,f (a,b,c,())=(inB a b c,())) (a:Int):Qc (std 0) p f (a,()) (fun y=>y=(inB a 0 65535,())):=by
  dsimp only [Qc,Alg.cl,Alg.cg,Alg.rb,Alg.bd,Alg.l1,Tup.q,Tup.o]
  simp (disch:=omega) only [RR,hp,hf]
theorem af6 {p:Int×Int×Int×Unit→Bool} {f:Int×Int×Int×Unit→Bool×Unit} (hp:∀a b c,p (a,b,c,())=true) (hf:∀a b c,f (a,b,c,())=(inB a b c,())) (a:Int):Qm (std 0) p f (a,()) (fun y=>y=(inB a 1 5,())):=by
  dsimp only [Qm,Alg.cl,Alg.cg,Alg.rb,Alg.bd,Alg.l1,Tup.q,Tup.o]
  simp (disch:=omega) only [RR,hp,hf]
theorem af7 {p:Int×Int×Int×Unit→Bool} {f:Int×Int×Int×Unit→Bool×Unit} (hp:∀a b c,p (a,b,c,())=true) (hf:∀a b c,f (a,b,c,())=(inB a b c,())) (a:Int):Qn (std 0) p f (a,()) (fun y=>y=(inB a 0 3,())):=by
  dsimp only [Qn,Alg.cl,Alg.cg,Alg.rb,Alg.bd,Alg.l1,Tup.q,Tup.o]
  simp (disch:=omega) only [RR,hp,hf]
theorem ap5 (a:Int):Zk (std 0) (a,()) (fun y=>y=(false,())):=by
  dsimp only [Zk,Alg.cl,Alg.cg,Alg.rb,Alg.bd,Alg.l1,Tup.q,Tup.o]
  simp (disch:=omega) only [RR]
  simp
def gQ (a b:Int):Int:=if a<b then-1 else if b<a then 1 else 0
theorem ap6 {p:Int×Unit→Bool} {f:Int×Unit→Bool×Unit} (hp:∀a,p (a,())=true) (hf:∀a,f (a,())=(false,())) (a b:Int):Zl (std 0) p f (a,b,()) (fun y=>y=(gQ a b,())):=by
  dsimp only [Zl,Alg.cl,Alg.cg,Alg.rb,Alg.bd,Alg.l1,Tup.q,Tup.o]
  simp (disch:=omega) only [RR,hp,hf]
  unfold gQ
  refine⟨fun h=>by simp [h],fun h=>⟨fun h2=>by simp [h,h2],fun h2=>by simp [h,h2]⟩⟩
theorem ap7 {p:Int×Unit→Bool} {f:Int×Unit→Bool×Unit} (hp:∀a,p (a,())=true) (hf:∀a,f (a,())=(false,())) (a b:Int):Zp (std 0) p f (a,b,()) (fun y=>y=(decide (a<b),())):=by
  dsimp only [Zp,Alg.cl,Alg.cg,Alg.rb,Alg.bd,Alg.l1,Tup.q,Tup.o]
  simp (disch:=omega) only [RR,hp,hf]
  simp
def or2 (a b:Int):Int:=if a≠0 then a else b
theorem ap8 (a b:Int):Zo (std 0) ([a,b],()) (fun y=>y=(or2 a b,())):=by
  dsimp only [Zo,Alg.cl,Alg.cg,Alg.rb,Alg.bd,Alg.l1,Tup.q,Tup.o]
  refine ay (fun(y:Int×List Int×Int×Int×Unit)=>y.1=0∧y.2.1=[a,b]∧y.2.2.1=2∧0≤y.2.2.2.1∧y.2.2.2.1≤2∧(0<y.2.2.2.1→a=0)∧(1<y.2.2.2.1→b=0)) (fun y=>(2-y.2.2.2.1).toNat) ⟨rfl,rfl,rfl,by simp,by simp,fun h=>absurd h (by simp),fun h=>absurd h (by simp)⟩ ?_
  rintro⟨(z:Int),(l:List Int),(n:Int),(i:Int),⟨⟩⟩ hI
  dsimp only at hI ⊢
  obtain⟨rfl,rfl,rfl,h1,h2,h3,h4⟩:=hI
  simp (disch:=omega) only [RR]
  have hi:i=0∨i=1∨i=2:=by omega
  rcases hi with rfl | rfl | rfl
  · by_cases ha:a=0<;>simp [or2,ha]<;>(try omega)
  · have:=h3 (by omega)
    by_cases hb:b=0<;>simp [or2,this,hb]<;>(try omega)
  · have:=h3 (by omega)
    have:=h4 (by omega)
    simp [or2, *]
def lH:List Int→List Int→Int
  | [],[]=>0
  | [],_::_=> -1
  | _::_,[]=>1
  | a::az,b::bs=>if gQ a b≠0 then gQ a b else lH az bs
theorem Dk (a b:List Int) (i:Nat):(h1:i<a.length)→(h2:i<b.length)→lH (a.drop i) (b.drop i)=if gQ a[i] b[i]≠0 then gQ a[i] b[i]else lH (a.drop (i+1)) (b.drop (i+1)):=by
  intro h1 h2
  rw [List.drop_eq_getElem_cons h1,List.drop_eq_getElem_cons h2];rfl
theorem ZY (l:List Int) (h:l≠ []):lH l []=1:=by cases l<;>simp_all [lH]
theorem af8 {p:Int×Int×Unit→Bool} {f:Int×Int×Unit→Int×Unit} (hp:∀a b,p (a,b,())=true) (hf:∀a b,f (a,b,())=(gQ a b,())) (a b:List Int) (ha:a.length<1000000000):
    PK (std 0) p f (a,b,()) (fun y=>y=(lH a b,())):=by
  dsimp only [PK,Alg.cl,Alg.cg,Alg.rb,Alg.bd,Alg.l1,Tup.q,Tup.o]
  refine ay (fun(y:List Int×List Int×List Int×Int×Int×Unit)=>y.1=a∧y.2.1=b∧y.2.2.1=a∧y.2.2.2.1=a.length∧0≤y.2.2.2.2.1∧y.2.2.2.2.1≤a.length∧y.2.2.2.2.1≤b.length∧lH a b=lH (a.drop y.2.2.2.2.1.toNat) (b.drop y.2.2.2.2.1.toNat))
    (fun y=>(a.length-y.2.2.2.2.1).toNat) ⟨rfl,rfl,rfl,rfl,by simp,by simp,by simp,by simp⟩ ?_
  rintro⟨(l1:List Int),(l2:List Int),(l3:List Int),(n:Int),(i:Int),⟨⟩⟩ hI
  dsimp only at hI ⊢
  obtain⟨rfl,rfl,rfl,rfl,h1,h2,h3,h4⟩:=hI
  simp (disch:=omega) only [RR,hp,hf]
  refine⟨fun hi=>⟨h1,hi,fun hj=> ?_,fun hj=>⟨h1,by omega,fun hc=> ?_,fun hc=> ?_⟩⟩,fun hi=>⟨fun hj=> ?_,fun hj=> ?_⟩⟩
  · rw [h4,List.drop_eq_nil_of_le (show l2.length≤i.toNat by omega),ZY _ (by simp;omega)]
  · rw [h4,Dk l3 l2 i.toNat (by omega) (by omega)]
    rw [getD_lt (by omega),getD_lt (by omega)]at hc
    rw [getD_lt (by omega),getD_lt (by omega),if_pos hc]
  · rw [getD_lt (by omega),getD_lt (by omega)]at hc
    refine⟨⟨by omega,by omega,by omega,?_⟩,by omega⟩
    rw [h4,Dk l3 l2 i.toNat (by omega) (by omega),if_neg (by simpa using hc),show(i+1).toNat=i.toNat+1 by omega]
  · rw [h4,List.drop_eq_nil_of_le (show l3.length≤i.toNat by omega)]
    have:∃q r,l2.drop i.toNat=q::r:=by
      cases hq:l2.drop i.toNat with
      | nil=>have:=congrArg List.length hq;simp at this;omega
      | cons q r=>exact⟨q,r,rfl⟩
    obtain⟨q,r,hq⟩:=this
    rw [hq];rfl
  · rw [h4,List.drop_eq_nil_of_le (show l3.length≤i.toNat by omega),List.drop_eq_nil_of_le (show l2.length≤i.toNat by omega)];rfl
def dN (a b:List Int):Int:=or2 (gQ a.length b.length) (lH a b)
theorem af9 {p1:Int×Int×Unit→Bool} {f1:Int×Int×Unit→Int×Unit} (hp1:∀a b,p1 (a,b,())=true) (hf1:∀a b,f1 (a,b,())=(gQ a b,()))
    {p2:List Int×List Int×Unit→Bool} {f2:List Int×List Int×Unit→Int×Unit} (hp2:∀a b,a.length<1000000000→p2 (a,b,())=true) (hf2:∀a b,a.length<1000000000→f2 (a,b,())=(lH a b,()))
    {p3:List Int×Unit→Bool} {f3:List Int×Unit→Int×Unit} (hp3:∀a b,p3 ([a,b],())=true) (hf3:∀a b,f3 ([a,b],())=(or2 a b,())) (a b:List Int) (ha:a.length<1000000000):
    PL (std 0) p3 f3 p1 f1 p2 f2 (a,b,()) (fun y=>y=(dN a b,())):=by
  dsimp only [PL,Alg.cl,Alg.cg,Alg.rb,Alg.bd,Alg.l1,Tup.q,Tup.o]
  simp (disch:=omega) only [RR,hp1,hf1,hp2 a b ha,hf2 a b ha,hp3,hf3]
  rfl
end Go.TX.F
namespace Go.TX.F
open Go Go.AE Go.TX
noncomputable def bp (P:Prop):Bool:= @decide P (Classical.propDecidable P)
theorem eF {P:Prop} (h:P):bp P=true:=by simp [bp,h]
theorem fK {P:Prop} (h:¬P):bp P=false:=by simp [bp,h]
theorem bg {P:Prop}:bp P=true↔P:=by simp [bp]
theorem lT {P:Prop}:bp P=false↔¬P:=by simp [bp]
theorem Jm {P Q:Prop}:bp (P∧Q)=(bp P&&bp Q):=by by_cases h1:P<;>by_cases h2:Q<;>simp [bp,h1,h2]
theorem MC {P Q:Prop} (h:P↔Q):bp P=bp Q:=by simp [bp,h]
def All (n:Int) (G:Int→Prop):Prop:=∀j,0≤j→j<n→G j
theorem All.zero {G:Int→Prop}:All 0 G:=fun j h1 h2=>absurd h2 (by omega)
theorem All.snoc {n:Int} {G:Int→Prop} (h:All n G) (hi:G n):All (n+1) G:=fun j h1 h2=>by
  by_cases hj:j=n
  · exact hj▸hi
  · exact h j h1 (by omega)
theorem All.le {n m:Int} {G:Int→Prop} (h:All n G) (hi:m≤n):All m G:=fun j h1 h2=>h j h1 (by omega)
def Idx (n:Int) (G:Int→Prop) (r:Int):Prop:=(r= -1∧All n (fun j=>¬G j))∨(0≤r∧r<n∧G r∧All r (fun j=>¬G j))
theorem Idx.ge {n:Int} {G:Int→Prop} {r:Int} (h:Idx n G r):(0≤r)↔¬All n (fun j=>¬G j):=by
  rcases h with⟨rfl,h⟩ | ⟨h1,h2,h3,h4⟩
  · simp [h]
  · simp only [h1,true_iff];exact fun h=>h r h1 h2 h3
def Srt (l:List Int):Prop:=All (l.length-1) (fun i=>l.getD i.toNat default≤l.getD (i+1).toNat default)
theorem Z0 {p:Int×Int×Unit→Bool} {f:Int×Int×Unit→Bool×Unit} (hp:∀a b,p (a,b,())=true) (hf:∀a b,f (a,b,())=(decide (a<b),())) (a:List Int) (ha:a.length<1000000000):
    IG (std 0) p f (a,()) (fun y=>y=(bp (Srt a),())):=by
  dsimp only [IG,Alg.cl,Alg.cg,Alg.rb,Alg.bd,Alg.l1,Tup.q,Tup.o]
  simp (disch:=omega) only [RR,hp,hf]
  refine ay (fun(y:List Int×Int×Unit)=>y.1=a∧ -1≤y.2.1∧y.2.1≤a.length-1∧∀j,y.2.1≤j→0≤j→j< (a.length:Int)-1→a.getD j.toNat default≤a.getD (j+1).toNat default) (fun y=>(y.2.1+1).toNat) ⟨rfl,by simp;omega,by simp,by simp;omega⟩ ?_
  rintro⟨(l:List Int),(i:Int),⟨⟩⟩ hI
  dsimp only at hI ⊢
  obtain⟨rfl,h1,h2,h3⟩:=hI
  simp (disch:=omega) only [RR,hp,hf]
  refine⟨fun h4=>⟨by omega,by omega,by omega,by omega,fun h5=> ?_,fun h5=>⟨⟨by omega,by omega,fun j h6 h7 h8=> ?_⟩,by omega⟩⟩,fun h4=> ?_⟩
  · rw [fK]
    intro h;have:=h (i-1) (by omega) (by omega)
    dsimp only at this
    rw [show i-1+1=i by omega]at this;omega
  · by_cases hj:j=i-1
    · subst hj;rw [show i-1+1=i by omega];omega
    · exact h3 j (by omega) h7 h8
  · rw [eF]
    exact fun j h6 h7=>h3 j (by omega) h6 h7
theorem aga (a n:Int):PO (std 0) (a,n,()) (fun y=>y=(decide (n≤a),n,())):=by
  dsimp only [PO,Alg.cl,Alg.cg,Alg.rb,Alg.bd,Alg.l1,Tup.q,Tup.o]
  simp (disch:=omega) only [RR]
theorem Z4 {p:Int×Int×Unit→Bool} {f:Int×Int×Unit→Bool×Int×Unit} (hp:∀a b,p (a,b,())=true) (hf:∀a b,f (a,b,())=(decide (b≤a),b,())) (a:List Int) (n:Int) (ha:a.length<1000000000):
    II (std 0) p f (a,n,()) (fun y=>Idx a.length (fun i=>n≤a.getD i.toNat default) y.1∧y.2.1=n):=by
  dsimp only [II,Alg.cl,Alg.cg,Alg.rb,Alg.bd,Alg.l1,Tup.q,Tup.o]
  refine ay (fun(y:List Int×Int×Int×Int×Unit)=>y.1=a∧y.2.1=a.length∧y.2.2.2.1=n∧0≤y.2.2.1∧y.2.2.1≤a.length∧All y.2.2.1 (fun i=>¬n≤a.getD i.toNat default)) (fun y=>(a.length-y.2.2.1).toNat) ⟨rfl,rfl,rfl,by simp,by simp,All.zero⟩ ?_
  rintro⟨(l:List Int),(m:Int),(i:Int),(n':Int),⟨⟩⟩ hI
  dsimp only at hI ⊢
  obtain⟨rfl,rfl,rfl,h1,h2,h3⟩:=hI
  simp (disch:=omega) only [RR,hp,hf]
  refine⟨fun h4=>⟨by omega,by omega,fun h5=> ?_,fun h5=>⟨⟨by omega,by omega,h3.snoc h5⟩,by omega⟩⟩,fun h4=> ?_⟩
  · exact Or.inr ⟨by omega,by omega,h5,h3⟩
  · exact Or.inl ⟨rfl,h3.le (by omega)⟩
theorem Z5 {p:List Int×Int×Unit→Bool} {f:List Int×Int×Unit→Int×Int×Unit} (hp:∀a b,a.length<1000000000→p (a,b,())=true)
    (hf:∀a n,a.length<1000000000→Idx a.length (fun i=>n≤a.getD i.toNat default) (f (a,n,())).1∧(f (a,n,())).2.1=n) (a:List Int) (n:Int) (ha:a.length<1000000000):
    IJ (std 0) p f (a,n,()) (fun y=>y=(bp (¬All a.length (fun i=>¬n≤a.getD i.toNat default)),n,())):=by
  obtain⟨h1,h2⟩:=hf a n ha
  dsimp only [IJ,Alg.cl,Alg.cg,Alg.rb,Alg.bd,Alg.l1,Tup.q,Tup.o]
  simp (disch:=omega) only [RR,hp a n ha,h2]
  rw [show decide ((0:Int)≤(f (a,n,())).1)=bp (¬All a.length (fun i=>¬n≤a.getD i.toNat default))from ?_]
  rw [←MC h1.ge];simp [bp]
def ME (n:Int) (m:aj):Prop:=All m.atoms.length (fun i=>¬n≤m.atoms.getD i.toNat default)
def aR (p:List aj) (n:Int):Prop:=All p.length (fun i=>ME n (p.getD i.toNat default))
def Sh (p:List aj):Prop:=p.length<1000000000∧∀m∈p,m.atoms.length<1000000000
theorem Sh.at {p:List aj} (h:Sh p) (n:Nat):(p.getD n default).atoms.length<1000000000:=by
  by_cases h1:n<p.length
  · rw [getD_lt h1];exact h.2 _ (List.getElem_mem _)
  · simp only [List.getD,List.getElem?_eq_none (by omega:p.length≤n)];decide
theorem agb {p:List Int×Int×Unit→Bool} {f:List Int×Int×Unit→Bool×Int×Unit} (hp:∀a b,a.length<1000000000→p (a,b,())=true)
    (hf:∀a n,a.length<1000000000→f (a,n,())=(bp (¬All a.length (fun i=>¬n≤a.getD i.toNat default)),n,())) (a:List aj) (n:Int) (ha:Sh a):
    PS (std 0) p f (a,n,()) (fun y=>y=(bp (aR a n),())):=by
  have hlen:=ha.1
  dsimp only [PS,Alg.cl,Alg.cg,Alg.rb,Alg.bd,Alg.l1,Tup.q,Tup.o]
  refine ay (fun(y:List aj×Int×Int×Int×Unit)=>y.1=a∧y.2.1=a.length∧y.2.2.2.1=n∧0≤y.2.2.1∧y.2.2.1≤a.length∧All y.2.2.1 (fun i=>ME n (a.getD i.toNat default))) (fun y=>(a.length-y.2.2.1).toNat) ⟨rfl,rfl,rfl,by simp,by simp,All.zero⟩ ?_
  rintro⟨(l:List aj),(m:Int),(i:Int),(n':Int),⟨⟩⟩ hI
  dsimp only at hI ⊢
  obtain⟨rfl,rfl,rfl,h1,h2,h3⟩:=hI
  simp (disch:=omega) only [RR]
  refine⟨fun h4=> ?_,fun h4=> ?_⟩
  · have h5:=ha.at i.toNat
    rw [hp _ _ h5,hf _ _ h5]
    refine⟨by omega,by omega,rfl,fun h6=> ?_,fun h6=>⟨⟨rfl,by omega,by omega,h3.snoc ?_⟩,by omega⟩⟩
    · rw [fK (fun h=> ?_)]
      exact bg.1 h6 (h i h1 h4)
    · exact Classical.byContradiction (fun h=>lT.1 h6 h)
  · rw [eF (show aR l n' from h3.le (by omega))]
theorem agc (m:aj):PU (std 0) (m,()) (fun y=>y=(bp (0<m.atoms.length∧m.atoms.getD 0 default<0),())):=by
  dsimp only [PU,Alg.cl,Alg.cg,Alg.rb,Alg.bd,Alg.l1,Tup.q,Tup.o]
  simp (disch:=omega) only [RR]
  refine⟨by omega,by omega,?_⟩
  rw [Jm]
  by_cases h1:0<m.atoms.length
  · by_cases h2:m.atoms.getD 0 default<0
    · rw [eF h1,eF h2,show Int.toNat 0=0 from rfl,decide_eq_true h2,decide_eq_true (by omega)]
    · rw [eF h1,fK h2,show Int.toNat 0=0 from rfl,decide_eq_false h2,Bool.and_false,Bool.and_false]
  · rw [fK h1,decide_eq_false (by omega),Bool.false_and,Bool.false_and]
theorem Z6 {p:aj×Unit→Bool} {f:aj×Unit→Bool×Unit} (G:aj→Prop) (hp:∀a,p (a,())=true) (hf:∀a,f (a,())=(bp (G a),())) (a:List aj) (ha:a.length<1000000000):
    IK (std 0) p f (a,()) (fun y=>Idx a.length (fun i=>G (a.getD i.toNat default)) y.1):=by
  dsimp only [IK,Alg.cl,Alg.cg,Alg.rb,Alg.bd,Alg.l1,Tup.q,Tup.o]
  refine ay (fun(y:List aj×Int×Int×Unit)=>y.1=a∧y.2.1=a.length∧0≤y.2.2.1∧y.2.2.1≤a.length∧All y.2.2.1 (fun i=>¬G (a.getD i.toNat default))) (fun y=>(a.length-y.2.2.1).toNat) ⟨rfl,rfl,by simp,by simp,All.zero⟩ ?_
  rintro⟨(l:List aj),(m:Int),(i:Int),⟨⟩⟩ hI
  dsimp only at hI ⊢
  obtain⟨rfl,rfl,h1,h2,h3⟩:=hI
  simp (disch:=omega) only [RR,hp,hf]
  refine⟨fun h4=>⟨by omega,by omega,fun h5=> ?_,fun h5=>⟨⟨by omega,by omega,h3.snoc (lT.1 h5)⟩,by omega⟩⟩,fun h4=> ?_⟩
  · exact Or.inr ⟨by omega,by omega,bg.1 h5,h3⟩
  · exact Or.inl ⟨rfl,h3.le (by omega)⟩
theorem Z7 {p:List aj×Unit→Bool} {f:List aj×Unit→Int×Unit} (G:aj→Prop) (hp:∀a,a.length<1000000000→p (a,())=true)
    (hf:∀a,a.length<1000000000→Idx a.length (fun i=>G (a.getD i.toNat default)) (f (a,())).1) (a:List aj) (ha:a.length<1000000000):
    IL (std 0) p f (a,()) (fun y=>y=(bp (¬All a.length (fun i=>¬G (a.getD i.toNat default))),())):=by
  have h1:=hf a ha
  dsimp only [IL,Alg.cl,Alg.cg,Alg.rb,Alg.bd,Alg.l1,Tup.q,Tup.o]
  simp (disch:=omega) only [RR,hp a ha]
  rw [show decide ((0:Int)≤(f (a,())).1)=bp (¬All a.length (fun i=>¬G (a.getD i.toNat default)))from ?_]
  rw [←MC h1.ge];simp [bp]
def mOk (m:aj):Prop:=(1≤m.bK∧m.bK≤65535)∧m.atoms.length≤4∧Srt m.atoms
def aN (p:List aj):Prop:=All p.length (fun i=>mOk (p.getD i.toNat default)∧(0<i→dN (p.getD (i-1).toNat default).atoms (p.getD i.toNat default).atoms<0))∧p.length≤12∧aR p 200
  ∧All p.length (fun i=>¬(0< (p.getD i.toNat default).atoms.length∧(p.getD i.toNat default).atoms.getD 0 default<0))
theorem agd {p1:Int×Int×Int×Unit→Bool} {f1:Int×Int×Int×Unit→Bool×Unit} (hp1:∀a b c,p1 (a,b,c,())=true) (hf1:∀a b c,f1 (a,b,c,())=(inB a b c,()))
    {p2:List aj×Int×Unit→Bool} {f2:List aj×Int×Unit→Bool×Unit} (hp2:∀a n,Sh a→p2 (a,n,())=true) (hf2:∀a n,Sh a→f2 (a,n,())=(bp (aR a n),()))
    {p3:List Int×Unit→Bool} {f3:List Int×Unit→Bool×Unit} (hp3:∀a,a.length<1000000000→p3 (a,())=true) (hf3:∀a,a.length<1000000000→f3 (a,())=(bp (Srt a),()))
    {p4:List Int×List Int×Unit→Bool} {f4:List Int×List Int×Unit→Int×Unit} (hp4:∀a b,a.length<1000000000→p4 (a,b,())=true) (hf4:∀a b,a.length<1000000000→f4 (a,b,())=(dN a b,()))
    {p5:List aj×Unit→Bool} {f5:List aj×Unit→Bool×Unit} (hp5:∀a,a.length<1000000000→p5 (a,())=true) (hf5:∀a,a.length<1000000000→f5 (a,())=(bp (¬All a.length (fun i=>¬(0< (a.getD i.toNat default).atoms.length∧(a.getD i.toNat default).atoms.getD 0 default<0))),()))
    (a:List aj) (ha:Sh a):PW (std 0) p1 f1 p2 f2 p3 f3 p4 f4 p5 f5 (a,()) (fun y=>y=(bp (aN a),())):=by
  have hlen:=ha.1
  dsimp only [PW,Alg.cl,Alg.cg,Alg.rb,Alg.bd,Alg.l1,Tup.q,Tup.o]
  refine ay (fun(y:List aj×Int×Int×List aj×Unit)=>y.1=a∧y.2.1=a.length∧y.2.2.2.1=a∧0≤y.2.2.1∧y.2.2.1≤a.length∧All y.2.2.1 (fun i=>mOk (a.getD i.toNat default)∧(0<i→dN (a.getD (i-1).toNat default).atoms (a.getD i.toNat default).atoms<0))) (fun y=>(a.length-y.2.2.1).toNat) ⟨rfl,rfl,rfl,by simp,by simp,All.zero⟩ ?_
  rintro⟨(l:List aj),(m:Int),(i:Int),(l':List aj),⟨⟩⟩ hI
  dsimp only at hI ⊢
  obtain⟨rfl,rfl,rfl,h1,h2,h3⟩:=hI
  simp (disch:=omega) only [RR,hp1,hf1,hp2 l' _ ha,hf2 l' _ ha,hp5 l' hlen,hf5 l' hlen]
  refine⟨fun h4=> ?_,fun h4=> ?_⟩
  · simp (disch:=omega) only [RR,hp3 _ (ha.at _),hf3 _ (ha.at _),hp4 _ _ (ha.at _),hf4 _ _ (ha.at _),bg,lT,inB]
    refine⟨by omega,by omega,by by_cases h:i≤0<;>simp [h]<;>omega,by omega,fun h5=> ?_,fun h5=>⟨⟨by omega,by omega,h3.snoc ?_⟩,by omega⟩⟩
    · rw [fK (fun h=> ?_)]
      have:=h.1 i h1 h4
      dsimp only [mOk]at this
      obtain⟨⟨h6,h7,h8⟩,h9⟩:=this
      rcases h5 with((h5 | h5) | h5) | ⟨h5,h10⟩
      · simp [-List.getD_eq_getElem?_getD]at h5;omega
      · omega
      · exact h5 h8
      · have:=h9 h5;omega
    · refine⟨⟨by omega,by omega,h5.1.2⟩,fun h6=> ?_⟩
      have:=h5.2;simp only [decide_eq_true h6,Bool.true_and,decide_eq_false_iff_not]at this;omega
  · unfold aN
    rw [show All (↑l'.length) (fun i=>mOk (l'.getD i.toNat default)∧(0<i→dN (l'.getD (i-1).toNat default).atoms (l'.getD i.toNat default).atoms<0))=True from eq_true (h3.le (by omega))]
    rw [true_and,Jm,Jm,Bool.and_assoc]
    refine congrArg (fun b=>(b,())) ?_
    congr 1
    · by_cases h:l'.length≤12<;>simp [bp,h]<;>omega
    · congr 1
      simp [bp]
def MF (a b:aj):Int:=or2 (dN a.atoms b.atoms) (gQ a.bK b.bK)
def Dl:List aj→List aj→Int
  | a::az,b::bs=>if MF a b≠0 then MF a b else Dl az bs
  | _,_=>0
def gX (a b:List aj):Int:=if gQ a.length b.length≠0 then gQ a.length b.length else Dl a b
theorem Dm (a b:List aj) (i:Nat):(h1:i<a.length)→(h2:i<b.length)→Dl (a.drop i) (b.drop i)=if MF a[i] b[i]≠0 then MF a[i] b[i]else Dl (a.drop (i+1)) (b.drop (i+1)):=by
  intro h1 h2
  rw [List.drop_eq_getElem_cons h1,List.drop_eq_getElem_cons h2];rfl
theorem agf {p1:List Int×Unit→Bool} {f1:List Int×Unit→Int×Unit} (hp1:∀a b,p1 ([a,b],())=true) (hf1:∀a b,f1 ([a,b],())=(or2 a b,()))
    {p2:Int×Int×Unit→Bool} {f2:Int×Int×Unit→Int×Unit} (hp2:∀a b,p2 (a,b,())=true) (hf2:∀a b,f2 (a,b,())=(gQ a b,()))
    {p4:List Int×List Int×Unit→Bool} {f4:List Int×List Int×Unit→Int×Unit} (hp4:∀a b,a.length<1000000000→p4 (a,b,())=true) (hf4:∀a b,a.length<1000000000→f4 (a,b,())=(dN a b,()))
    (a b:List aj) (ha:Sh a):PY (std 0) p1 f1 p2 f2 p4 f4 (a,b,()) (fun y=>y=(gX a b,())):=by
  have hlen:=ha.1
  dsimp only [PY,Alg.cl,Alg.cg,Alg.rb,Alg.bd,Alg.l1,Tup.q,Tup.o]
  simp (disch:=omega) only [RR,hp2,hf2]
  refine⟨fun h=>by rw [gX,if_pos h],fun h=> ?_⟩
  have hl:a.length=b.length:=by unfold gQ at h;split at h<;>(try split at h)<;>omega
  rw [show gX a b=Dl a b by rw [gX,if_neg (by simp [h])]]
  refine ay (fun(y:List aj×Int×Int×List aj×Unit)=>y.1=a∧y.2.1=a.length∧y.2.2.2.1=b∧0≤y.2.2.1∧y.2.2.1≤a.length∧Dl a b=Dl (a.drop y.2.2.1.toNat) (b.drop y.2.2.1.toNat)) (fun y=>(a.length-y.2.2.1).toNat) ⟨rfl,rfl,rfl,by simp,by simp,by simp⟩ ?_
  rintro⟨(l:List aj),(m:Int),(i:Int),(l':List aj),⟨⟩⟩ hI
  dsimp only at hI ⊢
  obtain⟨rfl,rfl,rfl,h1,h2,h3⟩:=hI
  simp (disch:=omega) only [RR,hp1,hf1,hp4 _ _ (ha.at _),hf4 _ _ (ha.at _)]
  refine⟨fun h4=>⟨by omega,by omega,by omega,by omega,by omega,by omega,fun h5=> ?_,fun h5=>⟨⟨by omega,by omega,?_⟩,by omega⟩⟩,fun h4=> ?_⟩
  · rw [h3,Dm _ _ _ (by omega) (by omega)]
    rw [getD_lt (by omega),getD_lt (by omega)]at h5 ⊢
    exact((if_pos (c:=MF l[i.toNat] l'[i.toNat]≠0) h5).trans rfl).symm▸rfl
  · rw [h3,Dm _ _ _ (by omega) (by omega)]
    rw [getD_lt (by omega),getD_lt (by omega)]at h5
    rw [if_neg (show¬(MF l[i.toNat] l'[i.toNat]≠0)from fun h=>h h5),show(i+1).toNat=i.toNat+1 by omega]
  · rw [h3,List.drop_eq_nil_of_le (by omega)];rfl
theorem agh {p1:List aj×List aj×Unit→Bool} {f1:List aj×List aj×Unit→Int×Unit} (hp1:∀a b,Sh a→p1 (a,b,())=true) (hf1:∀a b,Sh a→f1 (a,b,())=(gX a b,())) (a b:List aj) (ha:Sh a):
    P9 (std 0) p1 f1 (a,b,()) (fun y=>y=(decide (gX a b=0),())):=by
  dsimp only [P9,Alg.cl,Alg.cg,Alg.rb,Alg.bd,Alg.l1,Tup.q,Tup.o]
  simp (disch:=omega) only [RR,hp1 a b ha,hf1 a b ha]
end Go.TX.F
namespace Go.TX.F
open Go Go.AE Go.TX
theorem TL (k:IntKind) (x y:Int):jO .and k x y=rX .and k x y:=rfl
theorem TM (k:IntKind) (x y:Int):jO .xor k x y=rX .xor k x y:=rfl
theorem Z8 (x:Int):rX .and .i64 x 65535=x%65536:=by
  unfold rX
  dsimp only
  rw [BitVec.toNat_and,BitVec.toNat_ofInt,BitVec.toNat_ofInt]
  have h1:((65535:Int)% ((2^IntKind.i64.bits:Nat):Int)).toNat=2^16-1:=by decide
  rw [h1,Nat.and_two_pow_sub_one_eq_mod]
  rw [w64 (by omega) (by omega)]
  have h2:((2^IntKind.i64.bits:Nat):Int)=18446744073709551616:=by decide
  rw [h2]
  omega
theorem agi (a:Int):QK (std 0) (a,()) (fun y=>y=(a%65536,())):=by
  dsimp only [QK,Alg.cl,Alg.cg,Alg.rb,Alg.bd,Alg.l1,Tup.q,Tup.o]
  simp (disch:=omega) only [RR,TL,Z8]
def wdo (op a b:Int):Int:=if(0≤a∧a≤65535)∧(0≤b∧b≤65535)then
  (if op=1 then(a+b)%65536 else if op=2 then(a-b)%65536 else if op=3 then(a*b)%65536 else if op=4 then rX .and .i64 a b else if op=5 then rX .xor .i64 a b else 0)else 0
theorem dx {a b c:Int}:inB a b c=true↔(b≤a∧a≤c):=by simp [inB]
theorem nC {a b c:Int}:inB a b c=false↔¬(b≤a∧a≤c):=by rw [←dx,Bool.not_eq_true]
theorem agj {p1:Int×Unit→Bool} {f1:Int×Unit→Bool×Unit} (hp1:∀a,p1 (a,())=true) (hf1:∀a,f1 (a,())=(inB a 0 65535,()))
    {p2:Int×Unit→Bool} {f2:Int×Unit→Int×Unit} (hp2:∀a,p2 (a,())=true) (hf2:∀a,f2 (a,())=(a%65536,())) (op a b:Int):
    QL (std 0) p1 f1 p2 f2 (op,a,b,()) (fun y=>y=(wdo op a b,())):=by
  dsimp only [QL,Alg.cl,Alg.cg,Alg.rb,Alg.bd,Alg.l1,Tup.q,Tup.o]
  simp (disch:=omega) only [RR,hp1,hf1,hp2,hf2,TL,TM,dx,nC]
  by_cases ha:(0≤a∧a≤65535)∧(0≤b∧b≤65535)
  · have hm:0≤a*b∧a*b≤65535*65535:=⟨Int.mul_nonneg ha.1.1 ha.2.1,Int.mul_le_mul ha.1.2 ha.2.2 ha.2.1 (by omega)⟩
    rw [w64 (x:=a+b) (by omega) (by omega),w64 (x:=a-b) (by omega) (by omega),w64 (x:=a*b) (by omega) (by omega)]
    unfold wdo
    rw [if_pos ha]
    refine⟨fun h=>absurd h (by omega),fun _=>⟨fun h=> ?_,fun h=>⟨fun h1=> ?_,fun h1=>⟨fun h2=> ?_,fun h2=>⟨fun h3=> ?_,fun h3=>⟨fun h4=> ?_,fun h4=> ?_⟩⟩⟩⟩⟩⟩<;>(subst_vars;first | rfl | simp only [if_true,if_false, *])
  · refine⟨fun h=> ?_,fun h=>absurd h ?_⟩
    · unfold wdo;rw [if_neg ha]
    · exact ha
def dI (n:Int):List aj:=if 1≤n∧n≤65535 then [⟨n,[]⟩]else []
theorem agk {p1:Int×Int×Int×Unit→Bool} {f1:Int×Int×Int×Unit→Bool×Unit} (hp1:∀a b c,p1 (a,b,c,())=true) (hf1:∀a b c,f1 (a,b,c,())=(inB a b c,())) (a:Int):
    QJ (std 0) p1 f1 (a,()) (fun y=>y=(dI a,())):=by
  dsimp only [QJ,Alg.cl,Alg.cg,Alg.rb,Alg.bd,Alg.l1,Tup.q,Tup.o]
  simp (disch:=omega) only [RR,hp1,hf1,dx,nC]
  unfold dI
  exact⟨fun h=>by rw [if_neg (by omega)],fun h=>by rw [if_pos (by omega)]⟩
def fG (n:Int):List aj:=if 0≤n∧n≤199 then [⟨1,[n]⟩]else []
theorem agl {p1:Int×Int×Int×Unit→Bool} {f1:Int×Int×Int×Unit→Bool×Unit} (hp1:∀a b c,p1 (a,b,c,())=true) (hf1:∀a b c,f1 (a,b,c,())=(inB a b c,())) (a:Int):
    QE (std 0) p1 f1 (a,()) (fun y=>y=(fG a,())):=by
  dsimp only [QE,Alg.cl,Alg.cg,Alg.rb,Alg.bd,Alg.l1,Tup.q,Tup.o]
  simp (disch:=omega) only [RR,hp1,hf1,dx,nC]
  unfold fG
  exact⟨fun h=>by rw [if_neg (by omega)],fun h=>by rw [if_pos (by omega)]⟩
noncomputable def dP (p:List aj):Int×Bool:=if bp (aN p)then(if p.length=0 then(0,true)else if p.length=1∧(p.getD 0 default).atoms.length=0 then((p.getD 0 default).bK,true)else(0,false))else(0,false)
theorem agm {p1:List aj×Unit→Bool} {f1:List aj×Unit→Bool×Unit} (hp1:∀a,Sh a→p1 (a,())=true) (hf1:∀a,Sh a→f1 (a,())=(bp (aN a),())) (a:List aj) (ha:Sh a):
    PX (std 0) p1 f1 (a,()) (fun y=>y=((dP a).1,(dP a).2,())):=by
  dsimp only [PX,Alg.cl,Alg.cg,Alg.rb,Alg.bd,Alg.l1,Tup.q,Tup.o]
  simp (disch:=omega) only [RR,hp1 a ha,hf1 a ha]
  unfold dP
  refine⟨fun h=> ?_,fun h=>⟨fun h1=> ?_,fun h1=>⟨by omega,by omega,fun h2=>⟨by omega,by omega,?_⟩,fun h2=> ?_⟩⟩⟩
  · rw [if_neg (by simpa using h)]
  · rw [if_pos h,if_pos (by omega)]
  · have h3:=h2.2;rw [show Int.toNat 0=0 from rfl]at h3
    rw [if_pos h,if_neg (by omega),if_pos (show a.length=1∧(a.getD 0 default).atoms.length=0 by omega)];rfl
  · rw [if_pos h,if_neg (by omega),if_neg]
    intro h3
    rw [decide_eq_true (by omega),Bool.true_and,decide_eq_false_iff_not]at h2
    apply h2;rw [show Int.toNat 0=0 from rfl];omega
theorem agn (a:List Int) (ha:a.length≤1073741824):PZ (std 0) (a,()) (fun y=>y=(a,())):=by
  dsimp only [PZ,Alg.cl,Alg.cg,Alg.rb,Alg.bd,Alg.l1,Tup.q,Tup.o]
  simp (disch:=omega) only [RR]
  omega
theorem dO {α:Type} {l:List α} {i:Int} {d x:α} (h0:0≤i) (h:i<l.length) (e:x=l.getD i.toNat d):l.take i.toNat++ [x]=l.take (i+1).toNat:=by
  rw [e,getD_lt (by omega),show(i+1).toNat=i.toNat+1 by omega,List.take_succ_eq_append_getElem (by omega)]
theorem agp {p1:List Int×Unit→Bool} {f1:List Int×Unit→List Int×Unit} (hp1:∀a,a.length≤1073741824→p1 (a,())=true) (hf1:∀a,a.length≤1073741824→f1 (a,())=(a,())) (a:List aj) (ha:Sh a):
    P6 (std 0) p1 f1 (a,()) (fun y=>y=(a,())):=by
  have hlen:=ha.1
  dsimp only [P6,Alg.cl,Alg.cg,Alg.rb,Alg.bd,Alg.l1,Tup.q,Tup.o]
  refine ay (fun(y:List aj×Int×Int×List aj×Unit)=>y.1=a∧y.2.1=a.length∧y.2.2.2.1=a.take y.2.2.1.toNat∧0≤y.2.2.1∧y.2.2.1≤a.length) (fun y=>(a.length-y.2.2.1).toNat) ⟨rfl,rfl,by simp,by simp,by simp⟩ ?_
  rintro⟨(l:List aj),(m:Int),(i:Int),(o:List aj),⟨⟩⟩ hI
  dsimp only at hI ⊢
  obtain⟨rfl,rfl,rfl,h1,h2⟩:=hI
  simp (disch:=first | omega | (have:=ha.at i.toNat;omega)) only [RR,hp1,hf1]
  have h3:=ha.at i.toNat
  refine⟨fun h4=>⟨by omega,by omega,?_,⟨dO h1 h4 rfl,by omega,by omega⟩,by omega⟩,fun h4=>by rw [List.take_of_length_le (by omega)]⟩
  have:=List.length_take_le' i.toNat l
  simp only [List.length_cons,List.length_nil];omega
def ShA (a:Atom):Prop:=Sh a.x∧Sh a.y
def ShT (t:List Atom):Prop:=t.length<1000000000∧∀a∈t,ShA a
theorem ShT.at {p:List Atom} (h:ShT p) (n:Nat):ShA (p.getD n default):=by
  by_cases h1:n<p.length
  · rw [getD_lt h1];exact h.2 _ (List.getElem_mem _)
  · simp only [List.getD,List.getElem?_eq_none (by omega:p.length≤n)]
    refine⟨⟨by decide,fun m hm=> ?_⟩,⟨by decide,fun m hm=> ?_⟩⟩<;>exact absurd hm (by simp [default,instInhabitedAtom.default])
theorem agq {p1:List aj×Unit→Bool} {f1:List aj×Unit→List aj×Unit} (hp1:∀a,Sh a→p1 (a,())=true) (hf1:∀a,Sh a→f1 (a,())=(a,())) (a:List Atom) (ha:ShT a):
    Q6 (std 0) p1 f1 (a,()) (fun y=>y=(a,())):=by
  have hlen:=ha.1
  dsimp only [Q6,Alg.cl,Alg.cg,Alg.rb,Alg.bd,Alg.l1,Tup.q,Tup.o]
  refine ay (fun(y:List Atom×Int×Int×List Atom×Unit)=>y.1=a∧y.2.1=a.length∧y.2.2.2.1=a.take y.2.2.1.toNat∧0≤y.2.2.1∧y.2.2.1≤a.length) (fun y=>(a.length-y.2.2.1).toNat) ⟨rfl,rfl,by simp,by simp,by simp⟩ ?_
  rintro⟨(l:List Atom),(m:Int),(i:Int),(o:List Atom),⟨⟩⟩ hI
  dsimp only at hI ⊢
  obtain⟨rfl,rfl,rfl,h1,h2⟩:=hI
  simp (disch:=omega) only [RR,hp1 _ (ha.at _).1,hf1 _ (ha.at _).1,hp1 _ (ha.at _).2,hf1 _ (ha.at _).2]
  refine⟨fun h4=>⟨by omega,by omega,?_,⟨dO h1 h4 rfl,by omega,by omega⟩,by omega⟩,fun h4=>by rw [List.take_of_length_le (by omega)]⟩
  have:=List.length_take_le' i.toNat l
  simp only [List.length_cons,List.length_nil];omega
theorem agr {p4:List Int×List Int×Unit→Bool} {f4:List Int×List Int×Unit→Int×Unit} (hp4:∀a b,a.length<1000000000→p4 (a,b,())=true) (hf4:∀a b,a.length<1000000000→f4 (a,b,())=(dN a b,())) (a b:aj) (ha:a.atoms.length<1000000000):
    QM (std 0) p4 f4 (a,b,()) (fun y=>y=(dN a.atoms b.atoms,())):=by
  dsimp only [QM,Alg.cl,Alg.cg,Alg.rb,Alg.bd,Alg.l1,Tup.q,Tup.o]
  simp (disch:=omega) only [RR,hp4 a.atoms b.atoms ha,hf4 a.atoms b.atoms ha]
theorem ags (a:List Atom):QC (std 0) (a,()) (fun y=>y=(a,())):=by
  dsimp only [QC,Alg.cl,Alg.cg,Alg.rb,Alg.bd,Alg.l1,Tup.q,Tup.o]
  simp (disch:=omega) only [RR]
  refine⟨by omega,by omega,by omega,?_⟩
  rw [List.take_of_length_le (by omega)];rfl
def oK (a b:Atom):Bool:=decide (a.kind=b.kind)&&decide (a.k=b.k)&&decide (gX a.x b.x=0)&&decide (gX a.y b.y=0)
theorem agt {p1:List aj×List aj×Unit→Bool} {f1:List aj×List aj×Unit→Bool×Unit} (hp1:∀a b,Sh a→p1 (a,b,())=true) (hf1:∀a b,Sh a→f1 (a,b,())=(decide (gX a b=0),())) (a b:Atom) (ha:ShA a):
    Qp (std 0) p1 f1 (a,b,()) (fun y=>y=(oK a b,())):=by
  dsimp only [Qp,Alg.cl,Alg.cg,Alg.rb,Alg.bd,Alg.l1,Tup.q,Tup.o]
  simp (disch:=omega) only [RR,hp1 a.x b.x ha.1,hf1 a.x b.x ha.1,hp1 a.y b.y ha.2,hf1 a.y b.y ha.2]
  rfl
theorem agu {p1:Atom×Atom×Unit→Bool} {f1:Atom×Atom×Unit→Bool×Unit} (hp1:∀a b,ShA a→p1 (a,b,())=true) (hf1:∀a b,ShA a→f1 (a,b,())=(oK a b,())) (a b:Atom) (hb:ShA b):
    Qq (std 0) p1 f1 (a,b,()) (fun y=>y=(oK b a,b,())):=by
  dsimp only [Qq,Alg.cl,Alg.cg,Alg.rb,Alg.bd,Alg.l1,Tup.q,Tup.o]
  simp (disch:=omega) only [RR,hp1 b a hb,hf1 b a hb]
noncomputable def idxOf (n:Int) (G:Int→Prop):Int:= @dite _ (∃r,Idx n G r) (Classical.propDecidable _) (fun h=>Classical.choose h) (fun _=> -1)
theorem Idx.uniq {n:Int} {G:Int→Prop} {r s:Int} (h:Idx n G r) (h':Idx n G s):r=s:=by
  rcases h with⟨h1,h2⟩ | ⟨h1,h2,h3,h4⟩<;>rcases h' with⟨g1,g2⟩ | ⟨g1,g2,g3,g4⟩
  · omega
  · exact absurd g3 (h2 s g1 g2)
  · exact absurd h3 (g2 r h1 h2)
  · by_cases h5:r<s
    · exact absurd h3 (g4 r h1 h5)
    · by_cases h6:s<r
      · exact absurd g3 (h4 s g1 h6)
      · omega
theorem Idx.eq {n:Int} {G:Int→Prop} {r:Int} (h:Idx n G r):r=idxOf n G:=by
  unfold idxOf
  have he:∃r,Idx n G r:=⟨r,h⟩
  rw [dif_pos he];exact h.uniq (Classical.choose_spec he)
theorem Z9 {p:Atom×Atom×Unit→Bool} {f:Atom×Atom×Unit→Bool×Atom×Unit} (hp:∀a b,ShA b→p (a,b,())=true) (hf:∀a b,ShA b→f (a,b,())=(oK b a,b,())) (a:List Atom) (b:Atom) (ha:a.length<1000000000) (hb:ShA b):
    IW (std 0) p f (a,b,()) (fun y=>y=(idxOf a.length (fun i=>oK b (a.getD i.toNat default)=true),b,())):=by
  dsimp only [IW,Alg.cl,Alg.cg,Alg.rb,Alg.bd,Alg.l1,Tup.q,Tup.o]
  refine ay (fun(y:List Atom×Int×Int×Atom×Unit)=>y.1=a∧y.2.1=a.length∧y.2.2.2.1=b∧0≤y.2.2.1∧y.2.2.1≤a.length∧All y.2.2.1 (fun i=>¬oK b (a.getD i.toNat default)=true)) (fun y=>(a.length-y.2.2.1).toNat) ⟨rfl,rfl,rfl,by simp,by simp,All.zero⟩ ?_
  rintro⟨(l:List Atom),(m:Int),(i:Int),(b':Atom),⟨⟩⟩ hI
  dsimp only at hI ⊢
  obtain⟨rfl,rfl,rfl,h1,h2,h3⟩:=hI
  simp (disch:=omega) only [RR,hp _ _ hb,hf _ _ hb]
  refine⟨fun h4=>⟨by omega,by omega,fun h5=> ?_,fun h5=>⟨⟨by omega,by omega,h3.snoc (by simp only [h5];simp)⟩,by omega⟩⟩,fun h4=> ?_⟩
  · rw [←Idx.eq (Or.inr ⟨by omega,by omega,h5,h3⟩)]
  · rw [←Idx.eq (Or.inl ⟨rfl,h3.le (by omega)⟩)]
noncomputable def sV (t:List Atom) (a:Atom):Int:=idxOf t.length (fun i=>oK a (t.getD i.toNat default)=true)
theorem agv {p:List Atom×Atom×Unit→Bool} {f:List Atom×Atom×Unit→Int×Atom×Unit} (hp:∀a b,a.length<1000000000→ShA b→p (a,b,())=true)
    (hf:∀a b,a.length<1000000000→ShA b→f (a,b,())=(idxOf a.length (fun i=>oK b (a.getD i.toNat default)=true),b,())) (a:List Atom) (b:Atom) (ha:a.length<1000000000) (hb:ShA b):
    Qr (std 0) p f (a,b,()) (fun y=>y=(sV a b,())):=by
  dsimp only [Qr,Alg.cl,Alg.cg,Alg.rb,Alg.bd,Alg.l1,Tup.q,Tup.o]
  simp (disch:=omega) only [RR,hp a b ha hb,hf a b ha hb]
  rfl
def fO (a:Atom) (n:Int):Prop:=if a.kind=4 then(1≤a.k∧a.k≤5)∧aN a.x∧aN a.y∧aR a.x n∧aR a.y n else
  (a.x=[]∧a.y=[])∧((a.kind=1∧0≤a.k∧a.k≤3)∨(a.kind=2∨a.kind=3)∧0≤a.k∧a.k≤199)
theorem agw {p1:Int×Int×Int×Unit→Bool} {f1:Int×Int×Int×Unit→Bool×Unit} (hp1:∀a b c,p1 (a,b,c,())=true) (hf1:∀a b c,f1 (a,b,c,())=(inB a b c,()))
    {p2:Int×Unit→Bool} {f2:Int×Unit→Bool×Unit} (hp2:∀a,p2 (a,())=true) (hf2:∀a,f2 (a,())=(inB a 1 5,()))
    {p3:List aj×Int×Unit→Bool} {f3:List aj×Int×Unit→Bool×Unit} (hp3:∀a n,Sh a→p3 (a,n,())=true) (hf3:∀a n,Sh a→f3 (a,n,())=(bp (aR a n),()))
    {p4:List aj×Unit→Bool} {f4:List aj×Unit→Bool×Unit} (hp4:∀a,Sh a→p4 (a,())=true) (hf4:∀a,Sh a→f4 (a,())=(bp (aN a),()))
    {p5:Int×Unit→Bool} {f5:Int×Unit→Bool×Unit} (hp5:∀a,p5 (a,())=true) (hf5:∀a,f5 (a,())=(inB a 0 3,())) (a:Atom) (n:Int) (ha:ShA a):
    Qo (std 0) p1 f1 p2 f2 p3 f3 p4 f4 p5 f5 (a,n,()) (fun y=>y=(bp (fO a n),())):=by
  obtain⟨hx,hy⟩:=ha
  have hx1:=hx.1
  have hy1:=hy.1
  dsimp only [Qo,Alg.cl,Alg.cg,Alg.rb,Alg.bd,Alg.l1,Tup.q,Tup.o]
  simp (disch:=omega) only [RR,hp1,hf1,hp2,hf2,hp3 a.x n hx,hf3 a.x n hx,hp3 a.y n hy,hf3 a.y n hy,hp4 a.x hx,hf4 a.x hx,hp4 a.y hy,hf4 a.y hy,hp5,hf5]
  unfold fO
  refine⟨fun h=> ?_,fun h=>⟨fun h1=> ?_,fun h1=> ?_⟩⟩
  · rw [if_pos h]
    congr 1
    rw [Bool.eq_iff_iff,bg]
    simp only [Bool.and_eq_true,dx,bg,and_assoc]
  · rw [if_neg h,fK]
    rintro⟨⟨h2,h3⟩, -⟩
    rw [h2,h3]at h1;exact absurd h1 (by simp)
  · rw [if_neg h]
    have h2:a.x=[]:=List.eq_nil_of_length_eq_zero (by omega)
    have h3:a.y=[]:=List.eq_nil_of_length_eq_zero (by omega)
    congr 1
    rw [Bool.eq_iff_iff,bg]
    simp only [Bool.or_eq_true,Bool.and_eq_true,decide_eq_true_eq,dx,h2,h3,true_and]
def aJ (t:List Atom):Prop:=All t.length (fun i=>fO (t.getD i.toNat default) i∧sV t (t.getD i.toNat default)=i)∧t.length≤200
theorem agx {p1:Atom×Int×Unit→Bool} {f1:Atom×Int×Unit→Bool×Unit} (hp1:∀a n,ShA a→p1 (a,n,())=true) (hf1:∀a n,ShA a→f1 (a,n,())=(bp (fO a n),()))
    {p2:List Atom×Atom×Unit→Bool} {f2:List Atom×Atom×Unit→Int×Unit} (hp2:∀a b,a.length<1000000000→ShA b→p2 (a,b,())=true) (hf2:∀a b,a.length<1000000000→ShA b→f2 (a,b,())=(sV a b,())) (a:List Atom) (ha:ShT a):
    Qs (std 0) p1 f1 p2 f2 (a,()) (fun y=>y=(bp (aJ a),())):=by
  have hlen:=ha.1
  dsimp only [Qs,Alg.cl,Alg.cg,Alg.rb,Alg.bd,Alg.l1,Tup.q,Tup.o]
  refine ay (fun(y:List Atom×Int×Int×List Atom×Unit)=>y.1=a∧y.2.1=a.length∧y.2.2.2.1=a∧0≤y.2.2.1∧y.2.2.1≤a.length∧All y.2.2.1 (fun i=>fO (a.getD i.toNat default) i∧sV a (a.getD i.toNat default)=i)) (fun y=>(a.length-y.2.2.1).toNat) ⟨rfl,rfl,rfl,by simp,by simp,All.zero⟩ ?_
  rintro⟨(l:List Atom),(m:Int),(i:Int),(b':List Atom),⟨⟩⟩ hI
  dsimp only at hI ⊢
  obtain⟨rfl,rfl,rfl,h1,h2,h3⟩:=hI
  simp (disch:=omega) only [RR,hp1 _ _ (ha.at _),hf1 _ _ (ha.at _),hp2 _ _ ha.1 (ha.at _),hf2 _ _ ha.1 (ha.at _),bg,lT]
  refine⟨fun h4=>⟨by omega,by omega,fun h5=> ?_,fun h5=>⟨⟨by omega,by omega,h3.snoc h5⟩,by omega⟩⟩,fun h4=> ?_⟩
  · rw [fK (fun h=> ?_)]
    have:=h.1 i h1 h4
    rcases h5 with h5 | h5
    · exact h5 this.1
    · exact h5 this.2
  · by_cases h5:b'.length≤200
    · rw [eF (show aJ b' from⟨h3.le (by omega),h5⟩),decide_eq_true (by omega)]
    · rw [fK (show¬aJ b' from fun h=>h5 h.2),decide_eq_false (by omega)]
noncomputable def bD (t:List Atom) (a:Atom):List Atom×Int:=if 0≤sV t a then(t,sV t a)else @ite _ (¬fO a t.length∨t.length=200) (Classical.propDecidable _) (t, -1) (t++ [a],(t.length:Int))
theorem agy {p1:Atom×Int×Unit→Bool} {f1:Atom×Int×Unit→Bool×Unit} (hp1:∀a n,ShA a→p1 (a,n,())=true) (hf1:∀a n,ShA a→f1 (a,n,())=(bp (fO a n),()))
    {p2:List Atom×Atom×Unit→Bool} {f2:List Atom×Atom×Unit→Int×Unit} (hp2:∀a b,a.length<1000000000→ShA b→p2 (a,b,())=true) (hf2:∀a b,a.length<1000000000→ShA b→f2 (a,b,())=(sV a b,()))
    {p3:List Atom×Unit→Bool} {f3:List Atom×Unit→List Atom×Unit} (hp3:∀a,p3 (a,())=true) (hf3:∀a,f3 (a,())=(a,())) (t:List Atom) (a:Atom) (ht:t.length<1000000000) (ha:ShA a):
    QD (std 0) p1 f1 p2 f2 p3 f3 (t,a,()) (fun y=>y=((bD t a).1,(bD t a).2,())):=by
  dsimp only [QD,Alg.cl,Alg.cg,Alg.rb,Alg.bd,Alg.l1,Tup.q,Tup.o]
  simp (disch:=omega) only [RR,hp1 a t.length ha,hf1 a t.length ha,hp2 t a ht ha,hf2 t a ht ha,hp3,hf3,bg,lT]
  unfold bD
  refine⟨fun h=>by rw [if_pos h],fun h=>⟨fun h1=> ?_,fun h1=>⟨?_,?_,?_⟩⟩⟩
  · rw [if_neg h,if_pos (by rcases h1 with h1 | h1;exact Or.inl h1;exact Or.inr (by omega))]
  · exact Or.inl (by simp)
  · simp only [List.length_cons,List.length_nil];omega
  · rw [if_neg h,if_neg (by rintro(h2 | h2);exact h2 h1.1;exact absurd h2 (by omega))]
end Go.TX.F
namespace Go.TX.F
open Go Go.AE Go.TX
theorem KP (a b:Int):gQ b a= -gQ a b:=by unfold gQ;repeat' split<;>omega
theorem jC {a b:Int}:gQ a b=0↔a=b:=by unfold gQ;constructor<;>intro h<;>(repeat' split at*)<;>omega
theorem KQ:∀a b:List Int,lH b a= -lH a b
  | [],[]=>rfl | [],_::_=>rfl | _::_,[]=>rfl
  | a::az,b::bs=>by
    simp only [lH,KP a b,KQ az bs]
    split<;>split<;>omega
theorem KR:∀ {a b:List Int},lH a b=0→a=b
  | [],[],_=>rfl | [],_::_,h=>by simp [lH]at h
  | _::_,[],h=>by simp [lH]at h
  | a::az,b::bs,h=>by
    simp only [lH]at h
    split at h
    · exact absurd h (by assumption)
    · rename_i h1
      rw [jC.1 (Classical.not_not.1 h1),KR h]
theorem KS:∀a:List Int,lH a a=0
  | []=>rfl
  | a::az=>by simp only [lH,show gQ a a=0 from jC.2 rfl];simp [KS az]
theorem Jo:∀ {a b c:List Int},lH a b≤0→lH b c≤0→lH a c≤0
  | [],_,[],_,_=>by simp [lH]
  | [],_,_::_,_,_=>by simp [lH]
  | _::_,[],_,h,_=>by simp [lH]at h
  | _::_,_::_,[],_,h=>by simp [lH]at h
  | a::az,b::bs,c::cs,h1,h2=>by
    have ih:= @Jo az bs cs
    simp only [lH]at h1 h2 ⊢
    unfold gQ at h1 h2 ⊢
    repeat' split at h1
    all_goals (repeat' split at h2)
    all_goals (repeat' split)
    all_goals omega
theorem sW (a b:List Int):dN b a= -dN a b:=by
  unfold dN or2;rw [KP,KQ];repeat' split<;>omega
theorem ko {a b:List Int}:dN a b=0↔a=b:=by
  constructor
  · intro h;unfold dN or2 at h
    split at h
    · exact absurd h (by assumption)
    · exact KR h
  · rintro rfl;unfold dN or2;rw [show gQ (a.length:Int) a.length=0 from jC.2 rfl,KS];rfl
theorem zu {a b c:List Int} (h1:dN a b≤0) (h2:dN b c≤0):dN a c≤0:=by
  have ih:= @Jo a b c
  unfold dN or2 gQ at*
  repeat' split at h1
  all_goals (repeat' split at h2)
  all_goals (repeat' split)
  all_goals omega
def le (x y:aj):Prop:=dN x.atoms y.atoms≤0
theorem le.trans {x y z:aj} (h1:le x y) (h2:le y z):le x z:=zu h1 h2
theorem sZ {x y:aj} (h:¬dN y.atoms x.atoms<0):le x y:=by unfold le;rw [sW];omega
theorem le_of_lt {x y:aj} (h:dN x.atoms y.atoms<0):le x y:=by unfold le;omega
theorem le_refl (x:aj):le x x:=by unfold le;rw [ko.2 rfl];omega
theorem dR {x y z:aj} (h1:le x y) (h2:dN y.atoms z.atoms<0):dN x.atoms z.atoms<0:=by
  have h3:=zu h1 (le_of_lt h2)
  by_cases h:dN x.atoms z.atoms=0
  · have e:=ko.1 h
    unfold le at h1;rw [e,sW]at h1;omega
  · omega
theorem ku {x y z:aj} (h1:dN x.atoms y.atoms<0) (h2:le y z):dN x.atoms z.atoms<0:=by
  have h3:=zu (le_of_lt h1) h2
  by_cases h:dN x.atoms z.atoms=0
  · have e:=ko.1 h
    unfold le at h2;rw [←e,sW]at h2;omega
  · omega
theorem MG (g:aj→Int) (x:aj):∀(d:List aj) (n:Nat) (h:n<d.length),((d.set n x).map g).sum=(d.map g).sum-g d[n]+g x
  | [],_,h=>absurd h (by simp)
  | a::d,0,h=>by simp;omega
  | a::d,n+1,h=>by
    have:=MG g x d n (by simpa using h)
    simp only [List.set_cons_succ,List.map_cons,List.sum_cons,List.getElem_cons_succ];omega
structure Sm (d d':List aj):Prop where
  len:d'.length=d.length
  sum:∀g:aj→Int,(d'.map g).sum=(d.map g).sum
theorem Sm.refl (d:List aj):Sm d d:=⟨rfl,fun _=>rfl⟩
theorem Sm.trans {a b c:List aj} (h1:Sm a b) (h2:Sm b c):Sm a c:=⟨h2.1.trans h1.1,fun g=>(h2.2 g).trans (h1.2 g)⟩
theorem Sm.symm {a b:List aj} (h1:Sm a b):Sm b a:=⟨h1.1.symm,fun g=>(h1.2 g).symm⟩
theorem MH (x:aj):∀d:List aj,0≤(d.map (fun y=>if y=x then(1:Int)else 0)).sum∧(0< (d.map (fun y=>if y=x then(1:Int)else 0)).sum↔x∈d)
  | []=>by simp
  | a::d=>by
    have:=MH x d
    simp only [List.map_cons,List.sum_cons,List.mem_cons]
    by_cases h:a=x
    · rw [if_pos h];refine⟨by omega,⟨fun _=>Or.inl h.symm,fun _=>by omega⟩⟩
    · rw [if_neg h];refine⟨by omega,⟨fun h2=>Or.inr (this.2.1 (by omega)),fun h2=> ?_⟩⟩
      rcases h2 with h2 | h2
      · exact absurd h2.symm h
      · have:=this.2.2 h2;omega
theorem Sm.mem {a b:List aj} (h:Sm a b) {x:aj} (hx:x∈b):x∈a:=by
  rw [←(MH x a).2,←h.2];exact(MH x b).2.2 hx
theorem Sm.sh {a b:List aj} (h:Sm a b) (hs:Sh a):Sh b:=⟨by have:=hs.1;have:=h.1;omega,fun m hm=>hs.2 m (h.mem hm)⟩
def swp (d:List aj) (i j:Int):List aj:=(d.set i.toNat ((d).getD (j).toNat default)).set j.toNat ((d).getD (i).toNat default)
theorem afe (d:List aj) (i j:Int):(swp d i j).length=d.length:=by simp [swp]
theorem at_set {d:List aj} {i j:Int} {x:aj} (h1:0≤i) (h2:i<d.length) (h3:0≤j):((d.set i.toNat x).getD (j).toNat default)=if j=i then x else((d).getD (j).toNat default):=by
  simp only [List.getD]
  by_cases h:j=i
  · subst h;rw [if_pos rfl,List.getElem?_set_self (by omega)];rfl
  · rw [if_neg h,List.getElem?_set_ne (by omega)]
theorem wP {d:List aj} {i j k:Int} (h1:0≤i) (h2:i<d.length) (h3:0≤j) (h4:j<d.length) (h5:0≤k):((swp d i j).getD (k).toNat default)=if k=j then((d).getD (i).toNat default)else if k=i then((d).getD (j).toNat default)else((d).getD (k).toNat default):=by
  unfold swp
  rw [at_set h3 (by simp;omega) h5,at_set h1 h2 h5]
theorem MI {d:List aj} {i j:Int} (h1:0≤i) (h2:i<d.length) (h3:0≤j) (h4:j<d.length):Sm d (swp d i j):=by
  refine⟨afe d i j,fun g=> ?_⟩
  unfold swp
  rw [getD_lt (show i.toNat<d.length by omega),getD_lt (show j.toNat<d.length by omega),MG g _ _ _ (by simp;omega),MG g _ _ _ (by omega),List.getElem_set]
  split
  · rename_i h;have:i=j:=by omega
    subst this;omega
  · omega
def Swp (d d':List aj) (a b n:Int):Prop:=Sm d d'∧∀k,0≤k→((d').getD (k).toNat default)=if a≤k∧k<a+n then((d).getD (k+(b-a)).toNat default)else if b≤k∧k<b+n then((d).getD (k- (b-a)).toNat default)else((d).getD (k).toNat default)
theorem aac (a b n:Int) (d:List aj) (hl:d.length<1000000000) (h1:0≤a) (h2:0≤n) (h3:a+n≤b) (h4:b+n≤d.length):
    I4 (std 0) (a,b,n,d,()) (fun y=>Swp d y.1 a b n):=by
  dsimp only [I4,Alg.cl,Alg.cg,Alg.rb,Alg.bd,Alg.l1,Tup.q,Tup.o]
  refine ay (fun(y:Int×Int×Int×Int×List aj×Unit)=>y.1=a∧y.2.1=b∧y.2.2.1=n∧0≤y.2.2.2.1∧y.2.2.2.1≤n∧Swp d y.2.2.2.2.1 a b y.2.2.2.1) (fun y=>(n-y.2.2.2.1).toNat)
    ⟨rfl,rfl,rfl,by simp,by simp;omega,Sm.refl d,fun k hk=>by dsimp only;rw [if_neg (by omega),if_neg (by omega)]⟩ ?_
  rintro⟨(a':Int),(b':Int),(n':Int),(i:Int),(e:List aj),⟨⟩⟩ hI
  dsimp only at hI ⊢
  obtain⟨rfl,rfl,rfl,h5,h6,h7,h8⟩:=hI
  have hle:=h7.1
  simp (disch:=omega) only [RR,List.length_set]
  refine⟨fun h9=> ?_,fun h9=> ?_⟩
  · have e1:(e.set (a'+i).toNat ((e).getD (b'+i).toNat default)).set (b'+i).toNat ((e).getD (a'+i).toNat default)=swp e (a'+i) (b'+i):=rfl
    rw [e1]
    refine⟨by omega,by omega,by omega,by omega,by omega,by omega,by omega,by omega,by omega,by omega,by omega,by omega,by omega,by omega,by omega,by omega,⟨by omega,by omega,h7.trans (MI (by omega) (by omega) (by omega) (by omega)),fun k hk=> ?_⟩,by omega⟩
    rw [wP (by omega) (by omega) (by omega) (by omega) hk]
    rw [h8 _ (by omega),h8 _ (by omega),h8 _ hk]
    repeat' split
    all_goals first | rfl | (exfalso;omega) | (congr 2;omega)
  · have:i=n':=by omega
    subst this;exact⟨h7,h8⟩
end Go.TX.F
namespace Go.TX.F
open Go Go.AE Go.TX
def Rot (d d':List aj) (a m b:Int):Prop:=Sm d d'∧∀k,0≤k→((d').getD (k).toNat default)=if a≤k∧k<a+(b-m)then((d).getD (k+(m-a)).toNat default)else if a+(b-m)≤k∧k<b then((d).getD (k- (b-m)).toNat default)else((d).getD (k).toNat default)
theorem aad {p:Int×Int×Int×List aj×Unit→Bool} {f:Int×Int×Int×List aj×Unit→List aj×Unit}
    (hp:∀(a b n:Int) (d:List aj),d.length<1000000000→0≤a→0≤n→a+n≤b→b+n≤d.length→p (a,b,n,d,())=true) (hf:∀(a b n:Int) (d:List aj),d.length<1000000000→0≤a→0≤n→a+n≤b→b+n≤d.length→Swp d (f (a,b,n,d,())).1 a b n)
    (a m b:Int) (d:List aj) (hl:d.length<1000000000) (h1:0≤a) (h2:a<m) (h3:m<b) (h4:b≤d.length):
    I5 (std 0) p f (a,m,b,d,()) (fun y=>Rot d y.1 a m b):=by
  dsimp only [I5,Alg.cl,Alg.cg,Alg.rb,Alg.bd,Alg.l1,Tup.q,Tup.o]
  simp (disch:=omega) only [RR]
  refine ay (fun(y:Int×Int×Int×List aj×Unit)=>y.1=m∧0<y.2.1∧0<y.2.2.1∧a≤m-y.2.1∧m+y.2.2.1≤b∧Sm d y.2.2.2.1∧
      ∀k,0≤k→(if a≤k∧k<a+(b-m)then((d).getD (k+(m-a)).toNat default)else if a+(b-m)≤k∧k<b then((d).getD (k- (b-m)).toNat default)else((d).getD (k).toNat default))
        =(if m-y.2.1≤k∧k<m-y.2.1+y.2.2.1 then((y.2.2.2.1).getD (k+y.2.1).toNat default)else if m-y.2.1+y.2.2.1≤k∧k<m+y.2.2.1 then((y.2.2.2.1).getD (k-y.2.2.1).toNat default)else((y.2.2.2.1).getD (k).toNat default))) (fun y=>(y.2.1+y.2.2.1).toNat)
    ⟨rfl,by simp;omega,by simp;omega,by simp;omega,by simp;omega,Sm.refl d,fun k hk=>by
      dsimp only;rw [show m- (m-a)=a by omega,show m+(b-m)=b by omega]⟩ ?_
  rintro⟨(m':Int),(i:Int),(j:Int),(e:List aj),⟨⟩⟩ hI
  dsimp only at hI ⊢
  obtain⟨rfl,h5,h6,h7,h8,h9,h10⟩:=hI
  have hle:=h9.1
  simp (disch:=omega) only [RR]
  refine⟨fun h11=>⟨fun h12=> ?_,fun h12=> ?_⟩,fun h11=> ?_⟩
  · obtain⟨s1,s2⟩:=hf (m'-i) m' j e (by omega) (by omega) (by omega) (by omega) (by omega)
    refine⟨hp _ _ _ _ (by omega) (by omega) (by omega) (by omega) (by omega),⟨by omega,by omega,by omega,by omega,h9.trans s1,fun k hk=> ?_⟩,by omega⟩
    rw [h10 k hk]
    generalize (f (m'-i,m',j,e,())).1=e' at s1 s2 ⊢
    by_cases c1:m'-i≤k∧k<m'-i+j
    · rw [if_pos c1,if_neg (by omega),if_neg (by omega),s2 k hk,if_pos c1];congr 2;omega
    · rw [if_neg c1]
      by_cases c2:m'-i+j≤k∧k<m'+j
      · rw [if_pos c2]
        by_cases c3:m'- (i-j)≤k∧k<m'- (i-j)+j
        · rw [if_pos c3,s2 _ (by omega),if_neg (by omega),if_pos (by omega)];congr 2;omega
        · rw [if_neg c3,if_pos (by omega),s2 _ (by omega),if_neg (by omega),if_neg (by omega)]
      · rw [if_neg c2,if_neg (by omega),if_neg (by omega),s2 _ hk,if_neg (by omega),if_neg (by omega)]
  · obtain⟨s1,s2⟩:=hf (m'-i) (m'+j-i) i e (by omega) (by omega) (by omega) (by omega) (by omega)
    refine⟨hp _ _ _ _ (by omega) (by omega) (by omega) (by omega) (by omega),⟨by omega,by omega,by omega,by omega,h9.trans s1,fun k hk=> ?_⟩,by omega⟩
    rw [h10 k hk]
    generalize (f (m'-i,m'+j-i,i,e,())).1=e' at s1 s2 ⊢
    by_cases c1:m'-i≤k∧k<m'-i+j
    · rw [if_pos c1]
      by_cases c3:k<m'-i+(j-i)
      · rw [if_pos (by omega),s2 _ (by omega)]
        by_cases c4:k<m'
        · by_cases c5:k+i<m'+j-i
          · rw [if_neg (by omega),if_neg (by omega)]
          · exfalso;omega
        · by_cases c5:k+i<m'+j-i
          · rw [if_neg (by omega),if_neg (by omega)]
          · exfalso;omega
      · by_cases c6:k<m'
        · rw [if_neg (by omega),if_pos (by omega),s2 _ (by omega),if_pos (by omega)];congr 2;omega
        · rw [if_neg (by omega),if_pos (by omega),s2 _ (by omega)]
          by_cases c7:k- (j-i)<m'
          · rw [if_pos (by omega)];congr 2;omega
          · exfalso;omega
    · rw [if_neg c1]
      by_cases c2:m'-i+j≤k∧k<m'+j
      · rw [if_pos c2,if_neg (by omega),if_neg (by omega),s2 _ hk,if_neg (by omega),if_pos (by omega)];congr 2;omega
      · rw [if_neg c2,if_neg (by omega),if_neg (by omega),s2 _ hk,if_neg (by omega),if_neg (by omega)]
  · have hij:i=j:=by omega
    subst hij
    obtain⟨s1,s2⟩:=hf (m'-i) m' i e (by omega) (by omega) (by omega) (by omega) (by omega)
    refine⟨hp _ _ _ _ (by omega) (by omega) (by omega) (by omega) (by omega),h9.trans s1,fun k hk=> ?_⟩
    rw [h10 k hk,s2 k hk]
    repeat' split
    all_goals first | rfl | (exfalso;omega) | (congr 2;omega)
def mX (d:List aj) (a b:Int):Prop:=∀p q,a≤p→p≤q→q<b→le ((d).getD (p).toNat default) ((d).getD (q).toNat default)
def Out (d d':List aj) (a b:Int):Prop:=∀k,0≤k→(k<a∨b≤k)→((d').getD (k).toNat default)=((d).getD (k).toNat default)
theorem aae {p:aj×aj×Unit→Bool} {f:aj×aj×Unit→Int×Unit} (hp:∀x y,x.atoms.length<1000000000→p (x,y,())=true) (hf:∀x y,x.atoms.length<1000000000→f (x,y,())=(dN x.atoms y.atoms,()))
    (a b:Int) (d:List aj) (hd:Sh d) (h1:0≤a) (h2:a≤b) (h3:b≤d.length):
    IZ (std 0) p f (a,b,d,()) (fun y=>Sm d y.1∧Out d y.1 a b∧mX y.1 a b):=by
  have hlen:=hd.1
  dsimp only [IZ,Alg.cl,Alg.cg,Alg.rb,Alg.bd,Alg.l1,Tup.q,Tup.o]
  simp (disch:=omega) only [RR]
  refine ay (fun(y:Int×Int×Int×List aj×Unit)=>y.1=a∧y.2.1=b∧a+1≤y.2.2.1∧(y.2.2.1≤b∨y.2.2.1=a+1)∧Sm d y.2.2.2.1∧Out d y.2.2.2.1 a b∧mX y.2.2.2.1 a y.2.2.1) (fun y=>(b-y.2.2.1).toNat)
    ⟨rfl,rfl,by simp,Or.inr rfl,Sm.refl d,fun k _ _=>rfl,fun p q h1 h2 h3=>by dsimp only at h3;rw [show p=q by omega];exact le_refl _⟩ ?_
  rintro⟨(a':Int),(b':Int),(i:Int),(e:List aj),⟨⟩⟩ hI
  dsimp only at hI ⊢
  obtain⟨rfl,rfl,h4,h5,h6,h7,h8⟩:=hI
  have hle:=h6.1
  simp (disch:=omega) only [RR]
  refine⟨fun h9=> ?_,fun h9=>⟨h6,h7,fun p q g1 g2 g3=>h8 p q g1 g2 (by omega)⟩⟩
  refine ay (fun(y:Int×Int×Int×Int×List aj×Unit)=>y.1=a'∧y.2.1=b'∧y.2.2.1=i∧a'≤y.2.2.2.1∧y.2.2.2.1≤i∧Sm d y.2.2.2.2.1∧Out d y.2.2.2.2.1 a' b'
      ∧(∀p q,a'≤p→p≤q→q≤i→p≠y.2.2.2.1→q≠y.2.2.2.1→le ((y.2.2.2.2.1).getD (p).toNat default) ((y.2.2.2.2.1).getD (q).toNat default))∧(∀q,y.2.2.2.1<q→q≤i→le ((y.2.2.2.2.1).getD (y.2.2.2.1).toNat default) ((y.2.2.2.2.1).getD (q).toNat default))) (fun y=>y.2.2.2.1.toNat)
    ⟨rfl,rfl,rfl,by simp;omega,by simp,h6,h7,fun p q g1 g2 g3 g4 g5=>h8 p q g1 g2 (by dsimp only at g3 g5;omega),fun q g1 g2=>by dsimp only at g1;omega⟩ ?_
  rintro⟨(a'':Int),(b'':Int),(i':Int),(j:Int),(e':List aj),⟨⟩⟩ hI
  dsimp only at hI ⊢
  obtain⟨rfl,rfl,rfl,h10,h11,h12,h13,h14,h15⟩:=hI
  have hle':=h12.1
  have hs:=h12.sh hd
  simp (disch:=omega) only [RR,List.length_set,hp _ _ (hs.at _),hf _ _ (hs.at _)]
  have e1:(e'.set j.toNat ((e').getD (j-1).toNat default)).set (j-1).toNat ((e').getD (j).toNat default)=swp e' j (j-1):=rfl
  rw [e1]
  repeat' (refine And.intro ?_ ?_)
  all_goals try omega
  · intro ⟨g1,g2⟩
    repeat' (refine And.intro ?_ ?_)
    all_goals try omega
    · exact h12.trans (MI (by omega) (by omega) (by omega) (by omega))
    · intro k hk hk2
      rw [wP (by omega) (by omega) (by omega) (by omega) hk,if_neg (by omega),if_neg (by omega)]
      exact h13 k hk hk2
    · intro p q k1 k2 k3 k4 k5
      rw [wP (by omega) (by omega) (by omega) (by omega) (by omega),if_neg k4,wP (by omega) (by omega) (by omega) (by omega) (by omega),if_neg k5]
      by_cases c1:p=j
      · rw [if_pos c1]
        by_cases c2:q=j
        · rw [if_pos c2];exact le_refl _
        · rw [if_neg c2];exact h14 _ _ (by omega) (by omega) (by omega) (by omega) (by omega)
      · rw [if_neg c1]
        by_cases c2:q=j
        · rw [if_pos c2];exact h14 _ _ (by omega) (by omega) (by omega) (by omega) (by omega)
        · rw [if_neg c2];exact h14 _ _ (by omega) (by omega) (by omega) (by omega) (by omega)
    · intro q k1 k2
      rw [wP (by omega) (by omega) (by omega) (by omega) (by omega),if_pos rfl,wP (by omega) (by omega) (by omega) (by omega) (by omega),if_neg (by omega)]
      by_cases c2:q=j
      · rw [if_pos c2];exact le_of_lt g2
      · rw [if_neg c2];exact h15 q (by omega) k2
  · intro g
    refine⟨⟨by omega,by omega,h12,h13,?_⟩,by omega⟩
    have hj:a''<j→le ((e').getD (j-1).toNat default) ((e').getD (j).toNat default):=fun c=>sZ (by
      simp only [decide_eq_true c,Bool.true_and,decide_eq_false_iff_not]at g;exact g)
    intro p q k1 k2 k3
    by_cases c1:p=j
    · subst c1
      by_cases c2:q=p
      · rw [c2];exact le_refl _
      · exact h15 q (by omega) (by omega)
    · by_cases c2:q=j
      · subst c2
        by_cases c3:p=q-1
        · rw [c3];exact hj (by omega)
        · exact(h14 p (q-1) k1 (by omega) (by omega) c1 (by omega)).trans (hj (by omega))
      · exact h14 p q k1 k2 (by omega) c1 c2
end Go.TX.F
namespace Go.TX.F
open Go Go.AE Go.TX
theorem half {x:Int} (h1:0≤x) (h2:x≤4000000000):IntKind.i64.wrap (jO .shr .u64 (IntKind.u64.wrap x) 1)=x/2:=by
  have e1:IntKind.u64.wrap x=x:=by simp [IntKind.wrap,IntKind.bits,IntKind.signed];omega
  have e2:jO .shr .u64 x 1=x/2:=by
    show x.fdiv (2^ (min (Int.toNat 1) IntKind.u64.bits))=x/2
    rw [show(2:Int)^ (min (Int.toNat 1) IntKind.u64.bits)=2 by decide,Int.fdiv_eq_ediv_of_nonneg _ (by omega)]
  rw [e1,e2,w64 (by omega) (by omega)]
structure Mrg (d d':List aj) (a b:Int):Prop where
  sm:Sm d d'
  out:Out d d' a b
  ins:∀k,a≤k→k<b→∃j,a≤j∧j<b∧((d').getD (k).toNat default)=((d).getD (j).toNat default)
  srt:mX d' a b
structure Dn (a m b:Int) (d:List aj):Prop where
  sh:Sh d
  h1:0≤a
  h2:a<m
  h3:m<b
  h4:b≤d.length
  s1:mX d a m
  s2:mX d m b
theorem Dp {P Q:Prop} [Decidable P] [Decidable Q]:((decide P&&decide Q)=false)↔¬(P∧Q):=by by_cases h1:P<;>by_cases h2:Q<;>simp [h1,h2]
theorem Ra {p2:Int×Int×Int×List aj×Unit→Bool} {f2:Int×Int×Int×List aj×Unit→List aj×Unit}
    (hp2:∀(a m b:Int) (d:List aj),d.length<1000000000→0≤a→a<m→m<b→b≤d.length→p2 (a,m,b,d,())=true) (hf2:∀(a m b:Int) (d:List aj),d.length<1000000000→0≤a→a<m→m<b→b≤d.length→Rot d (f2 (a,m,b,d,())).1 a m b)
    {p3:Int×Int×Int×List aj×Unit→Bool} {f3:Int×Int×Int×List aj×Unit→List aj×Unit}
    (K:Int) (hp3:∀(a m b:Int) (d:List aj),Dn a m b d→b-a<K→p3 (a,m,b,d,())=true) (hf3:∀(a m b:Int) (d:List aj),Dn a m b d→b-a<K→Mrg d (f3 (a,m,b,d,())).1 a b)
    (a m b mid i E:Int) (d:List aj) (hd:Dn a m b d) (hK:b-a≤K) (hmid:mid=(a+b)/2) (hE:E=mid+m-i)
    (b1:a≤i) (b2:i≤m) (b3:m≤E) (b4:E≤b) (b5:a<mid) (b6:mid<b)
    (fA:i=a∨E=b∨le ((d).getD (i-1).toNat default) ((d).getD (E).toNat default)) (fB:E=m∨i=m∨le ((d).getD (E-1).toNat default) ((d).getD (i).toNat default)):
      (i<m∧m<E→
          p2 (i,m,E,d,())=true∧
            (a<i∧i<mid→
                p3 (a,i,mid,(f2 (i,m,E,d,())).fst,())=true∧
                  (mid<E∧E<b→
                      p3 (mid,E,b,(f3 (a,i,mid,(f2 (i,m,E,d,())).fst,())).fst,())=true∧
                        Mrg d (f3 (mid,E,b,(f3 (a,i,mid,(f2 (i,m,E,d,())).fst,())).fst,())).fst
                          a b)∧
                    ((decide (mid<E)&&decide (E<b))=false→
                      Mrg d (f3 (a,i,mid,(f2 (i,m,E,d,())).fst,())).fst a b))∧
              ((decide (a<i)&&decide (i<mid))=false→
                (mid<E∧E<b→
                    p3 (mid,E,b,(f2 (i,m,E,d,())).fst,())=true∧
                      Mrg d (f3 (mid,E,b,(f2 (i,m,E,d,())).fst,())).fst a b)∧
                  ((decide (mid<E)&&decide (E<b))=false→
                    Mrg d (f2 (i,m,E,d,())).fst a b)))∧
        ((decide (i<m)&&decide (m<E))=false→
          (a<i∧i<mid→
              p3 (a,i,mid,d,())=true∧
                (mid<E∧E<b→
                    p3 (mid,E,b,(f3 (a,i,mid,d,())).fst,())=true∧
                      Mrg d (f3 (mid,E,b,(f3 (a,i,mid,d,())).fst,())).fst a b)∧
                  ((decide (mid<E)&&decide (E<b))=false→
                    Mrg d (f3 (a,i,mid,d,())).fst a b))∧
            ((decide (a<i)&&decide (i<mid))=false→
              (mid<E∧E<b→
                  p3 (mid,E,b,d,())=true∧Mrg d (f3 (mid,E,b,d,())).fst a b)∧
                ((decide (mid<E)&&decide (E<b))=false→Mrg d d a b))):=by
  obtain⟨hs,h1,h2,h3,h4,hA,hB⟩:=hd
  have hlen:=hs.1
  have cross:∀x y,((a≤x∧x<i)∨(m≤x∧x<E))→((i≤y∧y<m)∨(E≤y∧y<b))→le ((d).getD (x).toNat default) ((d).getD (y).toNat default):=by
    rintro x y (hx | hx) (hy | hy)
    · exact hA x y hx.1 (by omega) hy.2
    · rcases fA with fA | fA | fA
      · omega
      · omega
      · exact((hA x (i-1) hx.1 (by omega) (by omega)).trans fA).trans (hB E y b3 hy.1 hy.2)
    · rcases fB with fB | fB | fB
      · omega
      · omega
      · exact((hB x (E-1) hx.1 (by omega) (by omega)).trans fB).trans (hA i y b1 hy.1 hy.2)
    · exact hB x y hx.1 (by omega) hy.2
  have ap9 : ∀ e, Rot d e i m E → ∀ R : Prop, R = Mrg d e a b → (a < i ∧ i < mid →
              p3 (a,i,mid,e,())=true∧
                (mid<E∧E<b→
                    p3 (mid,E,b,(f3 (a,i,mid,e,())).fst,())=true∧
                      Mrg d (f3 (mid,E,b,(f3 (a,i,mid,e,())).fst,())).fst a b)∧
                  ((decide (mid<E)&&decide (E<b))=false→
                    Mrg d (f3 (a,i,mid,e,())).fst a b))∧
            ((decide (a<i)&&decide (i<mid))=false→
              (mid<E∧E<b→
                  p3 (mid,E,b,e,())=true∧Mrg d (f3 (mid,E,b,e,())).fst a b)∧
                ((decide (mid<E)&&decide (E<b))=false→R)):=by
    rintro e ⟨r1,r2⟩ R rfl
    have hle:=r1.1
    have hes:=r1.sh hs
    have lo:∀k,a≤k→k<mid→∃x,((a≤x∧x<i)∨(m≤x∧x<E))∧((e).getD (k).toNat default)=((d).getD (x).toNat default):=by
      intro k k1 k2
      rw [r2 k (by omega)]
      by_cases c1:i≤k∧k<i+(E-m)
      · rw [if_pos c1];exact⟨k+(m-i),by omega,rfl⟩
      · rw [if_neg c1,if_neg (by omega)];exact⟨k,by omega,rfl⟩
    have hi:∀k,mid≤k→k<b→∃x,((i≤x∧x<m)∨(E≤x∧x<b))∧((e).getD (k).toNat default)=((d).getD (x).toNat default):=by
      intro k k1 k2
      rw [r2 k (by omega),if_neg (by omega)]
      by_cases c1:i+(E-m)≤k∧k<E
      · rw [if_pos c1];exact⟨k- (E-m),by omega,rfl⟩
      · rw [if_neg c1];exact⟨k,by omega,rfl⟩
    have S1:mX e a i:=by
      intro p q q1 q2 q3
      rw [r2 p (by omega),r2 q (by omega),if_neg (by omega),if_neg (by omega),if_neg (by omega),if_neg (by omega)]
      exact hA p q q1 q2 (by omega)
    have S2:mX e i mid:=by
      intro p q q1 q2 q3
      rw [r2 p (by omega),r2 q (by omega),if_pos (by omega),if_pos (by omega)]
      exact hB _ _ (by omega) (by omega) (by omega)
    have S3:mX e mid E:=by
      intro p q q1 q2 q3
      rw [r2 p (by omega),r2 q (by omega),if_neg (by omega),if_pos (by omega),if_neg (by omega),if_pos (by omega)]
      exact hA _ _ (by omega) (by omega) (by omega)
    have S4:mX e E b:=by
      intro p q q1 q2 q3
      rw [r2 p (by omega),r2 q (by omega),if_neg (by omega),if_neg (by omega),if_neg (by omega),if_neg (by omega)]
      exact hB _ _ (by omega) (by omega) (by omega)
    have fin:∀e1 e2,Mrg e e1 a mid→Mrg e1 e2 mid b→Mrg d e2 a b:=by
      intro e1 e2 m1 m2
      refine⟨(r1.trans m1.sm).trans m2.sm,fun k k1 k2=> ?_,fun k k1 k2=> ?_,fun p q q1 q2 q3=> ?_⟩
      · rw [m2.out k k1 (by omega),m1.out k k1 (by omega),r2 k k1,if_neg (by omega),if_neg (by omega)]
      · by_cases c:k<mid
        · rw [m2.out k (by omega) (by omega)]
          obtain⟨j,j1,j2,j3⟩:=m1.ins k k1 c
          obtain⟨x,x1,x2⟩:=lo j j1 j2
          rw [j3,x2];exact⟨x,by omega,by omega,rfl⟩
        · obtain⟨j,j1,j2,j3⟩:=m2.ins k (by omega) k2
          rw [j3,m1.out j (by omega) (by omega)]
          obtain⟨x,x1,x2⟩:=hi j j1 j2
          rw [x2];exact⟨x,by omega,by omega,rfl⟩
      · by_cases c:q<mid
        · rw [m2.out p (by omega) (by omega),m2.out q (by omega) (by omega)];exact m1.srt p q q1 q2 c
        · by_cases c2:mid≤p
          · exact m2.srt p q c2 q2 q3
          · rw [m2.out p (by omega) (by omega)]
            obtain⟨j,j1,j2,j3⟩:=m1.ins p q1 (by omega)
            obtain⟨x,x1,x2⟩:=lo j j1 j2
            obtain⟨j',j1',j2',j3'⟩:=m2.ins q (by omega) q3
            obtain⟨x',x1',x2'⟩:=hi j' j1' j2'
            rw [j3,x2,j3',m1.out j' (by omega) (by omega),x2']
            exact cross x x' x1 x1'
    have triv:∀e' a' b',mX e' a' b'→Mrg e' e' a' b':=fun e' a' b' h=>⟨Sm.refl _,fun _ _ _=>rfl,fun k k1 k2=>⟨k,k1,k2,rfl⟩,h⟩
    have last : ∀ e1, Mrg e e1 a mid → (mid < E ∧ E < b →
                    p3 (mid,E,b,e1,())=true∧
                      Mrg d (f3 (mid,E,b,e1,())).fst a b)∧
                  ((decide (mid<E)&&decide (E<b))=false→
                    Mrg d e1 a b):=by
      intro e1 m1
      have hle1:=m1.sm.1
      have O:∀a' b',mid≤a'→b'≤b→mX e a' b'→mX e1 a' b':=fun a' b' g1 g2 g p q q1 q2 q3=>by
        rw [m1.out p (by omega) (by omega),m1.out q (by omega) (by omega)];exact g p q q1 q2 q3
      refine⟨fun c=> ?_,fun c=> ?_⟩
      · have pre:Dn mid E b e1:=⟨m1.sm.sh hes,by omega,c.1,c.2,by omega,O _ _ (by omega) (by omega) S3,O _ _ (by omega) (by omega) S4⟩
        exact⟨hp3 _ _ _ _ pre (by omega),fin _ _ m1 (hf3 _ _ _ _ pre (by omega))⟩
      · rw [Dp]at c
        refine fin _ _ m1 (triv _ _ _ ?_)
        by_cases c2:mid<E
        · have:E=b:=by omega
          subst this;exact O _ _ (by omega) (by omega) S3
        · have:E=mid:=by omega
          rw [this]at S4;exact O _ _ (by omega) (by omega) S4
    refine⟨fun c=> ?_,fun c=> ?_⟩
    · have pre:Dn a i mid e:=⟨hes,by omega,c.1,c.2,by omega,S1,S2⟩
      exact⟨hp3 _ _ _ _ pre (by omega),last _ (hf3 _ _ _ _ pre (by omega))⟩
    · rw [Dp]at c
      refine last e (triv _ _ _ ?_)
      by_cases c2:a<i
      · have:i=mid:=by omega
        rw [←this];exact S1
      · have:i=a:=by omega
        rw [this]at S2;exact S2
  refine⟨fun c=>⟨hp2 _ _ _ _ hlen (by omega) c.1 c.2 (by omega),ap9 _ (hf2 _ _ _ _ hlen (by omega) c.1 c.2 (by omega)) _ rfl⟩,fun c=>ap9 d ?_ _ rfl⟩
  rw [Dp]at c
  refine⟨Sm.refl _,fun k k1=> ?_⟩
  repeat' split
  all_goals first | rfl | (exfalso;omega) | (congr 2;omega)
theorem ams {p:aj×aj×Unit→Bool} {f:aj×aj×Unit→Int×Unit} (hp:∀x y,x.atoms.length<1000000000→p (x,y,())=true) (hf:∀x y,x.atoms.length<1000000000→f (x,y,())=(dN x.atoms y.atoms,()))
    {p2:Int×Int×Int×List aj×Unit→Bool} {f2:Int×Int×Int×List aj×Unit→List aj×Unit}
    (hp2:∀(a m b:Int) (d:List aj),d.length<1000000000→0≤a→a<m→m<b→b≤d.length→p2 (a,m,b,d,())=true) (hf2:∀(a m b:Int) (d:List aj),d.length<1000000000→0≤a→a<m→m<b→b≤d.length→Rot d (f2 (a,m,b,d,())).1 a m b)
    {p3:Int×Int×Int×List aj×Unit→Bool} {f3:Int×Int×Int×List aj×Unit→List aj×Unit}
    (K:Int) (hp3:∀(a m b:Int) (d:List aj),Dn a m b d→b-a<K→p3 (a,m,b,d,())=true) (hf3:∀(a m b:Int) (d:List aj),Dn a m b d→b-a<K→Mrg d (f3 (a,m,b,d,())).1 a b)
    (a m b:Int) (d:List aj) (hd:Dn a m b d) (hK:b-a≤K):
    I6 (std 0) p f p2 f2 p3 f3 (a,m,b,d,()) (fun y=>Mrg d y.1 a b):=by
  obtain⟨hs,h1,h2,h3,h4,hA,hB⟩:=hd
  have hlen:=hs.1
  dsimp only [I6,Alg.cl,Alg.cg,Alg.rb,Alg.bd,Alg.l1,Tup.q,Tup.o]
  simp (disch:=omega) only [RR]
  refine⟨fun h5=> ?_,fun h5=>⟨fun h6=> ?_,fun h6=> ?_⟩⟩
  ·
    have hm:m=a+1:=by omega
    subst hm
    refine ay (fun(y:Int×Int×Int×List aj×Unit)=>y.1=a∧y.2.2.2.1=d∧a+1≤y.2.1∧y.2.1≤y.2.2.1∧y.2.2.1≤b∧(∀q,a+1≤q→q<y.2.1→dN ((d).getD (q).toNat default).atoms ((d).getD (a).toNat default).atoms<0)∧(∀q,y.2.2.1≤q→q<b→¬dN ((d).getD (q).toNat default).atoms ((d).getD (a).toNat default).atoms<0)) (fun y=>(y.2.2.1-y.2.1).toNat)
      ⟨rfl,rfl,by simp,by simp;omega,by simp,fun q g1 g2=>by dsimp only at g2;omega,fun q g1 g2=>by dsimp only at g1;omega⟩ ?_
    rintro⟨(a':Int),(i:Int),(j:Int),(d':List aj),⟨⟩⟩ hI
    dsimp only at hI ⊢
    obtain⟨rfl,rfl,g1,g2,g3,g4,g5⟩:=hI
    simp (disch:=omega) only [RR,half,hp _ _ (hs.at _),hf _ _ (hs.at _)]
    refine⟨fun g6=>⟨by omega,by omega,by omega,by omega,by omega,by omega,by omega,by omega,by omega,fun g7=>⟨⟨by omega,by omega,by omega,fun q k1 k2=> ?_,g5⟩,by omega⟩,fun g7=>⟨⟨by omega,by omega,by omega,g4,fun q k1 k2=> ?_⟩,by omega⟩⟩,fun g6=> ?_⟩
    · exact dR (hB q ((i+j)/2) k1 (by omega) (by omega)) g7
    · intro g8;exact g7 (dR (hB ((i+j)/2) q (by omega) (by omega) k2) g8)
    have hij:i=j:=by omega
    subst hij
    refine ay (fun(y:Int×Int×List aj×Unit)=>y.1=i∧a'≤y.2.1∧y.2.1≤i-1∧Sm d' y.2.2.1∧(∀k,0≤k→((y.2.2.1).getD (k).toNat default)=if a'≤k∧k<y.2.1 then((d').getD (k+1).toNat default)else if k=y.2.1 then((d').getD (a').toNat default)else((d').getD (k).toNat default))) (fun y=>(i-y.2.1).toNat)
      ⟨rfl,by simp,by simp;omega,Sm.refl _,fun k hk=>by dsimp only;rw [if_neg (by omega)];split;(· congr 2);(· rfl)⟩ ?_
    rintro⟨(i':Int),(k:Int),(e:List aj),⟨⟩⟩ hI
    dsimp only at hI ⊢
    obtain⟨rfl,k1,k2,k3,k4⟩:=hI
    have hle:=k3.1
    simp (disch:=omega) only [RR,List.length_set]
    have e1:(e.set k.toNat ((e).getD (k+1).toNat default)).set (k+1).toNat ((e).getD (k).toNat default)=swp e k (k+1):=rfl
    rw [e1]
    refine⟨fun g7=>⟨by omega,by omega,by omega,by omega,by omega,by omega,by omega,by omega,by omega,by omega,by omega,by omega,by omega,by omega,by omega,by omega,⟨by omega,by omega,k3.trans (MI (by omega) (by omega) (by omega) (by omega)),fun q hq=> ?_⟩,by omega⟩,fun g7=> ?_⟩
    · rw [wP (by omega) (by omega) (by omega) (by omega) hq,k4 _ (by omega),k4 _ (by omega),k4 _ hq]
      repeat' split
      all_goals first | rfl | (exfalso;omega) | (congr 2;omega)
    · have hk:k=i'-1:=by omega
      subst hk
      refine⟨k3,fun q hq hq2=> ?_,fun q hq hq2=> ?_,fun q r q1 q2 q3=> ?_⟩
      · rw [k4 q hq,if_neg (by omega),if_neg (by omega)]
      · rw [k4 q (by omega)]
        repeat' split
        · exact⟨q+1,by omega,by omega,rfl⟩
        · exact⟨a',by omega,by omega,rfl⟩
        · exact⟨q,by omega,by omega,rfl⟩
      · rw [k4 q (by omega),k4 r (by omega)]
        by_cases c1:a'≤q∧q<i'-1
        · rw [if_pos c1]
          by_cases c2:a'≤r∧r<i'-1
          · rw [if_pos c2];exact hB _ _ (by omega) (by omega) (by omega)
          · rw [if_neg c2]
            by_cases c3:r=i'-1
            · rw [if_pos c3];exact le_of_lt (g4 _ (by omega) (by omega))
            · rw [if_neg c3];exact hB _ _ (by omega) (by omega) (by omega)
        · rw [if_neg c1,if_neg (by omega:¬(a'≤r∧r<i'-1))]
          by_cases c3:q=i'-1
          · rw [if_pos c3]
            by_cases c4:r=i'-1
            · rw [if_pos c4];exact le_refl _
            · rw [if_neg c4];exact sZ (g5 r (by omega) (by omega))
          · rw [if_neg c3,if_neg (by omega)];exact hB _ _ (by omega) (by omega) (by omega)
  ·
    have hm:b=m+1:=by omega
    subst hm
    refine ay (fun(y:Int×Int×Int×List aj×Unit)=>y.1=m∧y.2.2.2.1=d∧a≤y.2.1∧y.2.1≤y.2.2.1∧y.2.2.1≤m∧(∀q,a≤q→q<y.2.1→¬dN ((d).getD (m).toNat default).atoms ((d).getD (q).toNat default).atoms<0)∧(∀q,y.2.2.1≤q→q<m→dN ((d).getD (m).toNat default).atoms ((d).getD (q).toNat default).atoms<0)) (fun y=>(y.2.2.1-y.2.1).toNat)
      ⟨rfl,rfl,by simp,by simp;omega,by simp,fun q g1 g2=>by dsimp only at g2;omega,fun q g1 g2=>by dsimp only at g1;omega⟩ ?_
    rintro⟨(m':Int),(i:Int),(j:Int),(d':List aj),⟨⟩⟩ hI
    dsimp only at hI ⊢
    obtain⟨rfl,rfl,g1,g2,g3,g4,g5⟩:=hI
    simp (disch:=omega) only [RR,half,hp _ _ (hs.at _),hf _ _ (hs.at _)]
    refine⟨fun g6=>⟨by omega,by omega,by omega,by omega,by omega,by omega,by omega,by omega,by omega,fun g7=>⟨⟨by omega,by omega,by omega,fun q k1 k2=> ?_,g5⟩,by omega⟩,fun g7=>⟨⟨by omega,by omega,by omega,g4,fun q k1 k2=> ?_⟩,by omega⟩⟩,fun g6=> ?_⟩
    · intro g8
      have:=hA q ((i+j)/2) k1 (by omega) (by omega)
      apply g7
      have h7:=ku g8 this
      exact h7
    · exact ku g7 (hA ((i+j)/2) q (by omega) (by omega) k2)
    have hij:i=j:=by omega
    subst hij
    refine ay (fun(y:Int×Int×List aj×Unit)=>y.1=i∧i≤y.2.1∧y.2.1≤m'∧Sm d' y.2.2.1∧(∀k,0≤k→((y.2.2.1).getD (k).toNat default)=if y.2.1<k∧k≤m' then((d').getD (k-1).toNat default)else if k=y.2.1 then((d').getD (m').toNat default)else((d').getD (k).toNat default))) (fun y=>(y.2.1-i).toNat)
      ⟨rfl,by simp;omega,by simp,Sm.refl _,fun k hk=>by dsimp only;rw [if_neg (by omega)];split;(· congr 2);(· rfl)⟩ ?_
    rintro⟨(i':Int),(k:Int),(e:List aj),⟨⟩⟩ hI
    dsimp only at hI ⊢
    obtain⟨rfl,k1,k2,k3,k4⟩:=hI
    have hle:=k3.1
    simp (disch:=omega) only [RR,List.length_set]
    have e1:(e.set k.toNat ((e).getD (k-1).toNat default)).set (k-1).toNat ((e).getD (k).toNat default)=swp e k (k-1):=rfl
    rw [e1]
    refine⟨fun g7=>⟨by omega,by omega,by omega,by omega,by omega,by omega,by omega,by omega,by omega,by omega,by omega,by omega,by omega,by omega,by omega,by omega,⟨by omega,by omega,k3.trans (MI (by omega) (by omega) (by omega) (by omega)),fun q hq=> ?_⟩,by omega⟩,fun g7=> ?_⟩
    · rw [wP (by omega) (by omega) (by omega) (by omega) hq,k4 _ (by omega),k4 _ (by omega),k4 _ hq]
      repeat' split
      all_goals first | rfl | (exfalso;omega) | (congr 2;omega)
    · have hk:k=i':=by omega
      subst hk
      refine⟨k3,fun q hq hq2=> ?_,fun q hq hq2=> ?_,fun q r q1 q2 q3=> ?_⟩
      · rw [k4 q hq,if_neg (by omega),if_neg (by omega)]
      · rw [k4 q (by omega)]
        repeat' split
        · exact⟨q-1,by omega,by omega,rfl⟩
        · exact⟨m',by omega,by omega,rfl⟩
        · exact⟨q,by omega,by omega,rfl⟩
      · rw [k4 q (by omega),k4 r (by omega)]
        by_cases c1:k<q∧q≤m'
        · rw [if_pos c1,if_pos (by omega)];exact hA _ _ (by omega) (by omega) (by omega)
        · rw [if_neg c1]
          by_cases c3:q=k
          · rw [if_pos c3]
            by_cases c2:k<r∧r≤m'
            · rw [if_pos c2];exact le_of_lt (g5 _ (by omega) (by omega))
            · rw [if_neg c2,if_pos (by omega)];exact le_refl _
          · rw [if_neg c3]
            by_cases c2:k<r∧r≤m'
            · rw [if_pos c2];exact hA _ _ (by omega) (by omega) (by omega)
            · rw [if_neg c2]
              by_cases c4:r=k
              · rw [if_pos c4];exact sZ (g4 _ (by omega) (by omega))
              · rw [if_neg c4];exact hA _ _ (by omega) (by omega) (by omega)
  ·
    simp (disch:=omega) only [RR,half]
    refine⟨by omega,fun h7=> ?_,fun h7=> ?_⟩
    · refine ay (fun(y:Int×Int×Int×Int×Int×Int×Int×Int×List aj×Unit)=>y.1=a∧y.2.1=m∧y.2.2.1=b∧y.2.2.2.1=(a+b)/2∧y.2.2.2.2.1=(a+b)/2+m∧y.2.2.2.2.2.2.2.1=(a+b)/2+m-1∧y.2.2.2.2.2.2.2.2.1=d∧(a+b)/2+m-b≤y.2.2.2.2.2.1∧y.2.2.2.2.2.1≤y.2.2.2.2.2.2.1∧y.2.2.2.2.2.2.1≤(a+b)/2
          ∧(∀q,(a+b)/2+m-b≤q→q<y.2.2.2.2.2.1→¬dN ((d).getD ((a+b)/2+m-1-q).toNat default).atoms ((d).getD (q).toNat default).atoms<0)∧(∀q,y.2.2.2.2.2.2.1≤q→q< (a+b)/2→dN ((d).getD ((a+b)/2+m-1-q).toNat default).atoms ((d).getD (q).toNat default).atoms<0)) (fun y=>(y.2.2.2.2.2.2.1-y.2.2.2.2.2.1).toNat)
        ⟨rfl,rfl,rfl,rfl,rfl,rfl,rfl,by simp,by simp;omega,by simp,fun q g1 g2=>by dsimp only at g2;omega,fun q g1 g2=>by dsimp only at g1;omega⟩ ?_
      rintro⟨(a':Int),(m':Int),(b':Int),(mid:Int),(n:Int),(i:Int),(j:Int),(r:Int),(d':List aj),⟨⟩⟩ hI
      dsimp only at hI ⊢
      obtain⟨rfl,rfl,rfl,hmid,hn,hr,rfl,g1,g2,g3,g4,g5⟩:=hI
      rw [←hmid]at g1 g3 g4 g5 h7
      simp (disch:=omega) only [RR,half,hp _ _ (hs.at _),hf _ _ (hs.at _)]
      refine⟨fun g6=>⟨by omega,by omega,by omega,by omega,by omega,by omega,by omega,by omega,by omega,fun g7=>⟨⟨hmid,hn,hr,by omega,by omega,by omega,fun q k1 k2=> ?_,by rw [←hmid];exact g5⟩,by omega⟩,fun g7=>⟨⟨hmid,hn,hr,by omega,by omega,by omega,by rw [←hmid];exact g4,fun q k1 k2=> ?_⟩,by omega⟩⟩,fun g6=> ?_⟩
      · rw [←hmid]at k1 ⊢
        intro g8
        apply g7
        rw [hr,←hmid]
        exact dR (hB _ _ (by omega) (by omega) (by omega)) (ku g8 (hA _ _ (by omega) (by omega) (by omega)))
      · rw [←hmid]at k2 ⊢
        rw [hr,←hmid]at g7
        exact dR (hB _ _ (by omega) (by omega) (by omega)) (ku g7 (hA _ _ (by omega) (by omega) (by omega)))
      · have hij:i=j:=by omega
        subst hij
        refine Ra hp2 hf2 K hp3 hf3 a' m' b' mid i (n-i) d' ⟨hs,h1,h2,h3,h4,hA,hB⟩ hK hmid (by omega) (by omega) (by omega) (by omega) (by omega) (by omega) (by omega) ?_ ?_
        · by_cases c:i=mid+m'-b'
          · first | exact Or.inl (by omega) | exact Or.inr (Or.inl (by omega))
          · refine Or.inr (Or.inr ?_)
            have:=g4 (i-1) (by omega) (by omega)
            rw [show mid+m'-1- (i-1)=n-i by omega]at this
            exact sZ this
        · by_cases c:i=mid
          · first | exact Or.inl (by omega) | exact Or.inr (Or.inl (by omega))
          · refine Or.inr (Or.inr ?_)
            have:=g5 i (by omega) (by omega)
            rw [show mid+m'-1-i=n-i-1 by omega]at this
            exact le_of_lt this
    · refine ay (fun(y:Int×Int×Int×Int×Int×Int×Int×Int×List aj×Unit)=>y.1=a∧y.2.1=m∧y.2.2.1=b∧y.2.2.2.1=(a+b)/2∧y.2.2.2.2.1=(a+b)/2+m∧y.2.2.2.2.2.2.2.1=(a+b)/2+m-1∧y.2.2.2.2.2.2.2.2.1=d∧a≤y.2.2.2.2.2.1∧y.2.2.2.2.2.1≤y.2.2.2.2.2.2.1∧y.2.2.2.2.2.2.1≤m
          ∧(∀q,a≤q→q<y.2.2.2.2.2.1→¬dN ((d).getD ((a+b)/2+m-1-q).toNat default).atoms ((d).getD (q).toNat default).atoms<0)∧(∀q,y.2.2.2.2.2.2.1≤q→q<m→dN ((d).getD ((a+b)/2+m-1-q).toNat default).atoms ((d).getD (q).toNat default).atoms<0)) (fun y=>(y.2.2.2.2.2.2.1-y.2.2.2.2.2.1).toNat)
        ⟨rfl,rfl,rfl,rfl,rfl,rfl,rfl,by simp,by simp;omega,by simp,fun q g1 g2=>by dsimp only at g2;omega,fun q g1 g2=>by dsimp only at g1;omega⟩ ?_
      rintro⟨(a':Int),(m':Int),(b':Int),(mid:Int),(n:Int),(i:Int),(j:Int),(r:Int),(d':List aj),⟨⟩⟩ hI
      dsimp only at hI ⊢
      obtain⟨rfl,rfl,rfl,hmid,hn,hr,rfl,g1,g2,g3,g4,g5⟩:=hI
      rw [←hmid]at g4 g5 h7
      simp (disch:=omega) only [RR,half,hp _ _ (hs.at _),hf _ _ (hs.at _)]
      refine⟨fun g6=>⟨by omega,by omega,by omega,by omega,by omega,by omega,by omega,by omega,by omega,fun g7=>⟨⟨hmid,hn,hr,by omega,by omega,by omega,fun q k1 k2=> ?_,by rw [←hmid];exact g5⟩,by omega⟩,fun g7=>⟨⟨hmid,hn,hr,by omega,by omega,by omega,by rw [←hmid];exact g4,fun q k1 k2=> ?_⟩,by omega⟩⟩,fun g6=> ?_⟩
      · rw [←hmid]
        intro g8
        apply g7
        rw [hr,←hmid]
        exact dR (hB _ _ (by omega) (by omega) (by omega)) (ku g8 (hA _ _ (by omega) (by omega) (by omega)))
      · rw [←hmid]
        rw [hr,←hmid]at g7
        exact dR (hB _ _ (by omega) (by omega) (by omega)) (ku g7 (hA _ _ (by omega) (by omega) (by omega)))
      · have hij:i=j:=by omega
        subst hij
        refine Ra hp2 hf2 K hp3 hf3 a' m' b' mid i (n-i) d' ⟨hs,h1,h2,h3,h4,hA,hB⟩ hK hmid (by omega) (by omega) (by omega) (by omega) (by omega) (by omega) (by omega) ?_ ?_
        · by_cases c:i=a'
          · first | exact Or.inl (by omega) | exact Or.inr (Or.inl (by omega))
          · refine Or.inr (Or.inr ?_)
            have:=g4 (i-1) (by omega) (by omega)
            rw [show mid+m'-1- (i-1)=n-i by omega]at this
            exact sZ this
        · by_cases c:i=m'
          · first | exact Or.inl (by omega) | exact Or.inr (Or.inl (by omega))
          · refine Or.inr (Or.inr ?_)
            have:=g5 i (by omega) (by omega)
            rw [show mid+m'-1-i=n-i-1 by omega]at this
            exact le_of_lt this
end Go.TX.F
namespace Go.TX.F
open Go Go.AE Go.TX
theorem xE {s a x:Int} (h:s ∣ a) (h1:a<x) (h2:x<a+s):¬s ∣ x:=fun h3=>by
  have:=Int.le_of_dvd (by omega) (Int.dvd_sub h3 h);omega
theorem mX.adj {d:List aj} {a b:Int} (h:∀p,a≤p→p+1<b→le ((d).getD (p).toNat default) ((d).getD (p+1).toNat default)):mX d a b:=by
  intro p q h1 h2 h3
  obtain⟨n,hn⟩:∃n:Nat,q=p+n:=⟨(q-p).toNat,by omega⟩
  subst hn
  clear h2
  induction n with
  | zero=>rw [show p+((0:Nat):Int)=p by omega];exact le_refl _
  | succ n ih=>
    have:=h (p+n) (by omega) (by omega)
    rw [show p+((n+1:Nat):Int)=p+n+1 by omega]
    exact(ih (by omega)).trans this
theorem mX.at1 {d:List aj} {a b p:Int} (h:mX d a b) (h1:a≤p) (h2:p+1<b):le ((d).getD (p).toNat default) ((d).getD (p+1).toNat default):=h p (p+1) h1 (by omega) h2
def Bl (d:List aj) (s n:Int):Prop:=∀p,0≤p→p+1<n→¬s ∣ p+1→le ((d).getD (p).toNat default) ((d).getD (p+1).toNat default)
theorem aaf {p:Int×Int×List aj×Unit→Bool} {f:Int×Int×List aj×Unit→List aj×Unit}
    (hp:∀(a b:Int) (d:List aj),Sh d→0≤a→a≤b→b≤d.length→p (a,b,d,())=true) (hf:∀(a b:Int) (d:List aj),Sh d→0≤a→a≤b→b≤d.length→Sm d (f (a,b,d,())).1∧Out d (f (a,b,d,())).1 a b∧mX (f (a,b,d,())).1 a b)
    {p3:Int×Int×Int×List aj×Unit→Bool} {f3:Int×Int×Int×List aj×Unit→List aj×Unit}
    (hp3:∀(a m b:Int) (d:List aj),Dn a m b d→p3 (a,m,b,d,())=true) (hf3:∀(a m b:Int) (d:List aj),Dn a m b d→Mrg d (f3 (a,m,b,d,())).1 a b)
    (n:Int) (d:List aj) (hd:Sh d) (hn:n=d.length):
    I9 (std 0) p f p3 f3 (n,d,()) (fun y=>Sm d y.1∧mX y.1 0 n):=by
  have hlen:=hd.1
  dsimp only [I9,Alg.cl,Alg.cg,Alg.rb,Alg.bd,Alg.l1,Tup.q,Tup.o]
  simp (disch:=omega) only [RR]
  refine ay (fun(y:Int×Int×Int×Int×List aj×Unit)=>y.1=n∧y.2.1=20∧0≤y.2.2.1∧y.2.2.1≤n∧(20:Int) ∣ y.2.2.1∧y.2.2.2.1=y.2.2.1+20∧Sm d y.2.2.2.2.1∧Bl y.2.2.2.2.1 20 y.2.2.1) (fun y=>(n+20-y.2.2.2.1).toNat)
    ⟨rfl,rfl,by simp,by simp;omega,⟨0,by simp⟩,rfl,Sm.refl _,fun p h1 h2=>by dsimp only at h2;omega⟩ ?_
  rintro⟨(n':Int),(s:Int),(a:Int),(b:Int),(e:List aj),⟨⟩⟩ hI
  dsimp only at hI ⊢
  obtain⟨rfl,rfl,h1,h2,h3,rfl,h5,h6⟩:=hI
  have hle:=h5.1
  have hs:=h5.sh hd
  simp (disch:=omega) only [RR]
  have bl:∀a c (e e':List aj),0≤a→(20:Int) ∣ a→c≤a+20→Bl e 20 a→Out e e' a c→mX e' a c→Bl e' 20 c:=by
    intro a c e e' c0 c1 c2 c3 c4 c5 q q1 q2 q3
    by_cases k1:q+1<a
    · rw [c4 q q1 (by omega),c4 (q+1) (by omega) (by omega)];exact c3 q q1 k1 q3
    · exact c5.at1 (by omega) q2
  refine⟨fun h7=> ?_,fun h7=> ?_⟩
  · obtain⟨t1,t2,t3⟩:=hf a (a+20) e hs h1 (by omega) (by omega)
    exact⟨hp a (a+20) e hs h1 (by omega) (by omega),⟨by omega,by omega,by omega,h5.trans t1,bl a (a+20) _ _ h1 h3 (by omega) h6 t2 t3⟩,by omega⟩
  obtain⟨t1,t2,t3⟩:=hf a n' e hs h1 (by omega) (by omega)
  refine⟨hp a n' e hs h1 (by omega) (by omega),?_⟩
  have t4:=bl a n' _ _ h1 h3 (by omega) h6 t2 t3
  generalize (f (a,n',e,())).1=e2 at t1 t2 t3 t4 ⊢
  have u1:=h5.trans t1
  clear t1 t2 t3 h5 h6
  refine ay (fun(y:Int×Int×List aj×Unit)=>y.1=n'∧0<y.2.1∧(y.2.1≤20∨y.2.1≤2*n')∧Sm d y.2.2.1∧Bl y.2.2.1 y.2.1 n') (fun y=>(n'-y.2.1).toNat)
    ⟨rfl,by simp,Or.inl (by simp),u1,t4⟩ ?_
  rintro⟨(n:Int),(s:Int),(e3:List aj),⟨⟩⟩ hI
  dsimp only at hI ⊢
  obtain⟨rfl,g1,g2,g3,g4⟩:=hI
  simp (disch:=omega) only [RR]
  refine⟨fun g5=> ?_,fun g5=>⟨g3,mX.adj fun q q1 q2=>g4 q q1 q2 (xE (a:=0) ⟨0,by simp⟩ (by omega) (by omega))⟩⟩
  refine ay (fun(y:Int×Int×Int×Int×List aj×Unit)=>y.1=n∧y.2.1=s∧0≤y.2.2.1∧y.2.2.1≤n∧(2*s) ∣ y.2.2.1∧y.2.2.2.1=y.2.2.1+2*s∧Sm d y.2.2.2.2.1
      ∧∀p,0≤p→p+1<n→¬(2*s) ∣ p+1→(p+1<y.2.2.1∨¬s ∣ p+1)→le ((y.2.2.2.2.1).getD (p).toNat default) ((y.2.2.2.2.1).getD (p+1).toNat default)) (fun y=>(n+2*s-y.2.2.2.1).toNat)
    ⟨rfl,rfl,by simp,by simp;omega,⟨0,by simp⟩,by simp,g3,fun q q1 q2 q3 q4=>g4 q q1 q2 (by dsimp only at q4;rcases q4 with q4 | q4;(· omega);(· exact q4))⟩ ?_
  rintro⟨(n':Int),(s':Int),(a:Int),(b:Int),(e4:List aj),⟨⟩⟩ hI
  dsimp only at hI ⊢
  obtain⟨rfl,rfl,k1,k2,k3,rfl,k5,k6⟩:=hI
  have hle:=k5.1
  have hs:=k5.sh hd
  have ks:s' ∣ a:=Int.dvd_trans ⟨2,by omega⟩ k3
  simp (disch:=omega) only [RR]
  have blk:∀x,x≤n'→a+s'<x→x≤a+2*s'→Dn a (a+s') x e4:=fun x x1 x2 x3=>
    ⟨hs,k1,by omega,x2,by omega,mX.adj fun q q1 q2=>by
      refine k6 q (by omega) (by omega) (xE k3 (by omega) (by omega)) (Or.inr (xE ks (by omega) (by omega))),
      mX.adj fun q q1 q2=>by
      refine k6 q (by omega) (by omega) (xE k3 (by omega) (by omega)) (Or.inr (xE (Int.dvd_add ks (Int.dvd_refl s')) (by omega) (by omega)))⟩
  have stp:∀x e5,x≤n'→(x=a+2*s'∨x=n')→x≤a+2*s'→Mrg e4 e5 a x→∀p,0≤p→p+1<n'→¬(2*s') ∣ p+1→(p+1<x∨¬s' ∣ p+1)→le ((e5).getD (p).toNat default) ((e5).getD (p+1).toNat default):=by
    intro x e5 x1 x2 x3 m1 q q1 q2 q3 q4
    by_cases c1:q+1<a
    · rw [m1.out q q1 (by omega),m1.out (q+1) (by omega) (by omega)];exact k6 q q1 q2 q3 (Or.inl c1)
    · by_cases c2:q+1=a
      · rw [c2]at q3;exact absurd k3 q3
      · by_cases c3:q+1<x
        · exact m1.srt.at1 (by omega) c3
        · by_cases c4:q+1=x
          · exfalso
            rcases x2 with x2 | x2
            · rw [c4,x2]at q3;exact q3 (Int.dvd_add k3 (Int.dvd_refl _))
            · omega
          · rw [m1.out q q1 (by omega),m1.out (q+1) (by omega) (by omega)]
            refine k6 q q1 q2 q3 (Or.inr ?_)
            rcases q4 with q4 | q4
            · omega
            · exact q4
  refine⟨fun k7=> ?_,fun k7=>⟨fun k8=> ?_,fun k8=> ?_⟩⟩
  · have pre:=blk (a+2*s') k7 (by omega) (by omega)
    have m1:=hf3 _ _ _ _ pre
    exact⟨hp3 _ _ _ _ pre,⟨by omega,by omega,Int.dvd_add k3 (Int.dvd_refl _),k5.trans m1.sm,stp _ _ k7 (Or.inl rfl) (by omega) m1⟩,by omega⟩
  · have pre:=blk n' (by omega) k8 (by omega)
    have m1:=hf3 _ _ _ _ pre
    refine⟨hp3 _ _ _ _ pre,⟨by omega,Or.inr (by omega),k5.trans m1.sm,fun q q1 q2 q3=> ?_⟩,by omega⟩
    exact stp _ _ (by omega) (Or.inr rfl) (by omega) m1 q q1 q2 (by rw [Int.mul_comm];exact q3) (Or.inl q2)
  · refine⟨⟨by omega,Or.inr (by omega),k5,fun q q1 q2 q3=> ?_⟩,by omega⟩
    rw [Int.mul_comm]at q3
    by_cases c1:q+1<a
    · exact k6 q q1 q2 q3 (Or.inl c1)
    · by_cases c2:q+1=a
      · rw [c2]at q3;exact absurd k3 q3
      · exact k6 q q1 q2 q3 (Or.inr (xE ks (by omega) (by omega)))
theorem aag {p:Int×List aj×Unit→Bool} {f:Int×List aj×Unit→List aj×Unit} (hp:∀(n:Int) (d:List aj),Sh d→n=d.length→p (n,d,())=true)
    (hf:∀(n:Int) (d:List aj),Sh d→n=d.length→Sm d (f (n,d,())).1∧mX (f (n,d,())).1 0 n) (d:List aj) (hd:Sh d):
    Ja (std 0) p f (d,()) (fun y=>Sm d y.1∧mX y.1 0 d.length):=by
  have:=hf _ d hd rfl
  dsimp only [Ja,Alg.cl,Alg.cg,Alg.rb,Alg.bd,Alg.l1,Tup.q,Tup.o]
  exact⟨hp _ d hd rfl,this⟩
end Go.TX.F
namespace Go.TX.F
open Go Go.AE Go.TX
def cf (l:List aj) (k:List Int):Int:=(l.map fun m=>if m.atoms=k then m.bK else 0).sum
theorem lI (k:List Int):cf [] k=0:=rfl
theorem dz (m:aj) (l:List aj) (k:List Int):cf (m::l) k=(if m.atoms=k then m.bK else 0)+cf l k:=by simp [cf]
theorem dF (a b:List aj) (k:List Int):cf (a++b) k=cf a k+cf b k:=by simp [cf]
theorem jl {k:List Int}:∀ {l:List aj},(∀m∈l,m.atoms≠k)→cf l k=0
  | [],_=>rfl
  | m::l,h=>by rw [dz,if_neg (h m (by simp)),jl (fun m hm=>h m (by simp [hm]))];rfl
theorem Sm.cf {a b:List aj} (h:Sm a b) (k:List Int):cf b k=cf a k:=h.sum _
def lt (a b:aj):Prop:=dN a.atoms b.atoms<0
theorem lt.ne {a b:aj} (h:lt a b):a.atoms≠b.atoms:=fun e=>by unfold lt at h;rw [e,ko.2 rfl]at h;omega
structure Nf (o:List aj):Prop where
  ss:o.Pairwise lt
  co:∀m∈o,1≤m.bK∧m.bK≤65535
theorem VY:∀ {o1 o2:List aj},Nf o1→Nf o2→(∀k,cf o1 k=cf o2 k)→o1=o2
  | [],[],_,_,_=>rfl
  | [],m::o,_,h2,h=>by
    have:=h m.atoms
    rw [dz,if_pos rfl,jl (fun m' hm'=>((List.rel_of_pairwise_cons h2.ss hm').ne).symm),lI]at this
    have:=(h2.co m (by simp));omega
  | m::o,[],h1,_,h=>by
    have:=h m.atoms
    rw [dz,if_pos rfl,jl (fun m' hm'=>((List.rel_of_pairwise_cons h1.ss hm').ne).symm),lI]at this
    have:=(h1.co m (by simp));omega
  | m1::o1,m2::o2,h1,h2,h=>by
    have c1:=h1.co m1 (by simp)
    have c2:=h2.co m2 (by simp)
    have z1:cf o1 m1.atoms=0:=jl fun m' hm'=>((List.rel_of_pairwise_cons h1.ss hm').ne).symm
    have z2:cf o2 m2.atoms=0:=jl fun m' hm'=>((List.rel_of_pairwise_cons h2.ss hm').ne).symm
    have tr:∀ {a b c:aj},lt a b→lt b c→lt a c:=fun g1 g2=>dR (le_of_lt g1) g2
    have e:m1.atoms=m2.atoms:=by
      by_cases g1:lt m1 m2
      · have:=h m1.atoms
        rw [dz,if_pos rfl,z1,dz,if_neg (fun e=>g1.ne e.symm),jl (fun m' hm'=>((tr g1 (List.rel_of_pairwise_cons h2.ss hm')).ne).symm)]at this
        omega
      · by_cases g2:lt m2 m1
        · have:=h m2.atoms
          rw [dz,if_neg (fun e=>g2.ne e.symm),jl (fun m' hm'=>((tr g2 (List.rel_of_pairwise_cons h1.ss hm')).ne).symm),dz,if_pos rfl,z2]at this
          omega
        · unfold lt at g1 g2
          rw [sW]at g2
          exact ko.1 (by omega)
    have ec:m1.bK=m2.bK:=by
      have:=h m1.atoms
      rw [dz,if_pos rfl,z1,dz,if_pos e.symm,e,z2]at this;omega
    have em:m1=m2:=by cases m1;cases m2;simp_all
    subst em
    refine congrArg _ (VY ⟨h1.ss.tail,fun m hm=>h1.co m (by simp [hm])⟩ ⟨h2.ss.tail,fun m hm=>h2.co m (by simp [hm])⟩ (fun k=>by
      have:=h k;rw [dz,dz]at this;omega))
noncomputable def nf (l:List aj):List aj:= @dite _ (∃o,Nf o∧∀k,cf o k=cf l k%65536) (Classical.propDecidable _) (fun h=>Classical.choose h) (fun _=> [])
theorem VZ {l o:List aj} (h:Nf o) (h2:∀k,cf o k=cf l k%65536):nf l=o:=by
  have he:∃o,Nf o∧∀k,cf o k=cf l k%65536:=⟨o,h,h2⟩
  unfold nf;rw [dif_pos he]
  have:=Classical.choose_spec he
  exact VY this.1 h (fun k=>(this.2 k).trans (h2 k).symm)
noncomputable def rP (l:List aj):Bool×List aj:=(bp (aN (nf l)),if bp (aN (nf l))then nf l else [])
def Cb (l:List aj):Prop:=∀m∈l,0≤m.bK∧m.bK≤65535
theorem agz {p1:List Int×List Int×Unit→Bool} {f1:List Int×List Int×Unit→Int×Unit} (hp1:∀a b,a.length<1000000000→p1 (a,b,())=true) (hf1:∀a b,a.length<1000000000→f1 (a,b,())=(dN a b,()))
    {p2:List aj×Unit→Bool} {f2:List aj×Unit→Bool×Unit} (hp2:∀a,Sh a→p2 (a,())=true) (hf2:∀a,Sh a→f2 (a,())=(bp (aN a),()))
    {p3:Int×Unit→Bool} {f3:Int×Unit→Int×Unit} (hp3:∀a,p3 (a,())=true) (hf3:∀a,f3 (a,())=(a%65536,()))
    {p4:List Int×Unit→Bool} {f4:List Int×Unit→List Int×Unit} (hp4:∀a,a.length≤1073741824→p4 (a,())=true) (hf4:∀a,a.length≤1073741824→f4 (a,())=(a,()))
    {p5:List aj×Unit→Bool} {f5:List aj×Unit→List aj×Unit} (hp5:∀d,Sh d→p5 (d,())=true) (hf5:∀d,Sh d→Sm d (f5 (d,())).1∧mX (f5 (d,())).1 0 d.length)
    (l:List aj) (hl:Sh l) (hc:Cb l):QS (std 0) p1 f1 p2 f2 p3 f3 p4 f4 p5 f5 (l,()) (fun y=>y.1=(rP l).1∧y.2.2.1=(rP l).2):=by
  obtain⟨s1,s2⟩:=hf5 l hl
  dsimp only [QS,Alg.cl,Alg.cg,Alg.rb,Alg.bd,Alg.l1,Tup.q,Tup.o]
  simp (disch:=omega) only [RR,hp5 l hl]
  generalize (f5 (l,())).1=d at s1 s2 ⊢
  have hle:=s1.1
  have hs:=s1.sh hl
  have hlen:=hs.1
  have hcd:Cb d:=fun m hm=>hc m (s1.mem hm)
  refine ay (fun(y:Int×List aj×List aj×Unit)=>0≤y.1∧y.1≤d.length∧y.2.1=d∧Nf y.2.2.1∧y.2.2.1.length≤y.1∧(∀k,cf y.2.2.1 k=cf (d.take y.1.toNat) k%65536)∧(∀m∈y.2.2.1,m∈y.2.2.1→m.atoms.length<1000000000)
      ∧(y.1<d.length→(∀m∈y.2.2.1,lt m ((d).getD (y.1).toNat default))∧(∀m∈d.take y.1.toNat,lt m ((d).getD (y.1).toNat default)))) (fun y=>(d.length-y.1).toNat)
    ⟨by simp,by simp,rfl,⟨List.Pairwise.nil,fun m hm=>absurd hm (by simp)⟩,by simp,fun k=>by simp [cf],fun m hm=>absurd hm (by simp),fun _=>⟨fun m hm=>absurd hm (by simp),fun m hm=>absurd hm (by simp)⟩⟩ ?_
  rintro⟨(i:Int),(d':List aj),(o:List aj),⟨⟩⟩ hI
  dsimp only at hI ⊢
  obtain⟨h1,h2,rfl,h4,h5,h6,h7,h8⟩:=hI
  have ho:Sh o:=⟨by omega,fun m hm=>h7 m hm hm⟩
  simp (disch:=omega) only [RR,hp2 o ho,hf2 o ho]
  refine⟨fun h9=>⟨by omega,by omega,by omega,by omega,?_⟩,fun h9=> ?_⟩
  · obtain⟨g1,g2⟩:=h8 h9
    have z:cf (d'.take i.toNat) ((d').getD (i).toNat default).atoms=0:=jl fun m hm=>(g2 m hm).ne
    refine ay (fun(y:Int×Int×List aj×aj×List aj×Unit)=>i≤y.1∧y.1≤d'.length∧y.2.2.1=d'∧y.2.2.2.1=((d').getD (i).toNat default)∧y.2.2.2.2.1=o∧y.2.1=cf (d'.take y.1.toNat) ((d').getD (i).toNat default).atoms%65536
        ∧(∀k,k≠((d').getD (i).toNat default).atoms→cf (d'.take y.1.toNat) k=cf (d'.take i.toNat) k)∧(∀m∈d'.take y.1.toNat,lt m ((d').getD (i).toNat default)∨m.atoms=((d').getD (i).toNat default).atoms)) (fun y=>(d'.length-y.1).toNat)
      ⟨by simp,by simp;omega,rfl,rfl,rfl,by rw [z];rfl,fun k _=>rfl,fun m hm=>Or.inl (g2 m hm)⟩ ?_
    rintro⟨(j:Int),(c:Int),(d'':List aj),(fi:aj),(o':List aj),⟨⟩⟩ hI
    dsimp only at hI ⊢
    obtain⟨k1,k2,rfl,rfl,rfl,k6,k7,k8⟩:=hI
    have hc0:0≤c∧c<65536:=by omega
    have hcj:j<d''.length→0≤((d'').getD (j).toNat default).bK∧((d'').getD (j).toNat default).bK≤65535:=fun h=>hcd _ (dM (by omega) h)
    simp (disch:=omega) only [RR,hp1 _ _ (hs.at _),hf1 _ _ (hs.at _),hp3,hf3,hp4 _ (Nat.le_trans (Nat.le_of_lt (hs.at _)) (by omega)),hf4 _ (Nat.le_trans (Nat.le_of_lt (hs.at _)) (by omega))]
    refine⟨by omega,by omega,by omega,by omega,fun⟨m1,m2⟩=> ?_,fun m1=>⟨fun m2=>⟨?_,?_,?_⟩,fun m2=>⟨?_,?_⟩⟩⟩
    · have e:=ko.1 m2
      have:=hcj m1
      rw [w64 (by omega) (by omega)]
      have ts:d''.take (j+1).toNat=d''.take j.toNat++ [((d'').getD (j).toNat default)]:=(dO (by omega) m1 rfl).symm
      refine⟨by omega,by omega,by omega,by omega,⟨by omega,by omega,?_,fun k hk=> ?_,fun m hm=> ?_⟩,by omega⟩
      · rw [ts,dF,dz,if_pos e.symm,lI,k6];omega
      · rw [ts,dF,dz,if_neg (fun h=>hk (by rw [e,h])),lI,k7 k hk];omega
      · rw [ts,List.mem_append,List.mem_singleton]at hm
        rcases hm with hm | hm
        · exact k8 m hm
        · right;rw [hm,e]
    all_goals
      have hb:j<d''.length→lt ((d'').getD (i).toNat default) ((d'').getD (j).toNat default):=fun hj=>by
        rw [decide_eq_true hj,Bool.true_and,decide_eq_false_iff_not]at m1
        have:=s2 i j h1 k1 (by omega)
        unfold le at this;unfold lt;omega
      have hij:i<j:=by
        by_cases hj:j<d''.length
        · by_cases e:i=j
          · have:=(hb hj).ne;rw [e]at this;exact absurd rfl this
          · omega
        · omega
    · simp only [List.length_append,List.length_cons,List.length_nil];omega
    · have co:∀k,cf (o'++ [⟨c,((d'').getD (i).toNat default).atoms⟩]) k=cf (d''.take j.toNat) k%65536:=fun k=>by
        rw [dF,dz,lI]
        dsimp only
        by_cases hk:((d'').getD (i).toNat default).atoms=k
        · subst hk
          rw [if_pos rfl,jl (fun m hm=>(g1 m hm).ne),k6];omega
        · rw [if_neg hk,k7 k (fun e=>hk e.symm),h6 k];omega
      refine⟨by omega,by omega,⟨?_,?_⟩,?_,co,?_,fun hj=>⟨?_,?_⟩⟩
      · rw [List.pairwise_append]
        exact⟨h4.ss,List.pairwise_singleton _ _,fun a ha b hb=>by rw [List.mem_singleton]at hb;subst hb;exact g1 a ha⟩
      · intro m hm
        rw [List.mem_append,List.mem_singleton]at hm
        rcases hm with hm | rfl
        · exact h4.co m hm
        · dsimp only;omega
      · simp only [List.length_append,List.length_cons,List.length_nil];omega
      · intro m hm _
        rw [List.mem_append,List.mem_singleton]at hm
        rcases hm with hm | rfl
        · exact h7 m hm hm
        · exact hs.at _
      · intro m hm
        rw [List.mem_append,List.mem_singleton]at hm
        rcases hm with hm | rfl
        · exact dR (le_of_lt (g1 m hm)) (hb hj)
        · exact hb hj
      · intro m hm
        rcases k8 m hm with k | k
        · exact dR (le_of_lt k) (hb hj)
        · have:=hb hj;unfold lt at this ⊢;rw [k];exact this
    · omega
    · refine⟨by omega,by omega,h4,by omega,fun k=> ?_,h7,fun hj=>⟨?_,?_⟩⟩
      · by_cases hk:((d'').getD (i).toNat default).atoms=k
        · subst hk
          rw [jl (fun m hm=>(g1 m hm).ne)];omega
        · rw [k7 k (fun e=>hk e.symm),h6 k]
      · intro m hm
        exact dR (le_of_lt (g1 m hm)) (hb hj)
      · intro m hm
        rcases k8 m hm with k | k
        · exact dR (le_of_lt k) (hb hj)
        · have:=hb hj;unfold lt at this ⊢;rw [k];exact this
    · omega
  · have e:nf l=o:=VZ h4 (fun k=>by rw [h6 k,List.take_of_length_le (by omega),s1.cf k])
    unfold rP
    rw [e]
    refine⟨fun h=> ?_,fun h=> ?_⟩
    · rw [h];exact⟨rfl,by simp⟩
    · rw [h];exact⟨rfl,by simp⟩
end Go.TX.F
namespace Go.TX.F
open Go Go.AE Go.TX
theorem aah (n:Int) (h1:0≤n) (h2:n≤1073741824):Jb (std 0) (n,()) (fun y=>y=([],())):=by
  dsimp only [Jb,Alg.cl,Alg.cg,Alg.rb,Alg.bd,Alg.l1,Tup.q,Tup.o]
  simp (disch:=omega) only [RR]
  refine⟨fun h=>by omega,fun _ h=>⟨by omega,by omega,by rw [List.length_replicate];omega,by omega,by omega,by omega,by omega,by omega,?_⟩⟩
  rfl
theorem agA {p:Int×Unit→Bool} {f:Int×Unit→List aj×Unit} (hp:∀n:Int,0≤n→n≤1073741824→p (n,())=true) (hf:∀n:Int,0≤n→n≤1073741824→f (n,())=([],()))
    (a b:List aj) (ha:a.length≤100000000) (hb:b.length≤100000000):QT (std 0) p f ([a,b],()) (fun y=>y=(a++b,())):=by
  dsimp only [QT,Alg.cl,Alg.cg,Alg.rb,Alg.bd,Alg.l1,Tup.q,Tup.o]
  refine ay (fun(y:List (List aj)×Int×List (List aj)×Int×Int×Unit)=>y.1=[a,b]∧y.2.2.1=[a,b]∧y.2.2.2.1=2∧((y.2.2.2.2.1=0∧y.2.1=0)∨(y.2.2.2.2.1=1∧y.2.1=a.length)∨(y.2.2.2.2.1=2∧y.2.1=a.length+b.length))) (fun y=>(2-y.2.2.2.2.1).toNat)
    ⟨rfl,rfl,rfl,Or.inl ⟨rfl,rfl⟩⟩ ?_
  rintro⟨(l:List (List aj)),(s:Int),(l2:List (List aj)),(n:Int),(i:Int),⟨⟩⟩ hI
  dsimp only at hI ⊢
  obtain⟨rfl,rfl,rfl,h⟩:=hI
  simp (disch:=omega) only [RR]
  have g0: [a,b].getD (Int.toNat 0) default=a:=rfl
  have g1: [a,b].getD (Int.toNat 1) default=b:=rfl
  have gl:([a,b].length:Int)=2:=rfl
  refine⟨fun hi=> ?_,fun hi=> ?_⟩
  · rcases h with⟨rfl,rfl⟩ | ⟨rfl,rfl⟩ | ⟨rfl,rfl⟩
    · rw [g0,w64 (by omega) (by omega)]
      exact⟨by omega,by omega,fun h=>by omega,fun h=>⟨Or.inr (Or.inl ⟨by omega,by omega⟩),by omega⟩⟩
    · rw [g1,w64 (by omega) (by omega)]
      exact⟨by omega,by omega,fun h=>by omega,fun h=>⟨Or.inr (Or.inr ⟨by omega,by omega⟩),by omega⟩⟩
    · omega
  · have hs:0≤s∧s≤200000000:=by omega
    refine⟨hp s (by omega) (by omega),?_⟩
    rw [hf s (by omega) (by omega)]
    refine ay (fun(y:List (List aj)×Int×Int×List aj×Unit)=>y.1=[a,b]∧y.2.1=2∧((y.2.2.1=0∧y.2.2.2.1=[])∨(y.2.2.1=1∧y.2.2.2.1=a)∨(y.2.2.1=2∧y.2.2.2.1=a++b))) (fun y=>(2-y.2.2.1).toNat)
      ⟨rfl,rfl,Or.inl ⟨rfl,rfl⟩⟩ ?_
    rintro⟨(l:List (List aj)),(n:Int),(j:Int),(o:List aj),⟨⟩⟩ hI
    dsimp only at hI ⊢
    obtain⟨rfl,rfl,h3⟩:=hI
    simp (disch:=omega) only [RR]
    refine⟨fun hj=> ?_,fun hj=> ?_⟩
    · rcases h3 with⟨rfl,rfl⟩ | ⟨rfl,rfl⟩ | ⟨rfl,rfl⟩
      · rw [g0]
        exact⟨by omega,by omega,by simp only [List.length_nil];omega,Or.inr (Or.inl ⟨by omega,rfl⟩),by omega⟩
      · rw [g1]
        exact⟨by omega,by omega,by omega,Or.inr (Or.inr ⟨by omega,rfl⟩),by omega⟩
      · omega
    · rcases h3 with⟨rfl,rfl⟩ | ⟨rfl,rfl⟩ | ⟨rfl,rfl⟩
      · omega
      · omega
      · rfl
theorem aai (n:Int) (h1:0≤n) (h2:n≤1073741824):Jc (std 0) (n,()) (fun y=>y=([],())):=by
  dsimp only [Jc,Alg.cl,Alg.cg,Alg.rb,Alg.bd,Alg.l1,Tup.q,Tup.o]
  simp (disch:=omega) only [RR]
  refine⟨fun h=>by omega,fun _ h=>⟨by omega,by omega,by rw [List.length_replicate];omega,by omega,by omega,by omega,by omega,by omega,?_⟩⟩
  rfl
theorem agB {p:Int×Unit→Bool} {f:Int×Unit→List Int×Unit} (hp:∀n:Int,0≤n→n≤1073741824→p (n,())=true) (hf:∀n:Int,0≤n→n≤1073741824→f (n,())=([],()))
    (a b:List Int) (ha:a.length≤100000000) (hb:b.length≤100000000):QV (std 0) p f ([a,b],()) (fun y=>y=(a++b,())):=by
  dsimp only [QV,Alg.cl,Alg.cg,Alg.rb,Alg.bd,Alg.l1,Tup.q,Tup.o]
  refine ay (fun(y:List (List Int)×Int×List (List Int)×Int×Int×Unit)=>y.1=[a,b]∧y.2.2.1=[a,b]∧y.2.2.2.1=2∧((y.2.2.2.2.1=0∧y.2.1=0)∨(y.2.2.2.2.1=1∧y.2.1=a.length)∨(y.2.2.2.2.1=2∧y.2.1=a.length+b.length))) (fun y=>(2-y.2.2.2.2.1).toNat)
    ⟨rfl,rfl,rfl,Or.inl ⟨rfl,rfl⟩⟩ ?_
  rintro⟨(l:List (List Int)),(s:Int),(l2:List (List Int)),(n:Int),(i:Int),⟨⟩⟩ hI
  dsimp only at hI ⊢
  obtain⟨rfl,rfl,rfl,h⟩:=hI
  simp (disch:=omega) only [RR]
  have g0: [a,b].getD (Int.toNat 0) default=a:=rfl
  have g1: [a,b].getD (Int.toNat 1) default=b:=rfl
  have gl:([a,b].length:Int)=2:=rfl
  refine⟨fun hi=> ?_,fun hi=> ?_⟩
  · rcases h with⟨rfl,rfl⟩ | ⟨rfl,rfl⟩ | ⟨rfl,rfl⟩
    · rw [g0,w64 (by omega) (by omega)]
      exact⟨by omega,by omega,fun h=>by omega,fun h=>⟨Or.inr (Or.inl ⟨by omega,by omega⟩),by omega⟩⟩
    · rw [g1,w64 (by omega) (by omega)]
      exact⟨by omega,by omega,fun h=>by omega,fun h=>⟨Or.inr (Or.inr ⟨by omega,by omega⟩),by omega⟩⟩
    · omega
  · have hs:0≤s∧s≤200000000:=by omega
    refine⟨hp s (by omega) (by omega),?_⟩
    rw [hf s (by omega) (by omega)]
    refine ay (fun(y:List (List Int)×Int×Int×List Int×Unit)=>y.1=[a,b]∧y.2.1=2∧((y.2.2.1=0∧y.2.2.2.1=[])∨(y.2.2.1=1∧y.2.2.2.1=a)∨(y.2.2.1=2∧y.2.2.2.1=a++b))) (fun y=>(2-y.2.2.1).toNat)
      ⟨rfl,rfl,Or.inl ⟨rfl,rfl⟩⟩ ?_
    rintro⟨(l:List (List Int)),(n:Int),(j:Int),(o:List Int),⟨⟩⟩ hI
    dsimp only at hI ⊢
    obtain⟨rfl,rfl,h3⟩:=hI
    simp (disch:=omega) only [RR]
    refine⟨fun hj=> ?_,fun hj=> ?_⟩
    · rcases h3 with⟨rfl,rfl⟩ | ⟨rfl,rfl⟩ | ⟨rfl,rfl⟩
      · rw [g0]
        exact⟨by omega,by omega,by simp only [List.length_nil];omega,Or.inr (Or.inl ⟨by omega,rfl⟩),by omega⟩
      · rw [g1]
        exact⟨by omega,by omega,by omega,Or.inr (Or.inr ⟨by omega,rfl⟩),by omega⟩
      · omega
    · rcases h3 with⟨rfl,rfl⟩ | ⟨rfl,rfl⟩ | ⟨rfl,rfl⟩
      · omega
      · omega
      · rfl
theorem mOk.le {m:aj} (h:mOk m):m.atoms.length≤4:=h.2.1
theorem aN.at {p:List aj} (h:aN p) {m:aj} (hm:m∈p):mOk m:=by
  obtain⟨i,hi,rfl⟩:=List.getElem_of_mem hm
  have:=(h.1 i (by omega) (by omega)).1
  rw [show(i:Int).toNat=i from rfl,getD_lt hi]at this;exact this
theorem aN.len {p:List aj} (h:aN p):p.length≤12:=h.2.1
noncomputable def mY (a b:List aj):Bool×List aj:=if bp (aN a)&&bp (aN b)then rP (a++b)else(false,[])
theorem agC {p1:List aj×Unit→Bool} {f1:List aj×Unit→Bool×Unit} (hp1:∀a,Sh a→p1 (a,())=true) (hf1:∀a,Sh a→f1 (a,())=(bp (aN a),()))
    {p2:List aj×Unit→Bool} {f2:List aj×Unit→Bool×List aj×List aj×Unit} (hp2:∀a,Sh a→Cb a→p2 (a,())=true) (hf2:∀a,Sh a→Cb a→(f2 (a,())).1=(rP a).1∧(f2 (a,())).2.2.1=(rP a).2)
    {p3:List (List aj)×Unit→Bool} {f3:List (List aj)×Unit→List aj×Unit} (hp3:∀a b:List aj,a.length≤100000000→b.length≤100000000→p3 ([a,b],())=true) (hf3:∀a b:List aj,a.length≤100000000→b.length≤100000000→f3 ([a,b],())=(a++b,()))
    (a b:List aj) (ha:Sh a) (hb:Sh b):QU (std 0) p1 f1 p2 f2 p3 f3 (a,b,()) (fun y=>y=((mY a b).1,(mY a b).2,())):=by
  dsimp only [QU,Alg.cl,Alg.cg,Alg.rb,Alg.bd,Alg.l1,Tup.q,Tup.o]
  simp (disch:=omega) only [RR,hp1 a ha,hf1 a ha,hp1 b hb,hf1 b hb,bg,lT]
  unfold mY
  refine⟨fun h=> ?_,fun⟨h1,h2⟩=> ?_⟩
  · rw [if_neg]
    rw [Bool.and_eq_true,bg,bg];rintro⟨g1,g2⟩
    rcases h with h | h
    · exact h g1
    · exact h g2
  · have l1:=h1.len
    have l2:=h2.len
    rw [hp3 a b (by omega) (by omega),hf3 a b (by omega) (by omega)]
    have hs:Sh (a++b):=⟨by rw [List.length_append];omega,fun m hm=>by
      rw [List.mem_append]at hm
      rcases hm with hm | hm
      · exact ha.2 m hm
      · exact hb.2 m hm⟩
    have hc:Cb (a++b):=fun m hm=>by
      rw [List.mem_append]at hm
      rcases hm with hm | hm
      · have:=(h1.at hm).1;omega
      · have:=(h2.at hm).1;omega
    obtain⟨g1,g2⟩:=hf2 _ hs hc
    refine⟨rfl,hp2 _ hs hc,?_⟩
    rw [if_pos (by rw [eF h1,eF h2];rfl),g1,g2]
def mP (l:List Int):List Int:=l.mergeSort fun x y=>decide (x≤y)
theorem KT (l:List Int):(mP l).length=l.length:=List.length_mergeSort l
def mulM (m n:aj):aj:=⟨m.bK*n.bK%65536,mP (m.atoms++n.atoms)⟩
def prods (a b:List aj):List aj:=a.flatMap fun m=>b.map (mulM m)
theorem Jp (a b:List aj) (m:aj):prods (a++ [m]) b=prods a b++b.map (mulM m):=by simp [prods]
noncomputable def l7 (a b:List aj):Bool×List aj:=if bp (aN a)&&bp (aN b)then rP (prods a b)else(false,[])
theorem MJ {a b:Int} (h1:0≤a) (h2:a≤65535) (h3:0≤b) (h4:b≤65535):0≤a*b∧a*b≤65535*65535:=⟨Int.mul_nonneg h1 h3,Int.mul_le_mul h2 h4 h3 (by omega)⟩
theorem agD {p1:List aj×Unit→Bool} {f1:List aj×Unit→Bool×Unit} (hp1:∀a,Sh a→p1 (a,())=true) (hf1:∀a,Sh a→f1 (a,())=(bp (aN a),()))
    {p0:Int×Unit→Bool} {f0:Int×Unit→Int×Unit} (hp0:∀a,p0 (a,())=true) (hf0:∀a,f0 (a,())=(a%65536,()))
    {p2:List aj×Unit→Bool} {f2:List aj×Unit→Bool×List aj×List aj×Unit} (hp2:∀a,Sh a→Cb a→p2 (a,())=true) (hf2:∀a,Sh a→Cb a→(f2 (a,())).1=(rP a).1∧(f2 (a,())).2.2.1=(rP a).2)
    {p3:List (List Int)×Unit→Bool} {f3:List (List Int)×Unit→List Int×Unit} (hp3:∀a b:List Int,a.length≤100000000→b.length≤100000000→p3 ([a,b],())=true) (hf3:∀a b:List Int,a.length≤100000000→b.length≤100000000→f3 ([a,b],())=(a++b,()))
    {p4:List Int×Unit→Bool} {f4:List Int×Unit→List Int×Unit} (hp4:∀a:List Int,a.length≤8→p4 (a,())=true) (hf4:∀a:List Int,a.length≤8→f4 (a,())=(mP a,()))
    (a b:List aj) (ha:Sh a) (hb:Sh b):QW (std 0) p1 f1 p0 f0 p2 f2 p3 f3 p4 f4 (a,b,()) (fun y=>y=((l7 a b).1,(l7 a b).2,())):=by
  dsimp only [QW,Alg.cl,Alg.cg,Alg.rb,Alg.bd,Alg.l1,Tup.q,Tup.o]
  simp (disch:=omega) only [RR,hp1 a ha,hf1 a ha,hp1 b hb,hf1 b hb,bg,lT]
  unfold l7
  refine⟨fun h=> ?_,fun⟨h1,h2⟩=> ?_⟩
  · rw [if_neg]
    rw [Bool.and_eq_true,bg,bg];rintro⟨g1,g2⟩
    rcases h with h | h
    · exact h g1
    · exact h g2
  have l1:=h1.len
  have l2:=h2.len
  rw [if_pos (by rw [eF h1,eF h2];rfl)]
  have mm:∀i j:Int,0≤i→i<a.length→0≤j→j<b.length→mOk ((a).getD (i).toNat default)∧mOk ((b).getD (j).toNat default):=fun i j i1 i2 j1 j2=>⟨h1.at (dM i1 i2),h2.at (dM j1 j2)⟩
  refine ay (fun(y:List aj×Int×Int×List aj×List aj×Unit)=>y.1=a∧y.2.1=a.length∧0≤y.2.2.1∧y.2.2.1≤a.length∧y.2.2.2.1=b∧y.2.2.2.2.1=prods (a.take y.2.2.1.toNat) b∧y.2.2.2.2.1.length≤12*y.2.2.1∧Sh y.2.2.2.2.1∧Cb y.2.2.2.2.1) (fun y=>(a.length-y.2.2.1).toNat)
    ⟨rfl,rfl,by simp,by simp,rfl,rfl,by simp,⟨by simp,fun m hm=>absurd hm (by simp)⟩,fun m hm=>absurd hm (by simp)⟩ ?_
  rintro⟨(a':List aj),(n:Int),(i:Int),(b':List aj),(o:List aj),⟨⟩⟩ hI
  dsimp only at hI ⊢
  obtain⟨rfl,rfl,h3,h4,rfl,h5,h6,h7,h8⟩:=hI
  simp (disch:=omega) only [RR]
  refine⟨fun h9=>⟨by omega,by omega,?_⟩,fun h9=> ?_⟩
  · refine ay (fun(y:List aj×Int×Int×List aj×Int×Int×List aj×List aj×aj×Unit)=>y.1=a'∧y.2.1=a'.length∧y.2.2.1=i∧y.2.2.2.1=b'∧y.2.2.2.2.1=b'.length∧0≤y.2.2.2.2.2.1∧y.2.2.2.2.2.1≤b'.length∧y.2.2.2.2.2.2.1=b'∧y.2.2.2.2.2.2.2.2.1=((a').getD (i).toNat default)
        ∧y.2.2.2.2.2.2.2.1=o++(b'.take y.2.2.2.2.2.1.toNat).map (mulM ((a').getD (i).toNat default))∧Sh y.2.2.2.2.2.2.2.1∧Cb y.2.2.2.2.2.2.2.1) (fun y=>(b'.length-y.2.2.2.2.2.1).toNat)
      ⟨rfl,rfl,rfl,rfl,rfl,by simp,by simp,rfl,rfl,by simp,h7,h8⟩ ?_
    rintro⟨(a'':List aj),(n:Int),(i':Int),(b'':List aj),(nb:Int),(j:Int),(b3:List aj),(o':List aj),(m:aj),⟨⟩⟩ hI
    dsimp only at hI ⊢
    obtain⟨rfl,rfl,rfl,rfl,rfl,k1,k2,rfl,rfl,k3,k4,k5⟩:=hI
    have lo:(o'.length:Int)≤12*i'+j:=by
      rw [k3,List.length_append,List.length_map];have:=List.length_take_le j.toNat b3;omega
    by_cases hj:j<b3.length
    · obtain⟨m1,m2⟩:=mm i' j h3 h9 k1 hj
      have e1:=m1.le
      have e2:=m2.le
      have la:(((a'').getD (i').toNat default).atoms++((b3).getD (j).toNat default).atoms).length≤8:=by rw [List.length_append];omega
      have hm:=MJ (show 0≤((a'').getD (i').toNat default).bK by have:=m1.1;omega) (by have:=m1.1;omega) (show 0≤((b3).getD (j).toNat default).bK by have:=m2.1;omega) (by have:=m2.1;omega)
      simp (disch:=omega) only [RR,hp3 ((a'').getD (i').toNat default).atoms ((b3).getD (j).toNat default).atoms (by omega) (by omega),hf3 ((a'').getD (i').toNat default).atoms ((b3).getD (j).toNat default).atoms (by omega) (by omega),hp4 _ la,hf4 _ la,hp0,hf0]
      refine⟨fun _=>⟨by omega,by omega,by simp only [List.length_cons,List.length_nil];omega,⟨by omega,by omega,?_,⟨?_,?_⟩,?_⟩,by omega⟩,fun h=>by omega⟩
      · rw [←dO (d:=default) k1 hj rfl,List.map_append,k3,List.append_assoc];rfl
      · rw [List.length_append];simp only [List.length_cons,List.length_nil];omega
      · intro m hm
        rw [List.mem_append,List.mem_singleton]at hm
        rcases hm with hm | rfl
        · exact k4.2 m hm
        · dsimp only;rw [KT];omega
      · intro m hm
        rw [List.mem_append,List.mem_singleton]at hm
        rcases hm with hm | rfl
        · exact k5 m hm
        · dsimp only;omega
    · simp (disch:=omega) only [RR]
      refine⟨fun h=>absurd h hj,fun _=>⟨⟨by omega,by omega,?_,by omega,k4,k5⟩,by omega⟩⟩
      rw [←dO (d:=default) h3 h9 rfl,Jp,←h5,k3,List.take_of_length_le (by omega)]
  · obtain⟨g1,g2⟩:=hf2 _ h7 h8
    refine⟨hp2 _ h7 h8,?_⟩
    rw [g1,g2,h5,List.take_of_length_le (by omega)]
noncomputable def jq (a:List aj) (n:Int):List aj:=if bp (aN a)&&inB n 0 65535 then(l7 a (dI n)).2 else []
theorem KU (n:Int):Sh (dI n):=by
  unfold dI;split
  · exact⟨by simp,fun m hm=>by rw [List.mem_singleton]at hm;subst hm;simp⟩
  · exact⟨by simp,fun m hm=>absurd hm (by simp)⟩
theorem agE {p1:List aj×Unit→Bool} {f1:List aj×Unit→Bool×Unit} (hp1:∀a,Sh a→p1 (a,())=true) (hf1:∀a,Sh a→f1 (a,())=(bp (aN a),()))
    {p2:Int×Unit→Bool} {f2:Int×Unit→List aj×Unit} (hp2:∀n,p2 (n,())=true) (hf2:∀n,f2 (n,())=(dI n,()))
    {p3:Int×Unit→Bool} {f3:Int×Unit→Bool×Unit} (hp3:∀a,p3 (a,())=true) (hf3:∀a,f3 (a,())=(inB a 0 65535,()))
    {p4:List aj×List aj×Unit→Bool} {f4:List aj×List aj×Unit→Bool×List aj×Unit} (hp4:∀a b,Sh a→Sh b→p4 (a,b,())=true) (hf4:∀a b,Sh a→Sh b→f4 (a,b,())=((l7 a b).1,(l7 a b).2,()))
    (a:List aj) (n:Int) (ha:Sh a):QX (std 0) p1 f1 p2 f2 p3 f3 p4 f4 (a,n,()) (fun y=>y=(jq a n,())):=by
  dsimp only [QX,Alg.cl,Alg.cg,Alg.rb,Alg.bd,Alg.l1,Tup.q,Tup.o]
  simp (disch:=omega) only [RR,hp1 a ha,hf1 a ha,hp2,hf2,hp3,hf3,hp4 a _ ha (KU n),hf4 a _ ha (KU n)]
  unfold jq
  refine⟨fun h=> ?_,fun⟨h1,h2⟩=> ?_⟩
  · rw [if_neg];rw [Bool.and_eq_true];rintro⟨g1,g2⟩
    rcases h with h | h
    · rw [g1]at h;cases h
    · rw [g2]at h;cases h
  · rw [h1,h2];rfl
end Go.TX.F
namespace Go.TX.F
open Go Go.AE Go.TX
noncomputable def Jq (op:Int) (x y:List aj):List aj×Bool:=
  if(dP x).2&& (dP y).2 then(dI (wdo op (dP x).1 (dP y).1),true)
  else if gX x y=0∧op=4 then(x,true)
  else if gX x y=0 then([],true)
  else if(dP x).2 then
    (if op=4∧(dP x).1=0 then([],true)else if(op=4∧(dP x).1=65535)∨(op=5∧(dP x).1=0)then(y,true)else([],false))
  else if(dP y).2 then
    (if op=4∧(dP y).1=0 then([],true)else if(op=4∧(dP y).1=65535)∨(op=5∧(dP y).1=0)then(x,true)else([],false))
  else([],false)
noncomputable def jr (op:Int) (x y:List aj):List aj×Bool:=
  if op=1 then((mY x y).2,(mY x y).1)else if op=2 then((mY x (jq y 65535)).2,(mY x (jq y 65535)).1)else if op=3 then((l7 x y).2,(l7 x y).1)else Jq op x y
theorem aN.sh {l:List aj}:aN l→Sh l:=fun h=>⟨by have:=h.len;omega,fun m hm=>by have:=(h.at hm).le;omega⟩
theorem aff (l:List aj):Sh (rP l).2:=by
  unfold rP
  by_cases h:aN (nf l)
  · rw [eF h];exact h.sh
  · rw [fK h];exact⟨by simp,fun m hm=>absurd hm (by simp)⟩
theorem jv:Sh []:=⟨by simp,fun m hm=>absurd hm (by simp)⟩
theorem afg (a b:List aj):Sh (l7 a b).2:=by unfold l7;split;exact aff _;exact jv
theorem xG (a:List aj) (n:Int):Sh (jq a n):=by unfold jq;split;exact afg _ _;exact jv
theorem agF {p1:List aj×List aj×Unit→Bool} {f1:List aj×List aj×Unit→Bool×Unit} (hp1:∀a b,Sh a→p1 (a,b,())=true) (hf1:∀a b,Sh a→f1 (a,b,())=(decide (gX a b=0),()))
    {p2:Int×Unit→Bool} {f2:Int×Unit→List aj×Unit} (hp2:∀n,p2 (n,())=true) (hf2:∀n,f2 (n,())=(dI n,()))
    {p3:Int×Int×Int×Unit→Bool} {f3:Int×Int×Int×Unit→Int×Unit} (hp3:∀op a b,p3 (op,a,b,())=true) (hf3:∀op a b,f3 (op,a,b,())=(wdo op a b,()))
    {p4:List aj×List aj×Unit→Bool} {f4:List aj×List aj×Unit→Bool×List aj×Unit} (hp4:∀a b,Sh a→Sh b→p4 (a,b,())=true) (hf4:∀a b,Sh a→Sh b→f4 (a,b,())=((mY a b).1,(mY a b).2,()))
    {p5:List aj×List aj×Unit→Bool} {f5:List aj×List aj×Unit→Bool×List aj×Unit} (hp5:∀a b,Sh a→Sh b→p5 (a,b,())=true) (hf5:∀a b,Sh a→Sh b→f5 (a,b,())=((l7 a b).1,(l7 a b).2,()))
    {p6:List aj×Int×Unit→Bool} {f6:List aj×Int×Unit→List aj×Unit} (hp6:∀a n,Sh a→p6 (a,n,())=true) (hf6:∀a n,Sh a→f6 (a,n,())=(jq a n,()))
    {p7:List aj×Unit→Bool} {f7:List aj×Unit→Int×Bool×Unit} (hp7:∀a,Sh a→p7 (a,())=true) (hf7:∀a,Sh a→f7 (a,())=((dP a).1,(dP a).2,()))
    (op:Int) (x y:List aj) (hx:Sh x) (hy:Sh y):Q0 (std 0) p1 f1 p2 f2 p3 f3 p4 f4 p5 f5 p6 f6 p7 f7 (op,x,y,()) (fun z=>z=((jr op x y).1,(jr op x y).2,())):=by
  dsimp only [Q0,Alg.cl,Alg.cg,Alg.rb,Alg.bd,Alg.l1,Tup.q,Tup.o]
  simp (disch:=omega) only [RR,hp1 x y hx,hf1 x y hx,hp2,hf2,hp3,hf3,hp4 x y hx hy,hf4 x y hx hy,hp4 x _ hx (xG y 65535),hf4 x _ hx (xG y 65535),hp5 x y hx hy,hf5 x y hx hy,hp6 y _ hy,hf6 y _ hy,hp7 x hx,hf7 x hx,hp7 y hy,hf7 y hy]
  unfold jr
  refine⟨fun h=>by rw [if_pos h],fun h=>⟨fun h1=>by rw [if_neg h,if_pos h1],fun h1=>⟨fun h2=>by rw [if_neg h,if_neg h1,if_pos h2],fun h2=> ?_⟩⟩⟩
  rw [if_neg h,if_neg h1,if_neg h2]
  unfold Jq
  generalize dP x=nx
  generalize dP y=ny
  obtain⟨n,bn⟩:=nx
  obtain⟨m,bm⟩:=ny
  dsimp only
  by_cases e:gX x y=0<;>by_cases o4:op=4<;>cases bn<;>cases bm<;>simp [e,o4]
  · by_cases c:m=0<;>by_cases c2:m=65535<;>simp [c,c2]
  · by_cases c:n=0<;>by_cases c2:n=65535<;>simp [c,c2]
  · by_cases c:op=5<;>by_cases c2:m=0<;>simp [c,c2]
  · by_cases c:op=5<;>by_cases c2:n=0<;>simp [c,c2]
noncomputable def tDo (t:List Atom) (op:Int) (x y:List aj):List Atom×List aj:=
  if(jr op x y).2 then(t,(jr op x y).1)else
  if op≠2∧0<gX x y then(if(bD t ⟨4,op,y,x⟩).2<0 then([],[])else((bD t ⟨4,op,y,x⟩).1,fG (bD t ⟨4,op,y,x⟩).2))
  else(if(bD t ⟨4,op,x,y⟩).2<0 then([],[])else((bD t ⟨4,op,x,y⟩).1,fG (bD t ⟨4,op,x,y⟩).2))
noncomputable def tOk (t:List Atom) (op:Int) (x y:List aj):Bool:=(jr op x y).2 || !decide ((if op≠2∧0<gX x y then(bD t ⟨4,op,y,x⟩).2 else(bD t ⟨4,op,x,y⟩).2)<0)
theorem agG {p1:List aj×List aj×Unit→Bool} {f1:List aj×List aj×Unit→Int×Unit} (hp1:∀a b,Sh a→p1 (a,b,())=true) (hf1:∀a b,Sh a→f1 (a,b,())=(gX a b,()))
    {p2:Int×List aj×List aj×Unit→Bool} {f2:Int×List aj×List aj×Unit→List aj×Bool×Unit} (hp2:∀op x y,Sh x→Sh y→p2 (op,x,y,())=true) (hf2:∀op x y,Sh x→Sh y→f2 (op,x,y,())=((jr op x y).1,(jr op x y).2,()))
    {p3:List Atom×Atom×Unit→Bool} {f3:List Atom×Atom×Unit→List Atom×Int×Unit} (hp3:∀t a,t.length<1000000000→ShA a→p3 (t,a,())=true) (hf3:∀t a,t.length<1000000000→ShA a→f3 (t,a,())=((bD t a).1,(bD t a).2,()))
    {p4:Int×Unit→Bool} {f4:Int×Unit→List aj×Unit} (hp4:∀n,p4 (n,())=true) (hf4:∀n,f4 (n,())=(fG n,()))
    (t:List Atom) (op:Int) (x y:List aj) (ht:t.length<1000000000) (hx:Sh x) (hy:Sh y):Q5 (std 0) p1 f1 p2 f2 p3 f3 p4 f4 (t,op,x,y,()) (fun z=>z.1=(tDo t op x y).1∧z.2.1=(tDo t op x y).2∧z.2.2.1=tOk t op x y):=by
  have s1:ShA ⟨4,op,x,y⟩:=⟨hx,hy⟩
  have s2:ShA ⟨4,op,y,x⟩:=⟨hy,hx⟩
  dsimp only [Q5,Alg.cl,Alg.cg,Alg.rb,Alg.bd,Alg.l1,Tup.q,Tup.o]
  simp (disch:=omega) only [RR,hp1 x y hx,hf1 x y hx,hp2 op x y hx hy,hf2 op x y hx hy,hp3 t _ ht s1,hf3 t _ ht s1,hp3 t _ ht s2,hf3 t _ ht s2,hp4,hf4]
  unfold tDo tOk
  refine⟨fun h=>by rw [if_pos h,h];exact⟨rfl,rfl,rfl⟩,fun h=> ?_⟩
  rw [if_neg (by rw [h];simp),h,Bool.false_or]
  generalize bD t ⟨4,op,y,x⟩=r1
  generalize bD t ⟨4,op,x,y⟩=r2
  generalize gX x y=o
  by_cases c1:op=2<;>by_cases c2:0<o<;>by_cases c3:r1.2<0<;>by_cases c4:r2.2<0<;>simp [c1,c2,c3,c4]
noncomputable def vO (t:List Atom) (op:Int) (x y:List aj):List Atom×List aj:=
  @ite _ (aJ t∧(1≤op∧op≤5)∧aN x∧aN y∧aR x t.length∧aR y t.length) (Classical.propDecidable _) (tDo t op x y) ([],[])
theorem aaj (n:Int):Sh (fG n):=by
  unfold fG;split
  · exact⟨by simp,fun m hm=>by rw [List.mem_singleton]at hm;subst hm;simp⟩
  · exact jv
theorem agH {p1:Int×Unit→Bool} {f1:Int×Unit→Bool×Unit} (hp1:∀a,p1 (a,())=true) (hf1:∀a,f1 (a,())=(inB a 0 65535,())):Ql (std 0) p1 f1 () (fun z=>z=(true,())):=by
  dsimp only [Ql,Alg.cl,Alg.cg,Alg.rb,Alg.bd,Alg.l1,Tup.q,Tup.o]
  simp (disch:=omega) only [RR,hp1,hf1]
  rfl
theorem Ey {α:Type} {d:α} {a b:List α} (h:a.length=b.length) (h2:All a.length (fun i=>a.getD i.toNat d=b.getD i.toNat d)):a=b:=by
  refine List.ext_getElem h fun i h3 h4=> ?_
  have:=h2 i (by omega) (by omega)
  dsimp only at this
  rw [show(i:Int).toNat=i from rfl,getD_lt h3,getD_lt h4]at this;exact this
theorem agI (a b:List Int) (ha:a.length<1000000000):Qh (std 0) (a,b,()) (fun z=>z=(bp (a=b),())):=by
  dsimp only [Qh,Alg.cl,Alg.cg,Alg.rb,Alg.bd,Alg.l1,Tup.q,Tup.o]
  simp (disch:=omega) only [RR]
  refine⟨fun h=> ?_,fun h=> ?_⟩
  · rw [fK (fun e=>h (by rw [e]))]
  have hl:a.length=b.length:=by omega
  refine ay (fun(y:List Int×List Int×Int×Unit)=>y.1=a∧y.2.1=b∧0≤y.2.2.1∧y.2.2.1≤a.length∧All y.2.2.1 (fun i=>a.getD i.toNat default=b.getD i.toNat default)) (fun y=>(a.length-y.2.2.1).toNat) ⟨rfl,rfl,by simp,by simp,All.zero⟩ ?_
  rintro⟨(l1:List Int),(l2:List Int),(i:Int),⟨⟩⟩ hI
  dsimp only at hI ⊢
  obtain⟨rfl,rfl,h1,h2,h3⟩:=hI
  simp (disch:=omega) only [RR]
  refine⟨fun h4=>⟨by omega,by omega,by omega,by omega,fun h5=> ?_,fun h5=>⟨⟨by omega,by omega,h3.snoc h5⟩,by omega⟩⟩,fun h4=> ?_⟩
  · rw [fK (fun e=>h5 (by rw [e]))]
  · rw [eF (Ey hl (h3.le (by omega)))]
theorem agJ {p:List Int×List Int×Unit→Bool} {f:List Int×List Int×Unit→Bool×Unit} (hp:∀a b,a.length<1000000000→p (a,b,())=true) (hf:∀a b,a.length<1000000000→f (a,b,())=(bp (a=b),()))
    (a b:List aj) (ha:Sh a):Qi (std 0) p f (a,b,()) (fun z=>z=(bp (a=b),())):=by
  have hlen:=ha.1
  dsimp only [Qi,Alg.cl,Alg.cg,Alg.rb,Alg.bd,Alg.l1,Tup.q,Tup.o]
  simp (disch:=omega) only [RR]
  refine⟨fun h=> ?_,fun h=> ?_⟩
  · rw [fK (fun e=>h (by rw [e]))]
  have hl:a.length=b.length:=by omega
  refine ay (fun(y:Int×List aj×List aj×Unit)=>y.2.1=a∧y.2.2.1=b∧0≤y.1∧y.1≤a.length∧All y.1 (fun i=>a.getD i.toNat default=b.getD i.toNat default)) (fun y=>(a.length-y.1).toNat) ⟨rfl,rfl,by simp,by simp,All.zero⟩ ?_
  rintro⟨(i:Int),(l1:List aj),(l2:List aj),⟨⟩⟩ hI
  dsimp only at hI ⊢
  obtain⟨rfl,rfl,h1,h2,h3⟩:=hI
  simp (disch:=omega) only [RR,hp _ _ (ha.at _),hf _ _ (ha.at _),bg,lT]
  refine⟨fun h4=>⟨by omega,by omega,by omega,by omega,by omega,by omega,by omega,by omega,fun h5=> ?_,fun h5=>⟨⟨by omega,by omega,h3.snoc ?_⟩,by omega⟩⟩,fun h4=> ?_⟩
  · rw [fK]
    intro e;rw [e]at h5
    rcases h5 with h5 | h5<;>exact h5 rfl
  · obtain⟨e1,e2⟩:=h5
    generalize ((l1).getD (i).toNat default)=u at e1 e2 ⊢
    generalize ((l2).getD (i).toNat default)=v at e1 e2 ⊢
    cases u;cases v;simp_all
  · rw [eF (Ey hl (h3.le (by omega)))]
theorem agK {p:List aj×List aj×Unit→Bool} {f:List aj×List aj×Unit→Bool×Unit} (hp:∀a b,Sh a→p (a,b,())=true) (hf:∀a b,Sh a→f (a,b,())=(bp (a=b),()))
    (a b:List Atom) (ha:ShT a):Q8 (std 0) p f (a,b,()) (fun z=>z=(bp (a=b),())):=by
  have hlen:=ha.1
  dsimp only [Q8,Alg.cl,Alg.cg,Alg.rb,Alg.bd,Alg.l1,Tup.q,Tup.o]
  simp (disch:=omega) only [RR]
  refine⟨fun h=> ?_,fun h=> ?_⟩
  · rw [fK (fun e=>h (by rw [e]))]
  have hl:a.length=b.length:=by omega
  refine ay (fun(y:Int×List Atom×List Atom×Unit)=>y.2.1=a∧y.2.2.1=b∧0≤y.1∧y.1≤a.length∧All y.1 (fun i=>a.getD i.toNat default=b.getD i.toNat default)) (fun y=>(a.length-y.1).toNat) ⟨rfl,rfl,by simp,by simp,All.zero⟩ ?_
  rintro⟨(i:Int),(l1:List Atom),(l2:List Atom),⟨⟩⟩ hI
  dsimp only at hI ⊢
  obtain⟨rfl,rfl,h1,h2,h3⟩:=hI
  simp (disch:=omega) only [RR,hp _ _ (ha.at _).1,hf _ _ (ha.at _).1,hp _ _ (ha.at _).2,hf _ _ (ha.at _).2,bg,lT]
  refine⟨fun h4=>⟨by omega,by omega,by omega,by omega,fun h5=> ?_,fun h5=>⟨⟨by omega,by omega,h3.snoc ?_⟩,by omega⟩⟩,fun h4=> ?_⟩
  · rw [fK]
    intro e;rw [e]at h5
    rcases h5 with((h5 | h5) | h5) | h5<;>exact h5 rfl
  · obtain⟨⟨⟨e1,e2⟩,e3⟩,e4⟩:=h5
    generalize ((l1).getD (i).toNat default)=u at e1 e2 e3 e4 ⊢
    generalize ((l2).getD (i).toNat default)=v at e1 e2 e3 e4 ⊢
    cases u;cases v;simp_all
  · rw [eF (Ey hl (h3.le (by omega)))]
end Go.TX.F
namespace Go.TX.F
open Go Go.AE Go.TX
theorem aak {a b:Int}:or2 a b=0↔a=0∧b=0:=by unfold or2;split<;>omega
theorem KV {a b:aj}:MF a b=0↔a=b:=by
  unfold MF;rw [aak,ko,jC]
  constructor
  · rintro⟨h1,h2⟩;cases a;cases b;simp_all
  · rintro rfl;exact⟨rfl,rfl⟩
theorem KW:∀ {a b:List aj},a.length=b.length→Dl a b=0→a=b
  | [],[],_,_=>rfl | [],_::_,h,_=>by simp at h
  | _::_,[],h,_=>by simp at h
  | a::az,b::bs,hl,h=>by
    simp only [Dl]at h
    split at h
    · exact absurd h (by assumption)
    · rename_i h1
      rw [KV.1 (Classical.not_not.1 h1),KW (by simpa using hl) h]
theorem KY:∀a:List aj,Dl a a=0
  | []=>rfl
  | a::az=>by simp only [Dl,KV.2 rfl];simp [KY az]
theorem Dq {a b:List aj}:gX a b=0↔a=b:=by
  unfold gX
  constructor
  · intro h
    split at h
    · exact absurd h (by assumption)
    · rename_i h1
      have:=jC.1 (Classical.not_not.1 h1)
      exact KW (by omega) h
  · rintro rfl;rw [if_neg (by rw [jC.2 rfl];simp),KY]
theorem nL {a b:Atom}:oK a b=true↔a=b:=by
  unfold oK
  rw [Bool.and_eq_true,Bool.and_eq_true,Bool.and_eq_true,decide_eq_true_eq,decide_eq_true_eq,decide_eq_true_eq,decide_eq_true_eq,Dq,Dq]
  constructor
  · rintro⟨⟨⟨h1,h2⟩,h3⟩,h4⟩;cases a;cases b;simp_all
  · rintro rfl;exact⟨⟨⟨rfl,rfl⟩,rfl⟩,rfl⟩
theorem oL {α:Type} {d:α} {l:List α} {G:α→Prop}:All l.length (fun i=>G (l.getD i.toNat d))↔∀m∈l,G m:=by
  constructor
  · intro h m hm
    obtain⟨i,hi,rfl⟩:=List.getElem_of_mem hm
    have:=h i (by omega) (by omega)
    dsimp only at this
    rw [show(i:Int).toNat=i from rfl,getD_lt hi]at this;exact this
  · intro h i h1 h2
    exact h _ (dM h1 h2)
theorem dB {p:List aj} {n:Int}:aR p n↔∀m∈p,∀k∈m.atoms,k<n:=by
  unfold aR ME
  rw [oL (d:=default) (G:=fun m:aj=>All m.atoms.length (fun i=>¬n≤m.atoms.getD i.toNat default))]
  refine forall_congr' fun m=>forall_congr' fun _=> ?_
  rw [oL (d:=default) (G:=fun k:Int=>¬n≤k)]
  exact forall_congr' fun k=>forall_congr' fun _=>by omega
theorem dH {α:Type} {d:α} {R:α→α→Prop} (tr:∀ {a b c},R a b→R b c→R a c) {l:List α}:l.Pairwise R↔∀i:Int,0<i→i<l.length→R (l.getD (i-1).toNat d) (l.getD i.toNat d):=by
  rw [List.pairwise_iff_getElem]
  constructor
  · intro h i h1 h2
    rw [getD_lt (by omega),getD_lt (by omega)]
    exact h _ _ (by omega) (by omega) (by omega)
  · intro h i j hi hj hij
    obtain⟨n,rfl⟩:∃n,j=i+1+n:=⟨j-i-1,by omega⟩
    clear hij
    induction n with
    | zero=>
      have:=h (i+1:Nat) (by omega) (by omega)
      rw [show(((i+1:Nat):Int)-1).toNat=i by omega,show(((i+1:Nat):Int)).toNat=i+1 by omega,getD_lt hi,getD_lt (by omega)]at this
      exact this
    | succ n ih=>
      have h1:=ih (by omega)
      have:=h (i+1+n+1:Nat) (by omega) (by omega)
      rw [show(((i+1+n+1:Nat):Int)-1).toNat=i+1+n by omega,show(((i+1+n+1:Nat):Int)).toNat=i+1+n+1 by omega,getD_lt (by omega),getD_lt (by omega)]at this
      exact tr h1 this
theorem MK {l:List Int}:Srt l↔l.Pairwise (· ≤ ·):=by
  rw [dH (d:=default) (R:=fun a b:Int=>a≤b) (fun h1 h2=>Int.le_trans h1 h2)]
  unfold Srt
  constructor
  · intro h i h1 h2
    have:=h (i-1) (by omega) (by omega)
    dsimp only at this
    rw [show i-1+1=i by omega]at this;exact this
  · intro h i h1 h2
    have:=h (i+1) (by omega) (by omega)
    rw [show i+1-1=i by omega]at this;exact this
theorem fD {a b c:aj} (h1:lt a b) (h2:lt b c):lt a c:=dR (le_of_lt h1) h2
def aok (l:List Int):Prop:=l.Pairwise (· ≤ ·)∧∀k∈l,0≤k∧k≤199
theorem gY {p:List aj}:aN p↔Nf p∧p.length≤12∧∀m∈p,m.atoms.length≤4∧aok m.atoms:=by
  constructor
  · rintro⟨h1,h2,h3,h4⟩
    have h1':∀m∈p,mOk m:=oL (d:=default) (G:=mOk).1 (fun i g1 g2=>(h1 i g1 g2).1)
    have h4':∀m∈p,¬(0<m.atoms.length∧m.atoms.getD 0 default<0):=oL (d:=default) (G:=fun m:aj=>¬(0<m.atoms.length∧m.atoms.getD 0 default<0)).1 h4
    refine⟨⟨(dH (d:=default) (R:=lt) fD).2 fun i g1 g2=>(h1 i (by omega) g2).2 g1,fun m hm=>(h1' m hm).1⟩,h2,fun m hm=>⟨(h1' m hm).2.1,MK.1 (h1' m hm).2.2,fun k hk=>⟨?_,by have:=dB.1 h3 m hm k hk;omega⟩⟩⟩
    have hs:=MK.1 (h1' m hm).2.2
    have hn:=h4' m hm
    cases ha:m.atoms with
    | nil=>rw [ha]at hk;exact absurd hk (by simp)
    | cons b l=>
      rw [ha]at hk hs hn
      simp at hn
      rcases List.mem_cons.1 hk with rfl | hk
      · exact hn
      · have:=List.rel_of_pairwise_cons hs hk;omega
  · rintro⟨h1,h2,h3⟩
    refine⟨fun i g1 g2=>⟨⟨h1.co _ (dM g1 g2),(h3 _ (dM g1 g2)).1,MK.2 (h3 _ (dM g1 g2)).2.1⟩,fun g3=>(dH (d:=default) (R:=lt) fD).1 h1.ss i g3 g2⟩,h2,dB.2 fun m hm k hk=>by have:=((h3 m hm).2.2 k hk);omega,?_⟩
    refine oL (d:=default) (G:=fun m:aj=>¬(0<m.atoms.length∧m.atoms.getD 0 default<0)).2 fun m hm=> ?_
    rintro⟨g1,g2⟩
    have:=(h3 m hm).2.2 _ (dM (i:=0) (d:=default) (xs:=m.atoms) (by omega) (by omega))
    rw [show Int.toNat 0=0 from rfl]at this;omega
theorem aal {l:List aj} {k:List Int} (h:cf l k≠0):∃m∈l,m.atoms=k:=Classical.byContradiction fun h2=>h (jl fun m hm e=>h2 ⟨m,hm,e⟩)
theorem Nf.cf {o:List aj} (h:Nf o) {m:aj} (hm:m∈o):cf o m.atoms=m.bK:=by
  induction o with
  | nil=>exact absurd hm (by simp)
  | cons a o ih=>
    rw [dz]
    rcases List.mem_cons.1 hm with rfl | hm
    · rw [if_pos rfl,jl (fun m' hm'=>((List.rel_of_pairwise_cons h.ss hm').ne).symm)];omega
    · rw [if_neg (List.rel_of_pairwise_cons h.ss hm).ne,ih ⟨h.ss.tail,fun m hm=>h.co m (by simp [hm])⟩ hm];omega
theorem Nf.from {o l:List aj} (h:Nf o) (h2:∀k,F.cf o k=F.cf l k%65536) {m:aj} (hm:m∈o):∃m'∈l,m'.atoms=m.atoms:=by
  refine aal fun e=> ?_
  have:=h2 m.atoms
  rw [h.cf hm,e]at this
  have:=h.co m hm;omega
theorem Nf.bnd {o:List aj} (h:Nf o) (k:List Int):0≤F.cf o k∧F.cf o k≤65535:=by
  by_cases e:F.cf o k=0
  · omega
  · obtain⟨m,hm,rfl⟩:=aal e
    rw [h.cf hm];have:=h.co m hm;omega
theorem afh {l o:List aj} (h:Nf o) (h2:∀k,F.cf o k=F.cf l k%65536) (h3:∀m∈l,aok m.atoms):
    rP l=(decide (o.length≤12∧∀m∈o,m.atoms.length≤4),if o.length≤12∧∀m∈o,m.atoms.length≤4 then o else []):=by
  unfold rP
  rw [VZ h h2]
  by_cases c:o.length≤12∧∀m∈o,m.atoms.length≤4
  · have:aN o:=gY.2 ⟨h,c.1,fun m hm=>⟨c.2 m hm,by obtain⟨m',g1,g2⟩:=h.from h2 hm;rw [←g2];exact h3 m' g1⟩⟩
    rw [eF this,decide_eq_true c,if_pos rfl,if_pos c]
  · have:¬aN o:=fun g=>c ⟨(gY.1 g).2.1,fun m hm=>((gY.1 g).2.2 m hm).1⟩
    rw [fK this,decide_eq_false c,if_neg (by simp),if_neg c]
end Go.TX.F
namespace Go.TX.F
open Go Go.AE Go.TX
theorem aam (a b c:Int):Gc (std 0) (a,b,c,()) (fun y=>y=(inB a b c,())):=by
  dsimp only [Gc,Alg.cl,Alg.cg,Alg.rb,Alg.bd,Alg.l1,Tup.q,Tup.o]
  simp (disch:=omega) only [RR]
  rfl
theorem aan (a:Int):Gz (std 0) (a,()) (fun y=>y=(inB a 0 65535,())):=by
  dsimp only [Gz,Alg.cl,Alg.cg,Alg.rb,Alg.bd,Alg.l1,Tup.q,Tup.o]
  simp (disch:=omega) only [RR]
  refine congrArg (fun b=>(b,())) ?_
  rw [Bool.eq_iff_iff,dx,Bool.and_eq_true,decide_eq_true_eq,decide_eq_true_eq];omega
theorem aao {p1:Int×Int×Int×Unit→Bool} {f1:Int×Int×Int×Unit→Bool×Unit} (hp1:∀a b c,p1 (a,b,c,())=true) (hf1:∀a b c,f1 (a,b,c,())=(inB a b c,())) (a:Int):
    Gd (std 0) p1 f1 (a,()) (fun y=>y=(dI a,())):=by
  dsimp only [Gd,Alg.cl,Alg.cg,Alg.rb,Alg.bd,Alg.l1,Tup.q,Tup.o]
  simp (disch:=omega) only [RR,hp1,hf1,dx,nC]
  unfold dI
  exact⟨fun h=>by rw [if_neg (by omega)],fun h=>by rw [if_pos (by omega)]⟩
theorem aap {p1:Int×Int×Int×Unit→Bool} {f1:Int×Int×Int×Unit→Bool×Unit} (hp1:∀a b c,p1 (a,b,c,())=true) (hf1:∀a b c,f1 (a,b,c,())=(inB a b c,())) (a:Int):
    Gu (std 0) p1 f1 (a,()) (fun y=>y=(fG a,())):=by
  dsimp only [Gu,Alg.cl,Alg.cg,Alg.rb,Alg.bd,Alg.l1,Tup.q,Tup.o]
  simp (disch:=omega) only [RR,hp1,hf1,dx,nC]
  unfold fG
  exact⟨fun h=>by rw [if_neg (by omega)],fun h=>by rw [if_pos (by omega)]⟩
theorem aaq (a:Int):a.tmod 65536=if 0≤a then a%65536 else- (-a%65536):=by
  split
  · rw [Int.tmod_eq_emod_of_nonneg (by omega)]
  · have:=Int.neg_tmod (-a) 65536
    rw [Int.neg_neg]at this;rw [this,Int.tmod_eq_emod_of_nonneg (by omega)]
theorem aar (a:Int):Gp (std 0) (a,()) (fun y=>y=(a%65536,())):=by
  dsimp only [Gp,Alg.cl,Alg.cg,Alg.rb,Alg.bd,Alg.l1,Tup.q,Tup.o]
  simp only [ZV]
  by_cases h:0≤a
  · rw [show a.tmod 65536=a%65536 by rw [aaq,if_pos h]]
    simp (disch:=omega) only [RR]
    refine⟨by omega,fun h2=> ?_⟩
    exfalso;omega
  · rw [show a.tmod 65536= - (-a%65536) by rw [aaq,if_neg h]]
    simp (disch:=omega) only [RR]
    refine⟨by omega,fun h2=> ?_,fun h2=> ?_⟩
    · rw [show-(-a%65536)+65536=a%65536 by omega]
    · rw [show-(-a%65536)=a%65536 by omega]
theorem aas (a b:List Int) (ha:a.length<1000000000):Gi (std 0) (a,b,()) (fun y=>y=(dN a b,())):=by
  dsimp only [Gi,Alg.cl,Alg.cg,Alg.rb,Alg.bd,Alg.l1,Tup.q,Tup.o]
  simp (disch:=omega) only [RR]
  refine⟨fun h=>⟨fun h1=> ?_,fun h1=> ?_⟩,fun h=> ?_⟩
  · rw [show dN a b= -1 by(have e:gQ a.length b.length= -1:=by unfold gQ;rw [if_pos h1]);unfold dN or2;rw [e];rfl]
  · rw [show dN a b=1 by(have e:gQ a.length b.length=1:=by unfold gQ;rw [if_neg h1,if_pos (by omega)]);unfold dN or2;rw [e];rfl]
  have hl:a.length=b.length:=by omega
  have e0:dN a b=lH a b:=by unfold dN or2;rw [jC.2 (by omega),if_neg (by simp)]
  refine ay (fun(y:List Int×List Int×Int×Unit)=>y.1=a∧y.2.1=b∧0≤y.2.2.1∧y.2.2.1≤a.length∧dN a b=lH (a.drop y.2.2.1.toNat) (b.drop y.2.2.1.toNat)) (fun y=>(a.length-y.2.2.1).toNat) ⟨rfl,rfl,by simp,by simp,by simpa using e0⟩ ?_
  rintro⟨(l1:List Int),(l2:List Int),(i:Int),⟨⟩⟩ hI
  dsimp only at hI ⊢
  obtain⟨rfl,rfl,h1,h2,h3⟩:=hI
  simp (disch:=omega) only [RR]
  refine⟨fun h4=> ?_,fun h4=> ?_⟩
  · have e:=Dk l1 l2 i.toNat (by omega) (by omega)
    rw [getD_lt (by omega),getD_lt (by omega)]
    refine⟨by omega,by omega,by omega,by omega,fun h5=> ?_,fun h5=>⟨by omega,by omega,by omega,by omega,fun h6=> ?_,fun h6=>⟨⟨by omega,by omega,?_⟩,by omega⟩⟩⟩
    · rw [h3,e,show gQ l1[i.toNat] l2[i.toNat]= -1 by unfold gQ;rw [if_pos h5]];rfl
    · rw [h3,e,show gQ l1[i.toNat] l2[i.toNat]=1 by unfold gQ;rw [if_neg h5,if_pos h6]];rfl
    · rw [h3,e,show gQ l1[i.toNat] l2[i.toNat]=0 by unfold gQ;rw [if_neg h5,if_neg h6],show(i+1).toNat=i.toNat+1 by omega];rfl
  · rw [h3,List.drop_eq_nil_of_le (by omega),List.drop_eq_nil_of_le (by omega)];rfl
theorem aat {p1:Int×Int×Int×Unit→Bool} {f1:Int×Int×Int×Unit→Bool×Unit} (hp1:∀a b c,p1 (a,b,c,())=true) (hf1:∀a b c,f1 (a,b,c,())=(inB a b c,())) (m:aj) (hm:m.atoms.length<1000000000):
    Gh (std 0) p1 f1 (m,()) (fun y=>y=(bp ((1≤m.bK∧m.bK≤65535)∧m.atoms.length≤4∧aok m.atoms),())):=by
  dsimp only [Gh,Alg.cl,Alg.cg,Alg.rb,Alg.bd,Alg.l1,Tup.q,Tup.o]
  simp (disch:=omega) only [RR,hp1,hf1,dx,nC]
  refine⟨fun h=> ?_,fun⟨h1,h2⟩=> ?_⟩
  · rw [fK];rintro⟨g1,g2,g3⟩;omega
  refine ay (fun(y:Int×aj×Unit)=>y.2.1=m∧0≤y.1∧y.1≤m.atoms.length∧All y.1 (fun i=>(0≤m.atoms.getD i.toNat default∧m.atoms.getD i.toNat default≤199)∧(0<i→m.atoms.getD (i-1).toNat default≤m.atoms.getD i.toNat default))) (fun y=>(m.atoms.length-y.1).toNat) ⟨rfl,by simp,by simp,All.zero⟩ ?_
  rintro⟨(i:Int),(m':aj),⟨⟩⟩ hI
  dsimp only at hI ⊢
  obtain⟨rfl,h3,h4,h5⟩:=hI
  simp (disch:=omega) only [RR,hp1,hf1,dx,nC]
  refine⟨fun h6=>⟨by omega,by omega,by by_cases c:0<i;(· right;omega);(· left;simp [c]),by by_cases c:0<i;(· right;omega);(· left;simp [c]),by omega,by omega,fun h7=> ?_,fun h7=>⟨⟨by omega,by omega,h5.snoc ⟨h7.1,fun c=> ?_⟩⟩,by omega⟩⟩,fun h6=> ?_⟩
  · rw [fK];rintro⟨g1,g2,g3,g4⟩
    rcases h7 with h7 | ⟨h7,h8⟩
    · exact h7 (g4 _ (dM h3 h6))
    · have:=(dH (d:=default) (R:=fun a b:Int=>a≤b) (fun h1 h2=>Int.le_trans h1 h2)).1 g3 i h7 h6;omega
  · have:=h7.2;rw [decide_eq_true c,Bool.true_and,decide_eq_false_iff_not]at this;omega
  · have h8:=h5.le (by omega:(m'.atoms.length:Int)≤i)
    rw [eF]
    refine⟨by omega,by omega,(dH (d:=default) (R:=fun a b:Int=>a≤b) (fun h1 h2=>Int.le_trans h1 h2)).2 fun j j1 j2=>(h8 j (by omega) j2).2 j1,oL (d:=default) (G:=fun k:Int=>0≤k∧k≤199).1 fun j j1 j2=>(h8 j j1 j2).1⟩
theorem aau {p1:aj×Unit→Bool} {f1:aj×Unit→Bool×Unit} (hp1:∀m:aj,m.atoms.length<1000000000→p1 (m,())=true) (hf1:∀m:aj,m.atoms.length<1000000000→f1 (m,())=(bp ((1≤m.bK∧m.bK≤65535)∧m.atoms.length≤4∧aok m.atoms),()))
    {p4:List Int×List Int×Unit→Bool} {f4:List Int×List Int×Unit→Int×Unit} (hp4:∀a b,a.length<1000000000→p4 (a,b,())=true) (hf4:∀a b,a.length<1000000000→f4 (a,b,())=(dN a b,()))
    (a:List aj) (ha:Sh a):Gj (std 0) p1 f1 p4 f4 (a,()) (fun y=>y=(bp (aN a),())):=by
  have hlen:=ha.1
  dsimp only [Gj,Alg.cl,Alg.cg,Alg.rb,Alg.bd,Alg.l1,Tup.q,Tup.o]
  simp (disch:=omega) only [RR]
  refine⟨fun h=> ?_,fun h=> ?_⟩
  · rw [fK (fun h2=>by have:=h2.len;omega)]
  refine ay (fun(y:Int×List aj×Unit)=>y.2.1=a∧0≤y.1∧y.1≤a.length∧All y.1 (fun i=>((1≤((a).getD (i).toNat default).bK∧((a).getD (i).toNat default).bK≤65535)∧((a).getD (i).toNat default).atoms.length≤4∧aok ((a).getD (i).toNat default).atoms)∧(0<i→lt ((a).getD (i-1).toNat default) ((a).getD (i).toNat default)))) (fun y=>(a.length-y.1).toNat) ⟨rfl,by simp,by simp,All.zero⟩ ?_
  rintro⟨(i:Int),(l':List aj),⟨⟩⟩ hI
  dsimp only at hI ⊢
  obtain⟨rfl,h1,h2,h3⟩:=hI
  simp (disch:=omega) only [RR,hp1 _ (ha.at _),hf1 _ (ha.at _),hp4 _ _ (ha.at _),hf4 _ _ (ha.at _),bg,lT]
  refine⟨fun h4=>⟨by omega,by omega,by by_cases c:0<i;(· right;omega);(· left;simp [c]),by by_cases c:0<i;(· right;omega);(· left;simp [c]),by omega,by omega,fun h5=> ?_,fun h5=>⟨⟨by omega,by omega,h3.snoc ⟨h5.1,fun c=> ?_⟩⟩,by omega⟩⟩,fun h4=> ?_⟩
  · rw [fK (fun h=> ?_)]
    obtain⟨g1,g2,g3⟩:=gY.1 h
    rcases h5 with h5 | ⟨h5,h6⟩
    · exact h5 ⟨g1.co _ (dM h1 h4),g3 _ (dM h1 h4)⟩
    · have:=(dH (d:=default) (R:=lt) fD).1 g1.ss i h5 h4
      unfold lt at this;omega
  · have:=h5.2;rw [decide_eq_true c,Bool.true_and,decide_eq_false_iff_not]at this;unfold lt;omega
  · have h8:=h3.le (by omega:(l'.length:Int)≤i)
    rw [eF]
    have h9:=oL (d:=default) (G:=fun m:aj=>(1≤m.bK∧m.bK≤65535)∧m.atoms.length≤4∧aok m.atoms).1 fun j j1 j2=>(h8 j j1 j2).1
    exact gY.2 ⟨⟨(dH (d:=default) (R:=lt) fD).2 fun j j1 j2=>(h8 j (by omega) j2).2 j1,fun m hm=>(h9 m hm).1⟩,by omega,fun m hm=>(h9 m hm).2⟩
end Go.TX.F
namespace Go.TX.F
open Go Go.AE Go.TX
theorem aav (a:List aj) (n:Int) (ha:Sh a):GV (std 0) (a,n,()) (fun y=>y=(bp (aR a n),())):=by
  have hlen:=ha.1
  dsimp only [GV,Alg.cl,Alg.cg,Alg.rb,Alg.bd,Alg.l1,Tup.q,Tup.o]
  simp (disch:=omega) only [RR]
  refine ay (fun(y:Int×Int×List aj×Unit)=>y.1=n∧y.2.2.1=a∧0≤y.2.1∧y.2.1≤a.length∧All y.2.1 (fun i=>ME n ((a).getD (i).toNat default))) (fun y=>(a.length-y.2.1).toNat) ⟨rfl,rfl,by simp,by simp,All.zero⟩ ?_
  rintro⟨(n':Int),(i:Int),(l:List aj),⟨⟩⟩ hI
  dsimp only at hI ⊢
  obtain⟨rfl,rfl,h1,h2,h3⟩:=hI
  simp (disch:=omega) only [RR]
  refine⟨fun h4=> ?_,fun h4=> ?_⟩
  · have h5:=ha.at i.toNat
    refine ay (fun(y:Int×Int×Int×List aj×Unit)=>y.1=n'∧y.2.1=i∧y.2.2.2.1=l∧0≤y.2.2.1∧y.2.2.1≤((l).getD (i).toNat default).atoms.length∧All y.2.2.1 (fun j=>¬n'≤((l).getD (i).toNat default).atoms.getD j.toNat default)) (fun y=>(((l).getD (i).toNat default).atoms.length-y.2.2.1).toNat) ⟨rfl,rfl,rfl,by simp,by simp,All.zero⟩ ?_
    rintro⟨(n'':Int),(i':Int),(j:Int),(l':List aj),⟨⟩⟩ hI
    dsimp only at hI ⊢
    obtain⟨rfl,rfl,rfl,g1,g2,g3⟩:=hI
    simp (disch:=omega) only [RR]
    refine⟨by omega,by omega,fun g4=>⟨by omega,by omega,by omega,by omega,fun g5=> ?_,fun g5=>⟨⟨by omega,by omega,g3.snoc g5⟩,by omega⟩⟩,fun g4=>⟨⟨by omega,by omega,h3.snoc (g3.le (by omega))⟩,by omega⟩⟩
    rw [fK (fun h=>h i' h1 h4 j g1 g4 g5)]
  · rw [eF (show aR l n' from h3.le (by omega))]
theorem aaw {p4:List Int×List Int×Unit→Bool} {f4:List Int×List Int×Unit→Int×Unit} (hp4:∀a b,a.length<1000000000→p4 (a,b,())=true) (hf4:∀a b,a.length<1000000000→f4 (a,b,())=(dN a b,()))
    (a b:List aj) (ha:Sh a):GI (std 0) p4 f4 (a,b,()) (fun y=>y=(gX a b,())):=by
  have hlen:=ha.1
  dsimp only [GI,Alg.cl,Alg.cg,Alg.rb,Alg.bd,Alg.l1,Tup.q,Tup.o]
  simp (disch:=omega) only [RR]
  refine⟨fun h=>⟨fun h1=> ?_,fun h1=> ?_⟩,fun h=> ?_⟩
  · rw [show gX a b= -1 by(have e:gQ a.length b.length= -1:=by unfold gQ;rw [if_pos h1]);unfold gX;rw [e];rfl]
  · rw [show gX a b=1 by(have e:gQ a.length b.length=1:=by unfold gQ;rw [if_neg h1,if_pos (by omega)]);unfold gX;rw [e];rfl]
  have hl:a.length=b.length:=by omega
  have e0:gX a b=Dl a b:=by unfold gX;rw [jC.2 (by omega),if_neg (by simp)]
  refine ay (fun(y:Int×List aj×List aj×Unit)=>y.2.1=a∧y.2.2.1=b∧0≤y.1∧y.1≤a.length∧gX a b=Dl (a.drop y.1.toNat) (b.drop y.1.toNat)) (fun y=>(a.length-y.1).toNat) ⟨rfl,rfl,by simp,by simp,by simpa using e0⟩ ?_
  rintro⟨(i:Int),(l:List aj),(l':List aj),⟨⟩⟩ hI
  dsimp only at hI ⊢
  obtain⟨rfl,rfl,h1,h2,h3⟩:=hI
  simp (disch:=omega) only [RR,hp4 _ _ (ha.at _),hf4 _ _ (ha.at _)]
  refine⟨fun h4=> ?_,fun h4=> ?_⟩
  · have e:=Dm l l' i.toNat (by omega) (by omega)
    rw [getD_lt (by omega),getD_lt (by omega)]
    generalize hu:l[i.toNat]=u at e ⊢
    generalize hv:l'[i.toNat]=v at e ⊢
    have em:MF u v=if dN u.atoms v.atoms≠0 then dN u.atoms v.atoms else gQ u.bK v.bK:=rfl
    refine⟨by omega,by omega,by omega,by omega,fun h5=> ?_,fun h5=>⟨by omega,by omega,by omega,by omega,fun h6=>⟨by omega,by omega,by omega,by omega,fun h7=> ?_,fun h7=> ?_⟩,fun h6=>⟨⟨by omega,by omega,?_⟩,by omega⟩⟩⟩
    · rw [if_pos h5]at em
      rw [h3,e,em,if_pos h5]
    · rw [if_neg (by simpa using h5),show gQ u.bK v.bK= -1 by unfold gQ;rw [if_pos h7]]at em
      rw [h3,e,em];rfl
    · rw [if_neg (by simpa using h5),show gQ u.bK v.bK=1 by unfold gQ;rw [if_neg h7,if_pos (by omega)]]at em
      rw [h3,e,em];rfl
    · rw [if_neg (by simpa using h5),jC.2 h6]at em
      rw [h3,e,em,show(i+1).toNat=i.toNat+1 by omega];rfl
  · rw [h3,List.drop_eq_nil_of_le (by omega)];rfl
theorem aax (a:Atom):GU (std 0) (a,()) (fun y=>y=(bp (a.x=[]∧a.y=[]),())):=by
  dsimp only [GU,Alg.cl,Alg.cg,Alg.rb,Alg.bd,Alg.l1,Tup.q,Tup.o]
  simp (disch:=omega) only [RR]
  refine congrArg (fun b=>(b,())) ?_
  rw [Bool.eq_iff_iff,bg,Bool.and_eq_true,decide_eq_true_eq,decide_eq_true_eq]
  constructor
  · rintro⟨h1,h2⟩;exact⟨List.eq_nil_of_length_eq_zero (by omega),List.eq_nil_of_length_eq_zero (by omega)⟩
  · rintro⟨h1,h2⟩;rw [h1,h2];exact⟨rfl,rfl⟩
theorem aay {p1:Int×Int×Int×Unit→Bool} {f1:Int×Int×Int×Unit→Bool×Unit} (hp1:∀a b c,p1 (a,b,c,())=true) (hf1:∀a b c,f1 (a,b,c,())=(inB a b c,()))
    {p4:List aj×Unit→Bool} {f4:List aj×Unit→Bool×Unit} (hp4:∀a,Sh a→p4 (a,())=true) (hf4:∀a,Sh a→f4 (a,())=(bp (aN a),()))
    {p3:List aj×Int×Unit→Bool} {f3:List aj×Int×Unit→Bool×Unit} (hp3:∀a n,Sh a→p3 (a,n,())=true) (hf3:∀a n,Sh a→f3 (a,n,())=(bp (aR a n),()))
    {p5:Atom×Unit→Bool} {f5:Atom×Unit→Bool×Unit} (hp5:∀a,p5 (a,())=true) (hf5:∀a,f5 (a,())=(bp (a.x=[]∧a.y=[]),())) (a:Atom) (n:Int) (ha:ShA a):
    GX (std 0) p1 f1 p4 f4 p3 f3 p5 f5 (a,n,()) (fun y=>y=(bp (fO a n),())):=by
  obtain⟨hx,hy⟩:=ha
  dsimp only [GX,Alg.cl,Alg.cg,Alg.rb,Alg.bd,Alg.l1,Tup.q,Tup.o]
  simp (disch:=omega) only [RR,hp1,hf1,hp5,hf5,hp3 a.x n hx,hf3 a.x n hx,hp3 a.y n hy,hf3 a.y n hy,hp4 a.x hx,hf4 a.x hx,hp4 a.y hy,hf4 a.y hy]
  unfold fO
  have E:∀(b:Bool) (P:Prop),(b=true↔P)→(b,())=(bp P,()):=fun b P h=>by
    rw [show b=bp P from Bool.eq_iff_iff.2 (h.trans bg.symm)]
  have T:∀ {P:Prop},¬P→(false,())=(bp P,()):=fun h=>by rw [fK h]
  refine⟨fun h=>E _ _ ?_,fun h=>⟨fun h1=>⟨fun _=>E _ _ ?_,fun h'=>absurd h1 h'⟩,fun h1=>⟨fun h2=>E _ _ ?_,fun h2=>⟨fun h3=>E _ _ ?_,fun h3=>T ?_⟩⟩⟩⟩
  · rw [if_neg (by omega),Bool.and_eq_true,dx,bg]
    constructor
    · rintro⟨g1,g2⟩;exact⟨g2,Or.inl ⟨h,g1⟩⟩
    · rintro⟨g2,⟨_,g1⟩ | ⟨g3,g1⟩⟩
      · exact⟨g1,g2⟩
      · omega
  · rw [if_neg (by omega),Bool.and_eq_true,dx,bg]
    constructor
    · rintro⟨g1,g2⟩;exact⟨g2,Or.inr ⟨Or.inl h1,g1⟩⟩
    · rintro⟨g2,⟨_,g1⟩ | ⟨g3,g1⟩⟩
      · omega
      · exact⟨g1,g2⟩
  · rw [if_neg (by omega),Bool.and_eq_true,dx,bg]
    constructor
    · rintro⟨g1,g2⟩;exact⟨g2,Or.inr ⟨Or.inr h2,g1⟩⟩
    · rintro⟨g2,⟨_,g1⟩ | ⟨g3,g1⟩⟩
      · omega
      · exact⟨g1,g2⟩
  · rw [if_pos h3]
    simp only [Bool.and_eq_true,dx,bg,and_assoc]
  · rw [if_neg h3]
    rintro⟨_,⟨g,_⟩ | ⟨g,_⟩⟩<;>omega
theorem aaz {p1:List aj×List aj×Unit→Bool} {f1:List aj×List aj×Unit→Int×Unit} (hp1:∀a b,Sh a→p1 (a,b,())=true) (hf1:∀a b,Sh a→f1 (a,b,())=(gX a b,())) (a b:Atom) (ha:ShA a):
    G5 (std 0) p1 f1 (a,b,()) (fun y=>y=(oK a b,())):=by
  dsimp only [G5,Alg.cl,Alg.cg,Alg.rb,Alg.bd,Alg.l1,Tup.q,Tup.o]
  simp (disch:=omega) only [RR,hp1 a.x b.x ha.1,hf1 a.x b.x ha.1,hp1 a.y b.y ha.2,hf1 a.y b.y ha.2]
  rfl
theorem aaA (G:Int→Prop):∀n:Nat,∃r,Idx n G r
  | 0=>⟨-1,Or.inl ⟨rfl,All.zero⟩⟩
  | n+1=>by
    obtain⟨r,h⟩:=aaA G n
    rcases h with⟨h1,h2⟩ | ⟨h1,h2,h3,h4⟩
    · by_cases g:G n
      · exact⟨n,Or.inr ⟨by omega,by omega,g,h2⟩⟩
      · exact⟨-1,Or.inl ⟨rfl,by have:=h2.snoc g;exact this.le (by omega)⟩⟩
    · exact⟨r,Or.inr ⟨h1,by omega,h3,h4⟩⟩
theorem TN (G:Int→Prop) (n:Nat):Idx n G (idxOf n G):=by
  obtain⟨r,h⟩:=aaA G n
  rw [←h.eq];exact h
theorem l8 (t:List Atom) (a:Atom):Idx t.length (fun i=>a=t.getD i.toNat default) (sV t a):=by
  have:=TN (fun i=>oK a (t.getD i.toNat default)=true) t.length
  simp only [nL]at this
  unfold sV;simp only [nL];exact this
theorem l9 {t:List Atom}:aJ t↔All t.length (fun i=>fO (t.getD i.toNat default) i∧All i (fun j=>¬t.getD i.toNat default=t.getD j.toNat default))∧t.length≤200:=by
  unfold aJ
  refine and_congr ⟨fun h i h1 h2=>⟨(h i h1 h2).1,?_⟩,fun h i h1 h2=>⟨(h i h1 h2).1,?_⟩⟩ Iff.rfl
  · have:=l8 t (t.getD i.toNat default)
    rw [(h i h1 h2).2]at this
    rcases this with⟨g1,_⟩ | ⟨_,_,_,g⟩
    · omega
    · exact g
  · exact((l8 t (t.getD i.toNat default)).uniq (Or.inr ⟨h1,h2,rfl,(h i h1 h2).2⟩))
theorem aaB {p1:Atom×Int×Unit→Bool} {f1:Atom×Int×Unit→Bool×Unit} (hp1:∀a n,ShA a→p1 (a,n,())=true) (hf1:∀a n,ShA a→f1 (a,n,())=(bp (fO a n),()))
    {p2:Atom×Atom×Unit→Bool} {f2:Atom×Atom×Unit→Bool×Unit} (hp2:∀a b,ShA a→p2 (a,b,())=true) (hf2:∀a b,ShA a→f2 (a,b,())=(oK a b,())) (a:List Atom) (ha:ShT a):
    G6 (std 0) p1 f1 p2 f2 (a,()) (fun y=>y=(bp (aJ a),())):=by
  have hlen:=ha.1
  dsimp only [G6,Alg.cl,Alg.cg,Alg.rb,Alg.bd,Alg.l1,Tup.q,Tup.o]
  simp (disch:=omega) only [RR]
  refine⟨fun h=> ?_,fun h=> ?_⟩
  · rw [fK (fun h2=>by have:=h2.2;omega)]
  refine ay (fun(y:Int×List Atom×Unit)=>y.2.1=a∧0≤y.1∧y.1≤a.length∧All y.1 (fun i=>fO ((a).getD (i).toNat default) i∧All i (fun j=>¬((a).getD (i).toNat default)=((a).getD (j).toNat default)))) (fun y=>(a.length-y.1).toNat) ⟨rfl,by simp,by simp,All.zero⟩ ?_
  rintro⟨(i:Int),(l:List Atom),⟨⟩⟩ hI
  dsimp only at hI ⊢
  obtain⟨rfl,h1,h2,h3⟩:=hI
  simp (disch:=omega) only [RR,hp1 _ _ (ha.at _),hf1 _ _ (ha.at _),bg,lT]
  refine⟨fun h4=>⟨by omega,by omega,fun h5=> ?_,fun h5=> ?_⟩,fun h4=> ?_⟩
  · rw [fK (fun h=>h5 (h.1 i h1 h4).1)]
  · refine ay (fun(y:Int×Int×List Atom×Unit)=>y.1=i∧y.2.2.1=l∧0≤y.2.1∧y.2.1≤i∧All y.2.1 (fun j=>¬((l).getD (i).toNat default)=((l).getD (j).toNat default))) (fun y=>(i-y.2.1).toNat) ⟨rfl,rfl,by simp,by simp;omega,All.zero⟩ ?_
    rintro⟨(i':Int),(j:Int),(l':List Atom),⟨⟩⟩ hI
    dsimp only at hI ⊢
    obtain⟨rfl,rfl,g1,g2,g3⟩:=hI
    simp (disch:=omega) only [RR,hp2 _ _ (ha.at _),hf2 _ _ (ha.at _)]
    refine⟨fun g4=>⟨by omega,by omega,by omega,by omega,fun g5=> ?_,fun g5=>⟨⟨by omega,by omega,g3.snoc ?_⟩,by omega⟩⟩,fun g4=>⟨⟨by omega,by omega,h3.snoc ⟨h5,g3.le (by omega)⟩⟩,by omega⟩⟩
    · rw [fK (fun h=>((l9.1 h).1 i' h1 h4).2 j g1 g4 (nL.1 g5).symm)]
    · intro e;rw [nL.2 e.symm]at g5;cases g5
  · rw [eF (l9.2 ⟨h3.le (by omega),by omega⟩)]
theorem aaC {p4:List aj×Unit→Bool} {f4:List aj×Unit→Bool×Unit} (hp4:∀a,Sh a→p4 (a,())=true) (hf4:∀a,Sh a→f4 (a,())=(bp (aN a),()))
    {p3:List aj×Int×Unit→Bool} {f3:List aj×Int×Unit→Bool×Unit} (hp3:∀a n,Sh a→p3 (a,n,())=true) (hf3:∀a n,Sh a→f3 (a,n,())=(bp (aR a n),()))
    (x y:List aj) (n:Int) (hx:Sh x) (hy:Sh y):Jg (std 0) p4 f4 p3 f3 (x,y,n,()) (fun z=>z=(bp (aN x∧aN y∧aR x n∧aR y n),())):=by
  dsimp only [Jg,Alg.cl,Alg.cg,Alg.rb,Alg.bd,Alg.l1,Tup.q,Tup.o]
  simp (disch:=omega) only [RR,hp3 x n hx,hf3 x n hx,hp3 y n hy,hf3 y n hy,hp4 x hx,hf4 x hx,hp4 y hy,hf4 y hy]
  refine congrArg (fun b=>(b,())) ?_
  rw [Bool.eq_iff_iff,bg]
  simp only [Bool.and_eq_true,bg,and_assoc]
theorem aaD {p1:Int×Unit→Bool} {f1:Int×Unit→Bool×Unit} (hp1:∀a,p1 (a,())=true) (hf1:∀a,f1 (a,())=(inB a 0 65535,()))
    {p2:Int×Unit→Bool} {f2:Int×Unit→Int×Unit} (hp2:∀a,p2 (a,())=true) (hf2:∀a,f2 (a,())=(a%65536,())) (op a b:Int):
    Hl (std 0) p2 f2 p1 f1 (op,a,b,()) (fun y=>y=(wdo op a b,())):=by
  dsimp only [Hl,Alg.cl,Alg.cg,Alg.rb,Alg.bd,Alg.l1,Tup.q,Tup.o]
  simp (disch:=omega) only [RR,hp1,hf1,hp2,hf2,TL,TM,dx,nC]
  by_cases ha:(0≤a∧a≤65535)∧(0≤b∧b≤65535)
  · have hm:0≤a*b∧a*b≤65535*65535:=⟨Int.mul_nonneg ha.1.1 ha.2.1,Int.mul_le_mul ha.1.2 ha.2.2 ha.2.1 (by omega)⟩
    rw [w64 (x:=a+b) (by omega) (by omega),w64 (x:=a-b) (by omega) (by omega),w64 (x:=a*b) (by omega) (by omega)]
    unfold wdo
    rw [if_pos ha]
    refine⟨fun h=>absurd h (by omega),fun _=>⟨fun h=> ?_,fun h=>⟨fun h1=> ?_,fun h1=>⟨fun h2=> ?_,fun h2=>⟨fun h3=> ?_,fun h3=>⟨fun h4=> ?_,fun h4=> ?_⟩⟩⟩⟩⟩⟩<;>(subst_vars;first | rfl | simp only [if_true,if_false, *])
  · refine⟨fun h=> ?_,fun h=>absurd h ?_⟩
    · unfold wdo;rw [if_neg ha]
    · exact ha
theorem aaE {p1:List aj×Unit→Bool} {f1:List aj×Unit→Bool×Unit} (hp1:∀a,Sh a→p1 (a,())=true) (hf1:∀a,Sh a→f1 (a,())=(bp (aN a),())) (a:List aj) (ha:Sh a):
    GH (std 0) p1 f1 (a,()) (fun y=>y=((dP a).1,(dP a).2,())):=by
  dsimp only [GH,Alg.cl,Alg.cg,Alg.rb,Alg.bd,Alg.l1,Tup.q,Tup.o]
  simp (disch:=omega) only [RR,hp1 a ha,hf1 a ha]
  unfold dP
  have z:Int.toNat 0=0:=rfl
  rw [z]
  refine⟨fun h=> ?_,fun h=>⟨fun h1=> ?_,fun h1=>⟨by omega,by omega,fun h2=> ?_,fun h2=>⟨by omega,by omega,?_⟩⟩⟩⟩
  · rw [if_neg (by simpa using h)]
  · rw [if_pos h,if_pos (by omega)]
  · rw [if_pos h,if_neg (by omega),if_neg (by omega)]
  · rw [if_pos h,if_neg (by omega),if_pos (by omega)]
theorem aaF (a:List aj) (ha:Sh a):Gr (std 0) (a,()) (fun y=>y=(a,())):=by
  have hlen:=ha.1
  dsimp only [Gr,Alg.cl,Alg.cg,Alg.rb,Alg.bd,Alg.l1,Tup.q,Tup.o]
  simp (disch:=omega) only [RR]
  refine ay (fun(y:List aj×Int×List aj×Unit)=>y.1=a∧y.2.2.1=a.take y.2.1.toNat∧0≤y.2.1∧y.2.1≤a.length) (fun y=>(a.length-y.2.1).toNat) ⟨rfl,by simp,by simp,by simp⟩ ?_
  rintro⟨(l:List aj),(i:Int),(o:List aj),⟨⟩⟩ hI
  dsimp only at hI ⊢
  obtain⟨rfl,rfl,h1,h2⟩:=hI
  have h3:=ha.at i.toNat
  have h4:=List.length_take_le' i.toNat l
  simp (disch:=omega) only [RR]
  simp only [List.length_nil,List.nil_append,List.length_cons]
  refine⟨fun h4=>⟨by omega,by omega,by omega,by omega,Or.inr (by omega),by omega,by omega,⟨dO h1 h4 rfl,by omega,by omega⟩,by omega⟩,fun h4=>by rw [List.take_of_length_le (by omega)]⟩
end Go.TX.F
namespace Go.TX.F
open Go Go.AE Go.TX
def Jr (l:List aj):Prop:=l.length≤12∧∀m∈l,m.atoms.length≤4
theorem aaG {p1:List aj×Unit→Bool} {f1:List aj×Unit→List aj×Unit} (hp1:∀a,Sh a→p1 (a,())=true) (hf1:∀a,Sh a→f1 (a,())=(a,())) (a:List aj) (ha:Sh a):
    Gs (std 0) p1 f1 (a,()) (fun y=>y=(bp (Jr a),if bp (Jr a)then a else [],())):=by
  have hlen:=ha.1
  dsimp only [Gs,Alg.cl,Alg.cg,Alg.rb,Alg.bd,Alg.l1,Tup.q,Tup.o]
  simp (disch:=omega) only [RR]
  refine⟨fun h=> ?_,fun h=> ?_⟩
  · rw [fK (fun h2=>by have:=h2.1;omega)];rfl
  refine ay (fun(y:List aj×Int×Unit)=>y.1=a∧0≤y.2.1∧y.2.1≤a.length∧All y.2.1 (fun i=>((a).getD (i).toNat default).atoms.length≤4)) (fun y=>(a.length-y.2.1).toNat) ⟨rfl,by simp,by simp,All.zero⟩ ?_
  rintro⟨(l:List aj),(i:Int),⟨⟩⟩ hI
  dsimp only at hI ⊢
  obtain⟨rfl,h1,h2,h3⟩:=hI
  simp (disch:=omega) only [RR,hp1 l ha,hf1 l ha]
  refine⟨fun h4=>⟨by omega,by omega,fun h5=> ?_,fun h5=>⟨⟨by omega,by omega,h3.snoc (by omega)⟩,by omega⟩⟩,fun h4=> ?_⟩
  · rw [fK (fun h=>by have:=h.2 _ (dM (d:=default) h1 h4);omega)];rfl
  · rw [eF (show Jr l from⟨by omega,oL (d:=default) (G:=fun m:aj=>m.atoms.length≤4).1 (h3.le (by omega))⟩)];rfl
theorem aaH {p1:List aj×Unit→Bool} {f1:List aj×Unit→List aj×Unit} (hp1:∀a,Sh a→p1 (a,())=true) (hf1:∀a,Sh a→f1 (a,())=(a,())) (a:Atom) (ha:ShA a):
    G7 (std 0) p1 f1 (a,()) (fun y=>y=(a.kind,a.k,a.x,a.y,())):=by
  dsimp only [G7,Alg.cl,Alg.cg,Alg.rb,Alg.bd,Alg.l1,Tup.q,Tup.o]
  simp (disch:=omega) only [RR,hp1 a.x ha.1,hf1 a.x ha.1,hp1 a.y ha.2,hf1 a.y ha.2]
theorem aaI {p1:Atom×Unit→Bool} {f1:Atom×Unit→Int×Int×List aj×List aj×Unit} (hp1:∀a,ShA a→p1 (a,())=true) (hf1:∀a,ShA a→f1 (a,())=(a.kind,a.k,a.x,a.y,())) (a:List Atom) (ha:ShT a):
    G8 (std 0) p1 f1 (a,()) (fun y=>y=(a,())):=by
  have hlen:=ha.1
  dsimp only [G8,Alg.cl,Alg.cg,Alg.rb,Alg.bd,Alg.l1,Tup.q,Tup.o]
  simp (disch:=omega) only [RR]
  refine ay (fun(y:Int×List Atom×List Atom×Unit)=>y.2.1=a∧y.2.2.1=a.take y.1.toNat∧0≤y.1∧y.1≤a.length) (fun y=>(a.length-y.1).toNat) ⟨rfl,by simp,by simp,by simp⟩ ?_
  rintro⟨(i:Int),(l:List Atom),(o:List Atom),⟨⟩⟩ hI
  dsimp only at hI ⊢
  obtain⟨rfl,rfl,h1,h2⟩:=hI
  simp (disch:=omega) only [RR,hp1 _ (ha.at _),hf1 _ (ha.at _)]
  have h5:=List.length_take_le' i.toNat l
  refine⟨fun h4=>⟨by omega,by omega,?_,⟨dO h1 h4 rfl,by omega,by omega⟩,by omega⟩,fun h4=>by rw [List.take_of_length_le (by omega)]⟩
  simp only [List.length_cons,List.length_nil];omega
theorem xH {p:List aj} {n m:Int} (h:aR p n) (h2:n≤m):aR p m:=dB.2 fun a ha k hk=>by have:=dB.1 h a ha k hk;omega
theorem aaJ {a:Atom} {n m:Int} (h:fO a n) (h2:n≤m):fO a m:=by
  unfold fO at h ⊢
  split
  · rename_i h3;rw [if_pos h3]at h;exact⟨h.1,h.2.1,h.2.2.1,xH h.2.2.2.1 h2,xH h.2.2.2.2 h2⟩
  · rename_i h3;rw [if_neg h3]at h;exact h
theorem aaK {p1:Atom×Int×Unit→Bool} {f1:Atom×Int×Unit→Bool×Unit} (hp1:∀a n,ShA a→p1 (a,n,())=true) (hf1:∀a n,ShA a→f1 (a,n,())=(bp (fO a n),()))
    {p2:Atom×Atom×Unit→Bool} {f2:Atom×Atom×Unit→Bool×Unit} (hp2:∀a b,ShA a→p2 (a,b,())=true) (hf2:∀a b,ShA a→f2 (a,b,())=(oK a b,()))
    {p3:Atom×Unit→Bool} {f3:Atom×Unit→Int×Int×List aj×List aj×Unit} (hp3:∀a,ShA a→p3 (a,())=true) (hf3:∀a,ShA a→f3 (a,())=(a.kind,a.k,a.x,a.y,()))
    (a:Atom) (t:List Atom) (ha:ShA a) (ht:ShT t) (hok:aJ t):G9 (std 0) p1 f1 p2 f2 p3 f3 (a,t,()) (fun y=>y=((bD t a).2,(bD t a).1,())):=by
  have hlen:=ht.1
  dsimp only [G9,Alg.cl,Alg.cg,Alg.rb,Alg.bd,Alg.l1,Tup.q,Tup.o]
  simp (disch:=omega) only [RR,hp1 _ _ ha,hf1 _ _ ha,bg,lT]
  have hsp:=l8 t a
  refine⟨fun h=> ?_,fun h=> ?_⟩
  · have:sV t a= -1:=by
      rcases hsp with⟨g,_⟩ | ⟨g1,g2,g3,_⟩
      · exact g
      · exfalso;apply h
        have:=(hok.1 _ g1 g2).1
        rw [←g3]at this;exact aaJ this (by omega)
    unfold bD
    rw [this,if_neg (by omega),if_pos (Or.inl h)]
  refine ay (fun(y:Int×List Atom×Atom×Unit)=>y.2.1=t∧y.2.2.1=a∧0≤y.1∧y.1≤t.length∧All y.1 (fun i=>¬a=t.getD i.toNat default)) (fun y=>(t.length-y.1).toNat) ⟨rfl,rfl,by simp,by simp,All.zero⟩ ?_
  rintro⟨(i:Int),(l:List Atom),(a':Atom),⟨⟩⟩ hI
  dsimp only at hI ⊢
  obtain⟨rfl,rfl,h1,h2,h3⟩:=hI
  simp (disch:=omega) only [RR,hp2 _ _ (ht.at _),hf2 _ _ (ht.at _),hp3 _ ha,hf3 _ ha]
  refine⟨fun h4=>⟨by omega,by omega,by omega,by omega,fun h5=> ?_,fun h5=>⟨⟨by omega,by omega,h3.snoc ?_⟩,by omega⟩⟩,fun h4=> ?_⟩
  · have e:=(nL.1 h5).symm
    have:sV l a'=i:=hsp.uniq (Or.inr ⟨h1,h4,e,h3⟩)
    unfold bD;rw [this,if_pos h1]
  · intro e;rw [nL.2 e.symm]at h5;cases h5
  · have:sV l a'= -1:=hsp.uniq (Or.inl ⟨rfl,h3.le (by omega)⟩)
    unfold bD;rw [this,if_neg (by omega)]
    refine⟨fun h5=> ?_,fun h5=>⟨?_,?_⟩⟩
    · rw [if_pos (Or.inr (by omega))]
    · simp only [List.length_cons,List.length_nil];omega
    · rw [if_neg (by rintro(g | g);exact g h;omega),List.length_append]
      rw [w64 (by simp only [List.length_cons,List.length_nil];omega) (by simp only [List.length_cons,List.length_nil];omega)]
      simp only [List.length_cons,List.length_nil]
      rw [show(((l.length+(0+1):Nat):Int)-1)=l.length by omega]
def Ea (op n:Int) (y:List aj):List aj×Bool:=if op=4∧n=0 then([],true)else if(op=4∧n=65535)∨(op=5∧n=0)then(y,true)else([],false)
theorem aaL {p1:List aj×Unit→Bool} {f1:List aj×Unit→List aj×Unit} (hp1:∀a,Sh a→p1 (a,())=true) (hf1:∀a,Sh a→f1 (a,())=(a,())) (op n:Int) (y:List aj) (hy:Sh y):
    Ho (std 0) p1 f1 (op,n,y,()) (fun z=>z=((Ea op n y).2,(Ea op n y).1,())):=by
  dsimp only [Ho,Alg.cl,Alg.cg,Alg.rb,Alg.bd,Alg.l1,Tup.q,Tup.o]
  simp (disch:=omega) only [RR,hp1 y hy,hf1 y hy]
  unfold Ea
  by_cases c1:op=4<;>by_cases c2:n=0<;>by_cases c3:n=65535<;>by_cases c4:op=5<;>simp [c1,c2,c3,c4]<;>omega
theorem afi (op:Int) (x y:List aj):Jq op x y=if(dP x).2&& (dP y).2 then(dI (wdo op (dP x).1 (dP y).1),true)
    else if gX x y=0 then(if op=4 then(x,true)else([],true))else if(dP x).2 then Ea op (dP x).1 y else if(dP y).2 then Ea op (dP y).1 x else([],false):=by
  unfold Jq Ea
  by_cases c1:gX x y=0<;>by_cases c2:op=4<;>simp [c1,c2]
theorem aaM {p1:List aj×List aj×Unit→Bool} {f1:List aj×List aj×Unit→Int×Unit} (hp1:∀a b,Sh a→p1 (a,b,())=true) (hf1:∀a b,Sh a→f1 (a,b,())=(gX a b,()))
    {p2:List aj×Unit→Bool} {f2:List aj×Unit→List aj×Unit} (hp2:∀a,Sh a→p2 (a,())=true) (hf2:∀a,Sh a→f2 (a,())=(a,()))
    {p3:Int×Int×Int×Unit→Bool} {f3:Int×Int×Int×Unit→Int×Unit} (hp3:∀op a b,p3 (op,a,b,())=true) (hf3:∀op a b,f3 (op,a,b,())=(wdo op a b,()))
    {p4:Int×Unit→Bool} {f4:Int×Unit→List aj×Unit} (hp4:∀n,p4 (n,())=true) (hf4:∀n,f4 (n,())=(dI n,()))
    {p7:List aj×Unit→Bool} {f7:List aj×Unit→Int×Bool×Unit} (hp7:∀a,Sh a→p7 (a,())=true) (hf7:∀a,Sh a→f7 (a,())=((dP a).1,(dP a).2,()))
    {p8:Int×Int×List aj×Unit→Bool} {f8:Int×Int×List aj×Unit→Bool×List aj×Unit} (hp8:∀op n y,Sh y→p8 (op,n,y,())=true) (hf8:∀op n y,Sh y→f8 (op,n,y,())=((Ea op n y).2,(Ea op n y).1,()))
    (op:Int) (x y:List aj) (hx:Sh x) (hy:Sh y):Hq (std 0) p1 f1 p2 f2 p3 f3 p4 f4 p7 f7 p8 f8 (op,x,y,()) (fun z=>z=((Jq op x y).2,(Jq op x y).1,())):=by
  dsimp only [Hq,Alg.cl,Alg.cg,Alg.rb,Alg.bd,Alg.l1,Tup.q,Tup.o]
  simp (disch:=omega) only [RR,hp1 x y hx,hf1 x y hx,hp2 x hx,hf2 x hx,hp3,hf3,hp4,hf4,hp7 x hx,hf7 x hx,hp7 y hy,hf7 y hy,hp8 op _ y hy,hf8 op _ y hy,hp8 op _ x hx,hf8 op _ x hx]
  rw [afi]
  generalize dP x=nx
  generalize dP y=ny
  obtain⟨n,bn⟩:=nx
  obtain⟨m,bm⟩:=ny
  dsimp only
  by_cases e:gX x y=0<;>by_cases o4:op=4<;>cases bn<;>cases bm<;>simp [e,o4]
noncomputable def Js (op:Int) (x y:List aj):List aj×Bool:=
  if op=1 then((mY x y).2,(mY x y).1)else if op=2 then((mY x (jq y 65535)).2,(mY x (jq y 65535)).1)else if op=3 then((l7 x y).2,(l7 x y).1)else([],false)
theorem aaN
    {p5:List aj×List aj×Unit→Bool} {f5:List aj×List aj×Unit→Bool×List aj×Unit} (hp5:∀a b,Sh a→Sh b→p5 (a,b,())=true) (hf5:∀a b,Sh a→Sh b→f5 (a,b,())=((l7 a b).1,(l7 a b).2,()))
    {p4:List aj×List aj×Unit→Bool} {f4:List aj×List aj×Unit→Bool×List aj×Unit} (hp4:∀a b,Sh a→Sh b→p4 (a,b,())=true) (hf4:∀a b,Sh a→Sh b→f4 (a,b,())=((mY a b).1,(mY a b).2,()))
    {p6:List aj×Int×Unit→Bool} {f6:List aj×Int×Unit→List aj×Unit} (hp6:∀a n,Sh a→p6 (a,n,())=true) (hf6:∀a n,Sh a→f6 (a,n,())=(jq a n,()))
    (op:Int) (x y:List aj) (hx:Sh x) (hy:Sh y):Hg (std 0) p5 f5 p4 f4 p6 f6 (op,x,y,()) (fun z=>z=((Js op x y).2,(Js op x y).1,())):=by
  dsimp only [Hg,Alg.cl,Alg.cg,Alg.rb,Alg.bd,Alg.l1,Tup.q,Tup.o]
  simp (disch:=omega) only [RR,hp4 x y hx hy,hf4 x y hx hy,hp4 x _ hx (xG y 65535),hf4 x _ hx (xG y 65535),hp5 x y hx hy,hf5 x y hx hy,hp6 y _ hy,hf6 y _ hy]
  unfold Js
  refine⟨fun h=>by rw [if_pos h],fun h=>⟨fun h1=>by rw [if_neg h,if_pos h1],fun h1=>⟨fun h2=>by rw [if_neg h,if_neg h1,if_pos h2],fun h2=>by rw [if_neg h,if_neg h1,if_neg h2]⟩⟩⟩
theorem aaO {p1:Int×Unit→Bool} {f1:Int×Unit→List aj×Unit} (hp1:∀n,p1 (n,())=true) (hf1:∀n,f1 (n,())=(fG n,()))
    {p2:List aj×List aj×Unit→Bool} {f2:List aj×List aj×Unit→Int×Unit} (hp2:∀a b,Sh a→p2 (a,b,())=true) (hf2:∀a b,Sh a→f2 (a,b,())=(gX a b,()))
    {p3:Int×List aj×List aj×Unit→Bool} {f3:Int×List aj×List aj×Unit→Bool×List aj×Unit} (hp3:∀op x y,Sh x→Sh y→p3 (op,x,y,())=true) (hf3:∀op x y,Sh x→Sh y→f3 (op,x,y,())=((Js op x y).2,(Js op x y).1,()))
    {p4:Int×List aj×List aj×Unit→Bool} {f4:Int×List aj×List aj×Unit→Bool×List aj×Unit} (hp4:∀op x y,Sh x→Sh y→p4 (op,x,y,())=true) (hf4:∀op x y,Sh x→Sh y→f4 (op,x,y,())=((Jq op x y).2,(Jq op x y).1,()))
    {p5:Atom×List Atom×Unit→Bool} {f5:Atom×List Atom×Unit→Int×List Atom×Unit} (hp5:∀a t,ShA a→ShT t→aJ t→p5 (a,t,())=true) (hf5:∀a t,ShA a→ShT t→aJ t→f5 (a,t,())=((bD t a).2,(bD t a).1,()))
    (op:Int) (x y:List aj) (t:List Atom) (hop:1≤op∧op≤5) (hx:Sh x) (hy:Sh y) (ht:ShT t) (hok:aJ t):Hr (std 0) p1 f1 p2 f2 p3 f3 p4 f4 p5 f5 (op,x,y,t,()) (fun z=>z=((tDo t op x y).1,(tDo t op x y).2,())):=by
  have s1:ShA ⟨4,op,x,y⟩:=⟨hx,hy⟩
  have s2:ShA ⟨4,op,y,x⟩:=⟨hy,hx⟩
  dsimp only [Hr,Alg.cl,Alg.cg,Alg.rb,Alg.bd,Alg.l1,Tup.q,Tup.o]
  simp (disch:=omega) only [RR,hp1,hf1,hp2 x y hx,hf2 x y hx,hp3 op x y hx hy,hf3 op x y hx hy,hp4 op x y hx hy,hf4 op x y hx hy,hp5 _ _ s1 ht hok,hf5 _ _ s1 ht hok,hp5 _ _ s2 ht hok,hf5 _ _ s2 ht hok]
  have e1:(op=4∨op=5)→Jq op x y=jr op x y:=fun h=>by unfold jr;rw [if_neg (by omega),if_neg (by omega),if_neg (by omega)]
  have e2:¬(op=4∨op=5)→Js op x y=jr op x y:=fun h=>by
    unfold jr Js
    by_cases c1:op=1
    · rw [if_pos c1,if_pos c1]
    · rw [if_neg c1,if_neg c1]
      by_cases c2:op=2
      · rw [if_pos c2,if_pos c2]
      · rw [if_neg c2,if_neg c2,if_pos (by omega),if_pos (by omega)]
  unfold tDo
  by_cases c:op=4∨op=5
  · rw [e1 c]
    generalize bD t ⟨4,op,y,x⟩=r1
    generalize bD t ⟨4,op,x,y⟩=r2
    generalize gX x y=o
    generalize jr op x y=s
    obtain⟨p,b⟩:=s
    have c':¬op=2:=by omega
    cases b<;>by_cases c2:0<o<;>by_cases c3:r1.2<0<;>by_cases c4:r2.2<0<;>simp [c,c',c2,c3,c4]<;>omega
  · rw [e2 c]
    generalize bD t ⟨4,op,y,x⟩=r1
    generalize bD t ⟨4,op,x,y⟩=r2
    generalize gX x y=o
    generalize jr op x y=s
    obtain⟨p,b⟩:=s
    obtain⟨n4,n5⟩:=not_or.1 c
    cases b<;>by_cases c1:op=2<;>by_cases c2:0<o<;>by_cases c3:r1.2<0<;>by_cases c4:r2.2<0<;>simp [n4,n5,c1,c2,c3,c4]
theorem aaP {t:List Atom} {op:Int} {x y:List aj}:(bp (aJ t)&&inB op 1 5&&bp (aN x∧aN y∧aR x t.length∧aR y t.length))=true→vO t op x y=tDo t op x y:=fun h=>by
  simp only [Bool.and_eq_true,bg,dx,and_assoc]at h
  unfold vO;rw [if_pos (by simpa only [and_assoc]using h)]
theorem X4 {t:List Atom} {op:Int} {x y:List aj}:¬(bp (aJ t)&&inB op 1 5&&bp (aN x∧aN y∧aR x t.length∧aR y t.length))=true→vO t op x y=([],[]):=fun h=>by
  simp only [Bool.and_eq_true,bg,dx,and_assoc]at h
  unfold vO;rw [if_neg (by simpa only [and_assoc]using h)]
theorem aaQ {p1:Int×Int×Int×Unit→Bool} {f1:Int×Int×Int×Unit→Bool×Unit} (hp1:∀a b c,p1 (a,b,c,())=true) (hf1:∀a b c,f1 (a,b,c,())=(inB a b c,()))
    {p2:List Atom×Unit→Bool} {f2:List Atom×Unit→Bool×Unit} (hp2:∀a,ShT a→p2 (a,())=true) (hf2:∀a,ShT a→f2 (a,())=(bp (aJ a),()))
    {p3:List aj×List aj×Int×Unit→Bool} {f3:List aj×List aj×Int×Unit→Bool×Unit} (hp3:∀x y n,Sh x→Sh y→p3 (x,y,n,())=true) (hf3:∀x y n,Sh x→Sh y→f3 (x,y,n,())=(bp (aN x∧aN y∧aR x n∧aR y n),()))
    {p4:Int×List aj×List aj×List Atom×Unit→Bool} {f4:Int×List aj×List aj×List Atom×Unit→List Atom×List aj×Unit} (hp4:∀op x y t,1≤op∧op≤5→Sh x→Sh y→ShT t→aJ t→p4 (op,x,y,t,())=true) (hf4:∀op x y t,1≤op∧op≤5→Sh x→Sh y→ShT t→aJ t→f4 (op,x,y,t,())=((tDo t op x y).1,(tDo t op x y).2,()))
    {p5:List Atom×Unit→Bool} {f5:List Atom×Unit→List Atom×Unit} (hp5:∀a,ShT a→p5 (a,())=true) (hf5:∀a,ShT a→f5 (a,())=(a,()))
    (t:List Atom) (op:Int) (x y:List aj) (ht:ShT t) (hx:Sh x) (hy:Sh y):Jh (std 0) p1 f1 p2 f2 p3 f3 p4 f4 p5 f5 (t,op,x,y,()) (fun z=>z=((vO t op x y).1,(vO t op x y).2,())):=by
  dsimp only [Jh,Alg.cl,Alg.cg,Alg.rb,Alg.bd,Alg.l1,Tup.q,Tup.o]
  simp (disch:=omega) only [RR,hp1,hf1,hp2 t ht,hf2 t ht,hp3 x y _ hx hy,hf3 x y _ hx hy,hp5 t ht,hf5 t ht]
  refine⟨fun h=> ?_,fun h=> ?_⟩
  · rw [X4]
    intro g
    simp only [Bool.and_eq_true]at g
    rcases h with(h | h) | h
    · rw [g.1.1]at h;cases h
    · rw [g.1.2]at h;cases h
    · rw [g.2]at h;cases h
  · rw [aaP (by rw [h.1.1,h.1.2,h.2];rfl)]
    have h1:=bg.1 h.1.1
    have h2:=dx.1 h.1.2
    exact⟨hp4 _ _ _ _ h2 hx hy ht h1,by rw [hf4 _ _ _ _ h2 hx hy ht h1]⟩
theorem aaR {p2:List Atom×Unit→Bool} {f2:List Atom×Unit→Bool×Unit} (hp2:∀a,ShT a→p2 (a,())=true) (hf2:∀a,ShT a→f2 (a,())=(bp (aJ a),()))
    {p3:Atom×List Atom×Unit→Bool} {f3:Atom×List Atom×Unit→Int×List Atom×Unit} (hp3:∀a t,ShA a→ShT t→aJ t→p3 (a,t,())=true) (hf3:∀a t,ShA a→ShT t→aJ t→f3 (a,t,())=((bD t a).2,(bD t a).1,()))
    {p5:List Atom×Unit→Bool} {f5:List Atom×Unit→List Atom×Unit} (hp5:∀a,ShT a→p5 (a,())=true) (hf5:∀a,ShT a→f5 (a,())=(a,()))
    (t:List Atom) (a:Atom) (ht:ShT t) (ha:ShA a):Ji (std 0) p2 f2 p3 f3 p5 f5 (t,a,()) (fun z=>z=if bp (aJ t)then((bD t a).2,(bD t a).1,())else(-1,[],())):=by
  dsimp only [Ji,Alg.cl,Alg.cg,Alg.rb,Alg.bd,Alg.l1,Tup.q,Tup.o]
  simp (disch:=omega) only [RR,hp2 t ht,hf2 t ht,hp5 t ht,hf5 t ht]
  refine⟨fun h=> ?_,fun h=> ?_⟩
  · rw [if_neg (by rw [h];simp)]
  · have h1:=bg.1 h
    rw [if_pos h,hf3 _ _ ha ht h1]
    exact⟨hp3 _ _ ha ht h1,rfl⟩
end Go.TX.F
namespace Go.TX.F
open Go Go.AE Go.TX
structure Plus (l:List aj) (m:aj) (o:List aj):Prop where
  nf:Nf o
  cf:∀k,cf o k=F.cf (l++ [m]) k%65536
  len:o.length≤l.length+1
theorem aaS {p1:List Int×List Int×Unit→Bool} {f1:List Int×List Int×Unit→Int×Unit} (hp1:∀a b,a.length<1000000000→p1 (a,b,())=true) (hf1:∀a b,a.length<1000000000→f1 (a,b,())=(dN a b,()))
    {p2:Int×Unit→Bool} {f2:Int×Unit→Int×Unit} (hp2:∀a,p2 (a,())=true) (hf2:∀a,f2 (a,())=(a%65536,()))
    (l:List aj) (m:aj) (hl:l.length<1000000000) (hn:Nf l) (hm:1≤m.bK∧m.bK≤65535) (hma:m.atoms.length<1000000000):Gq (std 0) p1 f1 p2 f2 (l,m,()) (fun y=>Plus l m y.1):=by
  dsimp only [Gq,Alg.cl,Alg.cg,Alg.rb,Alg.bd,Alg.l1,Tup.q,Tup.o]
  refine ay (fun(y:List aj×Bool×Int×aj×List aj×Unit)=>y.1=l∧y.2.2.2.1=m∧0≤y.2.2.1∧y.2.2.1≤l.length∧
      ((y.2.1=false∧y.2.2.2.2.1=l.take y.2.2.1.toNat∧∀x∈l.take y.2.2.1.toNat,lt x m)∨
       (y.2.1=true∧Nf y.2.2.2.2.1∧(∀k,cf y.2.2.2.2.1 k=cf (l.take y.2.2.1.toNat++ [m]) k%65536)∧(y.2.2.2.2.1.length:Int)≤y.2.2.1+1∧(y.2.2.1<l.length→lt m ((l).getD (y.2.2.1).toNat default)∧∀x∈y.2.2.2.2.1,lt x ((l).getD (y.2.2.1).toNat default))))) (fun y=>(l.length-y.2.2.1).toNat)
    ⟨rfl,rfl,by simp,by simp,Or.inl ⟨rfl,by simp,by simp⟩⟩ ?_
  rintro⟨(l':List aj),(dn:Bool),(i:Int),(m':aj),(o:List aj),⟨⟩⟩ hI
  dsimp only at hI ⊢
  obtain⟨rfl,rfl,h1,h2,h3⟩:=hI
  simp (disch:=omega) only [RR,hp1 _ _ hma,hf1 _ _ hma,hp2,hf2]
  have hss:=hn.ss
  have nx:i+1<l'.length→lt ((l').getD (i).toNat default) ((l').getD (i+1).toNat default):=fun h=>by
    have:=(dH (d:=default) (R:=lt) fD).1 hss (i+1) (by omega) h
    rw [show i+1-1=i by omega]at this;exact this
  have tk:i<l'.length→l'.take (i+1).toNat=l'.take i.toNat++ [((l').getD (i).toNat default)]:=fun h=>(dO h1 h rfl).symm
  have bf:i<l'.length→∀x∈l'.take i.toNat,lt x ((l').getD (i).toNat default):=fun h x hx=>by
    have:=hss
    rw [←List.take_append_drop i.toNat l',List.pairwise_append]at this
    refine this.2.2 x hx _ ?_
    rw [getD_lt (by omega),List.drop_eq_getElem_cons (show i.toNat<l'.length by omega)];exact List.mem_cons_self
  have lt0:=List.length_take_le' i.toNat l'
  have lt1:=List.length_take_le i.toNat l'
  have co:i<l'.length→1≤((l').getD (i).toNat default).bK∧((l').getD (i).toNat default).bK≤65535:=fun h=>hn.co _ (dM h1 h)
  have ntk:Nf (l'.take i.toNat):=⟨List.Pairwise.sublist (List.take_sublist _ _) hss,fun x hx=>hn.co x (List.mem_of_mem_take hx)⟩
  have aaT:∀ {a:List aj} {x:aj},Nf a→(∀y∈a,lt y x)→1≤x.bK∧x.bK≤65535→Nf (a++ [x]):=fun {a x} g1 g2 g3=>⟨by
    rw [List.pairwise_append]
    exact⟨g1.ss,List.pairwise_singleton _ _,fun y hy z hz=>by rw [List.mem_singleton]at hz;subst hz;exact g2 y hy⟩,fun y hy=>by
    rw [List.mem_append,List.mem_singleton]at hy
    rcases hy with hy | rfl
    · exact g1.co y hy
    · exact g3⟩
  have l1:∀(x:List aj) (y:aj),(x++ [y]).length=x.length+1:=fun x y=>by rw [List.length_append];rfl
  have fin:∀o,i=l'.length→Nf o→(∀k,cf o k=cf (l'.take i.toNat++ [m']) k%65536)→(o.length:Int)≤i+1→Plus l' m' o:=fun o e g1 g2 g3=>⟨g1,fun k=>by rw [g2 k,List.take_of_length_le (by omega)],by omega⟩
  by_cases hi:i<l'.length
  · have nx:=nx
    have tk:=tk hi
    have bf:=bf hi
    have co:=co hi
    rw [tk]
    have hv:∀ {P:Prop},P→(∀x,x=((l').getD (i).toNat default)→P)→P:=fun h _=>h
    generalize ((l').getD (i).toNat default)=v at nx tk bf co h3 ⊢
    have cfs:∀k,cf (l'.take i.toNat++ [v]++ [m']) k=cf (l'.take i.toNat) k+(if v.atoms=k then v.bK else 0)+(if m'.atoms=k then m'.bK else 0):=fun k=>by
      rw [dF,dF,dz,dz,lI];simp only [Int.add_zero]
    have cfm:∀k,cf (l'.take i.toNat++ [m']) k=cf (l'.take i.toNat) k+(if m'.atoms=k then m'.bK else 0):=fun k=>by
      rw [dF,dz,lI,Int.add_zero]
    rcases h3 with⟨rfl,rfl,h4⟩ | ⟨rfl,h4,h5,h6,h7⟩
    ·
      simp (disch:=omega) only [RR,decide_true,Bool.not_false,Bool.true_and,decide_eq_true_eq,hi]
      by_cases c1:dN m'.atoms v.atoms<0
      · have c2:¬dN m'.atoms v.atoms=0:=by omega
        simp (disch:=omega) only [RR,c1,c2]
        have n1:=aaT ntk h4 hm
        have b2:∀x∈l'.take i.toNat++ [m'],lt x v:=fun x hx=>by
          rw [List.mem_append,List.mem_singleton]at hx
          rcases hx with hx | rfl
          · exact bf x hx
          · exact c1
        have n2:=aaT n1 b2 co
        refine⟨by omega,by rw [show([m']:List aj).length=1 from rfl];omega,by omega,by rw [l1,show([v]:List aj).length=1 from rfl];omega,⟨by omega,by omega,Or.inr ⟨n2,fun k=> ?_,by rw [l1,l1];omega,fun h=>⟨fD c1 (nx h),fun x hx=> ?_⟩⟩⟩,by omega⟩
        · have e1:=cfs k
          have e2:=n2.bnd k
          have e3:cf (l'.take i.toNat++ [m']++ [v]) k=cf (l'.take i.toNat++ [v]++ [m']) k:=by rw [e1,dF,cfm,dz,lI];omega
          rw [←e3];omega
        · rw [List.mem_append,List.mem_singleton]at hx
          rcases hx with hx | rfl
          · exact fD (b2 x hx) (nx h)
          · exact nx h
      · by_cases c2:dN m'.atoms v.atoms=0
        · have ev:=ko.1 c2
          simp (disch:=omega) only [RR,c1,c2,List.append_nil]
          have zz:cf (l'.take i.toNat) v.atoms=0:=jl fun x hx=>(bf x hx).ne
          refine⟨by omega,fun h=>absurd h (by omega),fun _=>⟨by omega,fun c3=> ?_,fun c3=> ?_⟩⟩
          · have n2:=aaT (x:=⟨(v.bK+m'.bK)%65536,v.atoms⟩) ntk bf ⟨by dsimp only;omega,by dsimp only;omega⟩
            refine⟨by omega,by simp only [List.length_cons,List.length_nil];omega,⟨by omega,by omega,Or.inr ⟨n2,fun k=> ?_,by rw [l1];omega,fun h=>⟨?_,fun x hx=> ?_⟩⟩⟩,by omega⟩
            · have e1:=cfs k
              have e2:=n2.bnd k
              rw [e1]
              rw [dF,dz,lI]at e2 ⊢
              dsimp only at e2 ⊢
              by_cases ek:v.atoms=k
              · rw [if_pos ek]at e2 ⊢
                rw [if_pos ek,if_pos (ev.trans ek)]
                rw [←ek,zz]at e2 ⊢;omega
              · rw [if_neg ek]at e2 ⊢
                rw [if_neg ek,if_neg (fun e=>ek (ev.symm.trans e))];omega
            · have:=nx h;unfold lt at this ⊢;rw [ev];exact this
            · rw [List.mem_append,List.mem_singleton]at hx
              rcases hx with hx | rfl
              · exact fD (bf x hx) (nx h)
              · exact nx h
          · refine⟨⟨by omega,by omega,Or.inr ⟨ntk,fun k=> ?_,by omega,fun h=>⟨?_,fun x hx=>fD (bf x hx) (nx h)⟩⟩⟩,by omega⟩
            · have e1:=cfs k
              have e2:=ntk.bnd k
              rw [e1]
              by_cases ek:v.atoms=k
              · rw [if_pos ek,if_pos (ev.trans ek),←ek,zz];omega
              · rw [if_neg ek,if_neg (fun e=>ek (ev.symm.trans e))];omega
            · have:=nx h;unfold lt at this ⊢;rw [ev];exact this
        · simp (disch:=omega) only [RR,c1,c2]
          refine⟨by omega,by omega,by simp only [List.length_cons,List.length_nil];omega,⟨by omega,by omega,Or.inl (fun x hx=> ?_)⟩,by omega⟩
          rw [List.mem_append,List.mem_singleton]at hx
          rcases hx with hx | rfl
          · exact h4 x hx
          · unfold lt;rw [sW];omega
    · have c3:=(h7 hi).1
      have b2:=(h7 hi).2
      have c1:dN m'.atoms v.atoms<0:=c3
      have c2:¬dN m'.atoms v.atoms=0:=by omega
      simp (disch:=omega) only [RR,decide_true,Bool.not_true,Bool.false_and,decide_eq_true_eq,hi,c2]
      have n2:=aaT h4 b2 co
      refine⟨by omega,fun h=>h.1.elim,by omega,by simp only [List.length_cons,List.length_nil];omega,⟨by omega,by omega,Or.inr ⟨n2,fun k=> ?_,by rw [l1];omega,fun h=>⟨fD c3 (nx h),fun x hx=> ?_⟩⟩⟩,by omega⟩
      · have e1:=cfs k
        have e2:=n2.bnd k
        have e3:=h5 k
        rw [cfm]at e3
        rw [dF,dz,lI]at e2 ⊢
        rw [e1]
        by_cases ek:v.atoms=k
        · rw [if_pos ek]at e2 ⊢;omega
        · rw [if_neg ek]at e2 ⊢;omega
      · rw [List.mem_append,List.mem_singleton]at hx
        rcases hx with hx | rfl
        · exact fD (b2 x hx) (nx h)
        · exact nx h
  · have ei:i=l'.length:=by omega
    rcases h3 with⟨rfl,rfl,h4⟩ | ⟨rfl,h4,h5,h6,h7⟩
    · simp (disch:=omega) only [RR,decide_true,Bool.not_false,Bool.true_and,decide_eq_true_eq,hi]
      have n1:=aaT ntk h4 hm
      refine⟨by simp only [List.length_cons,List.length_nil];omega,fin _ ei n1 (fun k=> ?_) (by rw [l1];omega)⟩
      have e2:=n1.bnd k
      omega
    · simp (disch:=omega) only [RR,decide_true,Bool.not_true,Bool.false_and,decide_eq_true_eq,hi]
      exact fin _ ei h4 h5 h6
end Go.TX.F
namespace Go.TX.F
open Go Go.AE Go.TX
theorem zw {a o:List Int} (h:o.Pairwise (· ≤ ·)) (hp:o.Perm a):o=mP a:=by
  refine List.Perm.eq_of_pairwise (le:=fun x y:Int=>x≤y) (fun a b _ _ h1 h2=>Int.le_antisymm h1 h2) h ?_ (hp.trans (List.mergeSort_perm a _).symm)
  have:=List.pairwise_mergeSort (le:=fun x y:Int=>decide (x≤y)) (fun a b c h1 h2=>by simp at*;omega) (fun a b=>by simp;omega) a
  exact this.imp (fun h=>by simpa using h)
theorem aaU (a b:List Int) (ha:a.length<100000000) (hb:b.length<100000000) (sa:a.Pairwise (· ≤ ·)) (sb:b.Pairwise (· ≤ ·)):
    Gw (std 0) (a,b,()) (fun y=>y=(mP (a++b),())):=by
  dsimp only [Gw,Alg.cl,Alg.cg,Alg.rb,Alg.bd,Alg.l1,Tup.q,Tup.o]
  have sa':=(dH (d:=default) (R:=fun a b:Int=>a≤b) (fun h1 h2=>Int.le_trans h1 h2)).1 sa
  have sb':=(dH (d:=default) (R:=fun a b:Int=>a≤b) (fun h1 h2=>Int.le_trans h1 h2)).1 sb
  let I:List Int→Int→Int→Prop:=fun o i k=>0≤i∧i≤a.length∧0≤k∧k≤b.length∧o.Pairwise (· ≤ ·)∧o.Perm (a.take i.toNat++b.take k.toNat)∧(i<a.length→∀x∈o,x≤((a).getD (i).toNat default))∧(k<b.length→∀x∈o,x≤((b).getD (k).toNat default))
  have sn:∀ {o:List Int} {y:Int},o.Pairwise (· ≤ ·)→(∀x∈o,x≤y)→(o++ [y]).Pairwise (· ≤ ·):=fun {o y} g1 g2=>by
    rw [List.pairwise_append]
    exact⟨g1,List.pairwise_singleton _ _,fun x hx z hz=>by rw [List.mem_singleton]at hz;subst hz;exact g2 x hx⟩
  have il:∀o i k,I o i k→(o.length:Int)=i+k:=fun o i k ⟨h1,h2,h3,h4,_,h5,_⟩=>by
    have:=h5.length_eq;rw [List.length_append,List.length_take,List.length_take]at this;omega
  have stA:∀o i k,I o i k→i<a.length→(k<b.length→((a).getD (i).toNat default)≤((b).getD (k).toNat default))→I (o++ [((a).getD (i).toNat default)]) (i+1) k:=by
    rintro o i k ⟨h1,h2,h3,h4,h5,h6,h7,h8⟩ hi hk
    refine⟨by omega,by omega,h3,h4,sn h5 (h7 hi),?_,fun g x hx=> ?_,fun g x hx=> ?_⟩
    · rw [←dO (d:=default) h1 hi rfl]
      refine(h6.append_right _).trans ?_
      rw [List.append_assoc,List.append_assoc]
      exact(List.perm_append_comm).append_left _
    · have:=sa' (i+1) (by omega) g
      rw [show i+1-1=i by omega]at this
      rw [List.mem_append,List.mem_singleton]at hx
      rcases hx with hx | rfl
      · exact Int.le_trans (h7 hi x hx) this
      · exact this
    · rw [List.mem_append,List.mem_singleton]at hx
      rcases hx with hx | rfl
      · exact h8 g x hx
      · exact hk g
  have stB:∀o i k,I o i k→k<b.length→(i<a.length→((b).getD (k).toNat default)≤((a).getD (i).toNat default))→I (o++ [((b).getD (k).toNat default)]) i (k+1):=by
    rintro o i k ⟨h1,h2,h3,h4,h5,h6,h7,h8⟩ hk hi
    refine⟨h1,h2,by omega,by omega,sn h5 (h8 hk),?_,fun g x hx=> ?_,fun g x hx=> ?_⟩
    · rw [←dO (d:=default) h3 hk rfl,←List.append_assoc]
      exact h6.append_right _
    · rw [List.mem_append,List.mem_singleton]at hx
      rcases hx with hx | rfl
      · exact h7 g x hx
      · exact hi g
    · have:=sb' (k+1) (by omega) g
      rw [show k+1-1=k by omega]at this
      rw [List.mem_append,List.mem_singleton]at hx
      rcases hx with hx | rfl
      · exact Int.le_trans (h8 hk x hx) this
      · exact this
  refine ay (fun(y:List Int×List Int×Int×Int×List Int×Unit)=>y.1=a∧y.2.1=b∧I y.2.2.2.2.1 y.2.2.1 y.2.2.2.1) (fun y=>(b.length-y.2.2.2.1).toNat)
    ⟨rfl,rfl,by simp,by simp,by simp,by simp,List.Pairwise.nil,by simp,fun _ x hx=>absurd hx (by simp),fun _ x hx=>absurd hx (by simp)⟩ ?_
  rintro⟨(a':List Int),(b':List Int),(i:Int),(k:Int),(o:List Int),⟨⟩⟩ hI
  dsimp only at hI ⊢
  obtain⟨rfl,rfl,hI⟩:=hI
  have hb1:=hI.1
  have hb2:=hI.2.1
  have hb3:=hI.2.2.1
  have hb4:=hI.2.2.2.1
  have hol:=il _ _ _ hI
  simp (disch:=omega) only [RR]
  refine⟨fun h9=> ?_,fun h9=> ?_⟩
  · refine ay (fun(y:List Int×List Int×Int×Int×List Int×Unit)=>y.1=a'∧y.2.1=b'∧y.2.2.2.1=k∧I y.2.2.2.2.1 y.2.2.1 k) (fun y=>(a'.length-y.2.2.1).toNat) ⟨rfl,rfl,rfl,hI⟩ ?_
    rintro⟨(a2:List Int),(b2:List Int),(i2:Int),(k2:Int),(o2:List Int),⟨⟩⟩ hI2
    dsimp only at hI2 ⊢
    obtain⟨rfl,rfl,rfl,hI2⟩:=hI2
    have hc1:=hI2.1
    have hc2:=hI2.2.1
    have hol:=il _ _ _ hI2
    simp (disch:=omega) only [RR]
    refine⟨by omega,by omega,by omega,by omega,fun⟨g1,g2⟩=>⟨by omega,g1,by simp only [List.length_cons,List.length_nil];omega,stA _ _ _ hI2 g1 (fun _=>g2),by omega⟩,fun g=>⟨by omega,h9,by simp only [List.length_cons,List.length_nil];omega,stB _ _ _ hI2 h9 (fun g1=> ?_),by omega⟩⟩
    rw [decide_eq_true g1,Bool.true_and,decide_eq_false_iff_not]at g;omega
  · have e1:List.drop i.toNat (List.take ((a'.length:Int)).toNat a')=a'.drop i.toNat:=by rw [List.take_of_length_le (by omega)]
    rw [e1]
    refine⟨by omega,by omega,by omega,by rw [List.length_drop];omega,?_⟩
    obtain⟨h1,h2,h3,h4,h5,h6,h7,h8⟩:=hI
    rw [zw (a:=a'++b') (o:=o++a'.drop i.toNat)]
    · rw [List.pairwise_append]
      refine⟨h5,List.Pairwise.sublist (List.drop_sublist _ _) sa,fun x hx y hy=> ?_⟩
      by_cases hi:i<a'.length
      · refine Int.le_trans (h7 hi x hx) ?_
        rw [List.drop_eq_getElem_cons (show i.toNat<a'.length by omega)]at hy
        have hd:=List.Pairwise.sublist (List.drop_sublist i.toNat _) sa
        rw [List.drop_eq_getElem_cons (show i.toNat<a'.length by omega)]at hd
        rw [getD_lt (show i.toNat<a'.length by omega)]
        rcases List.mem_cons.1 hy with rfl | hy
        · exact Int.le_refl _
        · exact List.rel_of_pairwise_cons hd hy
      · rw [List.drop_eq_nil_of_le (by omega)]at hy;exact absurd hy (by simp)
    · rw [List.take_of_length_le (show b'.length≤k.toNat by omega)]at h6
      refine(h6.append_right _).trans ?_
      rw [List.append_assoc]
      refine((List.perm_append_comm).append_left _).trans ?_
      rw [←List.append_assoc,List.take_append_drop]
end Go.TX.F
namespace Go.TX.F
open Go Go.AE Go.TX
theorem aN.nf {p:List aj} (h:aN p):Nf p:=(gY.1 h).1
theorem aN.aok {p:List aj} (h:aN p) {m:aj} (hm:m∈p):m.atoms.length≤4∧F.aok m.atoms:=(gY.1 h).2.2 m hm
theorem ML {l o:List aj} (h:Nf o) (h2:∀k,cf o k=cf l k%65536) (h3:∀m∈l,aok m.atoms):(bp (Jr o),if bp (Jr o)then o else [])=((rP l).1,(rP l).2):=by
  rw [afh h h2 h3]
  by_cases c:Jr o
  · rw [eF c,if_pos rfl];dsimp only;rw [decide_eq_true (show o.length≤12∧∀m∈o,m.atoms.length≤4 from c),if_pos (show o.length≤12∧∀m∈o,m.atoms.length≤4 from c)]
  · rw [fK c,if_neg (by simp)];dsimp only;rw [decide_eq_false (show¬(o.length≤12∧∀m∈o,m.atoms.length≤4)from c),if_neg (show¬(o.length≤12∧∀m∈o,m.atoms.length≤4)from c)]
theorem aaV {o l:List aj} (h:Nf o) (h2:∀k,cf o k=cf l k%65536) (h3:∀m∈l,m.atoms.length<1000000000) (h4:o.length<1000000000):Sh o:=⟨h4,fun m hm=>by
  obtain⟨m',g1,g2⟩:=h.from h2 hm
  rw [←g2];exact h3 m' g1⟩
theorem aaW {p1:List aj×Unit→Bool} {f1:List aj×Unit→Bool×Unit} (hp1:∀a,Sh a→p1 (a,())=true) (hf1:∀a,Sh a→f1 (a,())=(bp (aN a),()))
    {p2:List aj×aj×Unit→Bool} {f2:List aj×aj×Unit→List aj×Unit}
    (hp2:∀(l:List aj) m,l.length<1000000000→Nf l→1≤m.bK∧m.bK≤65535→m.atoms.length<1000000000→p2 (l,m,())=true) (hf2:∀(l:List aj) m,l.length<1000000000→Nf l→1≤m.bK∧m.bK≤65535→m.atoms.length<1000000000→Plus l m (f2 (l,m,())).1)
    {p3:List aj×Unit→Bool} {f3:List aj×Unit→Bool×List aj×Unit} (hp3:∀a,Sh a→p3 (a,())=true) (hf3:∀a,Sh a→f3 (a,())=(bp (Jr a),if bp (Jr a)then a else [],()))
    (a b:List aj) (ha:Sh a) (hb:Sh b):Gt (std 0) p1 f1 p2 f2 p3 f3 (a,b,()) (fun y=>y=((mY a b).1,(mY a b).2,())):=by
  dsimp only [Gt,Alg.cl,Alg.cg,Alg.rb,Alg.bd,Alg.l1,Tup.q,Tup.o]
  simp (disch:=omega) only [RR,hp1 a ha,hf1 a ha,hp1 b hb,hf1 b hb,bg,lT]
  unfold mY
  refine⟨fun h=> ?_,fun⟨h1,h2⟩=> ?_⟩
  · rw [if_neg]
    rw [Bool.and_eq_true,bg,bg];rintro⟨g1,g2⟩
    rcases h with h | h
    · exact h g1
    · exact h g2
  rw [if_pos (by rw [eF h1,eF h2];rfl)]
  have l1:=h1.len
  have l2:=h2.len
  have hl:∀m∈a++b,F.aok m.atoms∧m.atoms.length<1000000000:=fun m hm=>by
    rw [List.mem_append]at hm
    rcases hm with hm | hm
    · exact⟨(h1.aok hm).2,ha.2 m hm⟩
    · exact⟨(h2.aok hm).2,hb.2 m hm⟩
  refine ay (fun(y:List aj×Int×List aj×Unit)=>y.2.2.1=b∧0≤y.2.1∧y.2.1≤b.length∧Nf y.1∧(∀k,cf y.1 k=cf (a++b.take y.2.1.toNat) k%65536)∧(y.1.length:Int)≤12+y.2.1) (fun y=>(b.length-y.2.1).toNat)
    ⟨rfl,by simp,by simp,h1.nf,fun k=>by have:=h1.nf.bnd k;simp only [Int.toNat_zero,List.take_zero,List.append_nil];omega,by simp only;omega⟩ ?_
  rintro⟨(o:List aj),(i:Int),(b':List aj),⟨⟩⟩ hI
  dsimp only at hI ⊢
  obtain⟨rfl,h3,h4,h5,h6,h7⟩:=hI
  have so:Sh o:=aaV h5 h6 (fun m hm=>(hl m (by rw [List.mem_append]at hm ⊢;exact hm.imp id List.mem_of_mem_take)).2) (by omega)
  simp (disch:=omega) only [RR,hp3 o so,hf3 o so]
  refine⟨fun h9=> ?_,fun h9=> ?_⟩
  · have hm:=h2.nf.co _ (dM (d:=default) h3 h9)
    have pl:=hf2 o ((b').getD (i).toNat default) so.1 h5 hm (hb.at _)
    refine⟨by omega,by omega,hp2 o ((b').getD (i).toNat default) so.1 h5 hm (hb.at _),⟨by omega,by omega,pl.nf,fun k=> ?_,by have:=pl.len;omega⟩,by omega⟩
    rw [pl.cf k,dF,h6 k,←dO (d:=default) h3 h9 rfl,←List.append_assoc,dF (a++_)];omega
  · have:=ML h5 (fun k=>by rw [h6 k,List.take_of_length_le (by omega)]) (fun m hm=>(hl m hm).1)
    exact congrArg (fun z:Bool×List aj=>(z.1,z.2,())) this
theorem aaX {p1:List aj×Unit→Bool} {f1:List aj×Unit→Bool×Unit} (hp1:∀a,Sh a→p1 (a,())=true) (hf1:∀a,Sh a→f1 (a,())=(bp (aN a),()))
    {p0:Int×Unit→Bool} {f0:Int×Unit→Int×Unit} (hp0:∀a,p0 (a,())=true) (hf0:∀a,f0 (a,())=(a%65536,()))
    {p2:List aj×aj×Unit→Bool} {f2:List aj×aj×Unit→List aj×Unit}
    (hp2:∀(l:List aj) m,l.length<1000000000→Nf l→1≤m.bK∧m.bK≤65535→m.atoms.length<1000000000→p2 (l,m,())=true) (hf2:∀(l:List aj) m,l.length<1000000000→Nf l→1≤m.bK∧m.bK≤65535→m.atoms.length<1000000000→Plus l m (f2 (l,m,())).1)
    {p4:List Int×List Int×Unit→Bool} {f4:List Int×List Int×Unit→List Int×Unit}
    (hp4:∀a b:List Int,a.length<100000000→b.length<100000000→a.Pairwise (· ≤ ·)→b.Pairwise (· ≤ ·)→p4 (a,b,())=true) (hf4:∀a b:List Int,a.length<100000000→b.length<100000000→a.Pairwise (· ≤ ·)→b.Pairwise (· ≤ ·)→f4 (a,b,())=(mP (a++b),()))
    {p3:List aj×Unit→Bool} {f3:List aj×Unit→Bool×List aj×Unit} (hp3:∀a,Sh a→p3 (a,())=true) (hf3:∀a,Sh a→f3 (a,())=(bp (Jr a),if bp (Jr a)then a else [],()))
    (a b:List aj) (ha:Sh a) (hb:Sh b):Gx (std 0) p1 f1 p0 f0 p2 f2 p4 f4 p3 f3 (a,b,()) (fun y=>y=((l7 a b).1,(l7 a b).2,())):=by
  dsimp only [Gx,Alg.cl,Alg.cg,Alg.rb,Alg.bd,Alg.l1,Tup.q,Tup.o]
  simp (disch:=omega) only [RR,hp1 a ha,hf1 a ha,hp1 b hb,hf1 b hb,bg,lT]
  unfold l7
  refine⟨fun h=> ?_,fun⟨h1,h2⟩=> ?_⟩
  · rw [if_neg]
    rw [Bool.and_eq_true,bg,bg];rintro⟨g1,g2⟩
    rcases h with h | h
    · exact h g1
    · exact h g2
  rw [if_pos (by rw [eF h1,eF h2];rfl)]
  have l1:=h1.len
  have l2:=h2.len
  have am:∀m∈a,∀n∈b,aok (mulM m n).atoms∧(mulM m n).atoms.length≤8:=fun m hm n hn=>by
    obtain⟨g1,g2⟩:=h1.aok hm
    obtain⟨g3,g4⟩:=h2.aok hn
    refine⟨⟨?_,fun k hk=> ?_⟩,?_⟩
    · have:=List.pairwise_mergeSort (le:=fun x y:Int=>decide (x≤y)) (fun a b c h1 h2=>by simp at*;omega) (fun a b=>by simp;omega) (m.atoms++n.atoms)
      exact this.imp (fun h=>by simpa using h)
    · have:k∈m.atoms++n.atoms:=List.mem_mergeSort.1 hk
      rw [List.mem_append]at this
      rcases this with hk | hk
      · exact g2.2 k hk
      · exact g4.2 k hk
    · show(mP _).length≤8
      rw [KT,List.length_append];omega
  have pm:∀m∈prods a b,aok m.atoms∧m.atoms.length≤8:=fun m hm=>by
    unfold prods at hm
    rw [List.mem_flatMap]at hm
    obtain⟨x,hx,hm⟩:=hm
    rw [List.mem_map]at hm
    obtain⟨y,hy,rfl⟩:=hm
    exact am x hx y hy
  let J:List aj→Int→Int→Prop:=fun o i k=>Nf o∧(∀t,cf o t=cf (prods (a.take i.toNat) b++(b.take k.toNat).map (mulM ((a).getD (i).toNat default))) t%65536)∧(o.length:Int)≤12*i+k
  refine ay (fun(y:Int×List aj×List aj×List aj×Unit)=>y.2.1=a∧y.2.2.1=b∧0≤y.1∧y.1≤a.length∧J y.2.2.2.1 y.1 0) (fun y=>(a.length-y.1).toNat)
    ⟨rfl,rfl,by simp,by simp,⟨⟨List.Pairwise.nil,fun m hm=>absurd hm (by simp)⟩,fun k=>by simp [cf,prods],by simp⟩⟩ ?_
  rintro⟨(i:Int),(a':List aj),(b':List aj),(o:List aj),⟨⟩⟩ hI
  dsimp only at hI ⊢
  obtain⟨rfl,rfl,h3,h4,hJ⟩:=hI
  have hJ1:=hJ.2.2
  have so:Sh o:=aaV (l:=prods (a'.take i.toNat) b') hJ.1 (fun t=>by rw [hJ.2.1 t];simp) (fun m hm=>by
    have:m∈prods a' b':=by
      unfold prods at hm ⊢
      rw [List.mem_flatMap]at hm ⊢
      obtain⟨x,hx,hm⟩:=hm
      exact⟨x,List.mem_of_mem_take hx,hm⟩
    have:=(pm m this).2;omega) (by omega)
  simp (disch:=omega) only [RR,hp3 o so,hf3 o so]
  refine⟨fun h9=> ?_,fun h9=> ?_⟩
  · refine ay (fun(y:Int×Int×List aj×List aj×List aj×Unit)=>y.1=i∧y.2.2.1=a'∧y.2.2.2.1=b'∧0≤y.2.1∧y.2.1≤b'.length∧J y.2.2.2.2.1 i y.2.1) (fun y=>(b'.length-y.2.1).toNat) ⟨rfl,rfl,rfl,by simp,by simp,hJ⟩ ?_
    rintro⟨(i':Int),(k:Int),(a2:List aj),(b2:List aj),(o2:List aj),⟨⟩⟩ hI
    dsimp only at hI ⊢
    obtain⟨rfl,rfl,rfl,g1,g2,hK⟩:=hI
    have hK1:=hK.2.2
    by_cases g3:k<b2.length
    · have ma:((a2).getD (i').toNat default)∈a2:=dM h3 h9
      have mb:((b2).getD (k).toNat default)∈b2:=dM g1 g3
      have ca:=h1.nf.co _ ma
      have cb:=h2.nf.co _ mb
      obtain⟨q1,q2⟩:=h1.aok ma
      obtain⟨q3,q4⟩:=h2.aok mb
      have hm:=MJ (show 0≤((a2).getD (i').toNat default).bK by omega) (by omega) (show 0≤((b2).getD (k).toNat default).bK by omega) (by omega)
      have am':=(am _ ma _ mb).2
      simp (disch:=omega) only [RR,hp0,hf0,hp4 _ _ (show((a2).getD (i').toNat default).atoms.length<100000000 by omega) (show((b2).getD (k).toNat default).atoms.length<100000000 by omega) q2.1 q4.1,hf4 _ _ (show((a2).getD (i').toNat default).atoms.length<100000000 by omega) (show((b2).getD (k).toNat default).atoms.length<100000000 by omega) q2.1 q4.1]
      have tk:prods (a2.take i'.toNat) b2++(b2.take (k+1).toNat).map (mulM ((a2).getD (i').toNat default))=prods (a2.take i'.toNat) b2++(b2.take k.toNat).map (mulM ((a2).getD (i').toNat default))++ [mulM ((a2).getD (i').toNat default) ((b2).getD (k).toNat default)]:=by
        rw [←dO (d:=default) g1 g3 rfl,List.map_append,List.append_assoc];rfl
      refine⟨fun _=>⟨by omega,by omega,by omega,by omega,fun g4=> ?_,fun g4=>⟨⟨by omega,by omega,hK.1,fun t=> ?_,by omega⟩,by omega⟩⟩,fun h=>absurd g3 h⟩
      · have aqa:(⟨((a2).getD (i').toNat default).bK*((b2).getD (k).toNat default).bK%65536,mP (((a2).getD (i').toNat default).atoms++((b2).getD (k).toNat default).atoms)⟩:aj).atoms.length<1000000000:=by have:(mP (((a2).getD (i').toNat default).atoms++((b2).getD (k).toNat default).atoms)).length≤8:=am';dsimp only;omega
        have cc:1≤(⟨((a2).getD (i').toNat default).bK*((b2).getD (k).toNat default).bK%65536,mP (((a2).getD (i').toNat default).atoms++((b2).getD (k).toNat default).atoms)⟩:aj).bK∧(⟨((a2).getD (i').toNat default).bK*((b2).getD (k).toNat default).bK%65536,mP (((a2).getD (i').toNat default).atoms++((b2).getD (k).toNat default).atoms)⟩:aj).bK≤65535:=by dsimp only;omega
        have pl:=hf2 o2 _ (by omega) hK.1 cc aqa
        refine⟨by omega,by omega,by omega,by omega,hp2 o2 _ (by omega) hK.1 cc aqa,⟨by omega,by omega,pl.nf,fun t=> ?_,by have:=pl.len;omega⟩,by omega⟩
        rw [pl.cf t,dF,hK.2.1 t,tk,dF (prods _ _++_)]
        show(_+cf [mulM ((a2).getD (i').toNat default) ((b2).getD (k).toNat default)] t)%65536=_
        omega
      · rw [tk,dF,hK.2.1 t]
        have:cf [mulM ((a2).getD (i').toNat default) ((b2).getD (k).toNat default)] t=0:=by
          rw [dz,lI]
          have:(mulM ((a2).getD (i').toNat default) ((b2).getD (k).toNat default)).bK=0:=by show((a2).getD (i').toNat default).bK*((b2).getD (k).toNat default).bK%65536=0;omega
          rw [this];split<;>rfl
        rw [this];omega
    · simp (disch:=omega) only [RR]
      refine⟨fun h=>absurd h g3,fun _=>⟨⟨by omega,by omega,hK.1,fun t=> ?_,by omega⟩,by omega⟩⟩
      rw [hK.2.1 t,List.take_of_length_le (show b2.length≤k.toNat by omega),←Jp,dO (d:=default) h3 h9 rfl];simp
  · have:=ML hJ.1 (l:=prods a' b') (fun t=>by rw [hJ.2.1 t,List.take_of_length_le (show a'.length≤i.toNat by omega)];simp) (fun m hm=>(pm m hm).1)
    exact congrArg (fun z:Bool×List aj=>(z.1,z.2,())) this
end Go.TX.F
namespace Go.TX.F
open Go Go.AE Go.TX
theorem Jt {m:aj} (n:Int) (h:aok m.atoms):mulM m ⟨n,[]⟩=⟨m.bK*n%65536,m.atoms⟩:=by
  unfold mulM
  rw [←zw (a:=m.atoms++ []) (o:=m.atoms) h.1 (by simp)]
theorem Dr (a:List aj) (n:aj):prods a [n]=a.map (fun m=>mulM m n):=by
  induction a with
  | nil=>rfl
  | cons x a ih=>simp only [prods,List.flatMap_cons,List.map_cons,List.map_nil]at ih ⊢;rw [ih];rfl
theorem Rb {t:List Int}:∀ {l:List aj},(∀m∈l,m.bK=0)→cf l t=0
  | [],_=>rfl
  | m::l,h=>by rw [dz,Rb (fun m hm=>h m (by simp [hm])),h m (by simp)];split<;>rfl
theorem eH:aN []:=gY.2 ⟨⟨List.Pairwise.nil,fun m hm=>absurd hm (by simp)⟩,by simp,fun m hm=>absurd hm (by simp)⟩
theorem kC (n:Int):aN (dI n):=by
  unfold dI;split
  · refine gY.2 ⟨⟨List.pairwise_singleton _ _,fun m hm=> ?_⟩,by simp,fun m hm=> ?_⟩
    · rw [List.mem_singleton]at hm;subst hm;assumption
    · rw [List.mem_singleton]at hm;subst hm;exact⟨by simp,List.Pairwise.nil,fun k hk=>absurd hk (by simp)⟩
  · exact eH
theorem oh (n:Int):aN (fG n):=by
  unfold fG;split
  · refine gY.2 ⟨⟨List.pairwise_singleton _ _,fun m hm=> ?_⟩,by simp,fun m hm=> ?_⟩
    · rw [List.mem_singleton]at hm;subst hm;dsimp only;omega
    · rw [List.mem_singleton]at hm;subst hm;exact⟨by simp,List.pairwise_singleton _ _,fun k hk=>by rw [List.mem_singleton]at hk;omega⟩
  · exact eH
theorem aaY {p1:List aj×Unit→Bool} {f1:List aj×Unit→Bool×Unit} (hp1:∀a,Sh a→p1 (a,())=true) (hf1:∀a,Sh a→f1 (a,())=(bp (aN a),()))
    {p0:Int×Unit→Bool} {f0:Int×Unit→Int×Unit} (hp0:∀a,p0 (a,())=true) (hf0:∀a,f0 (a,())=(a%65536,()))
    {p4:List aj×Unit→Bool} {f4:List aj×Unit→List aj×Unit} (hp4:∀a,Sh a→p4 (a,())=true) (hf4:∀a,Sh a→f4 (a,())=(a,()))
    {p3:Int×Unit→Bool} {f3:Int×Unit→Bool×Unit} (hp3:∀a,p3 (a,())=true) (hf3:∀a,f3 (a,())=(inB a 0 65535,()))
    (a:List aj) (n:Int) (ha:Sh a):GA (std 0) p1 f1 p0 f0 p4 f4 p3 f3 (a,n,()) (fun y=>y=(jq a n,())):=by
  dsimp only [GA,Alg.cl,Alg.cg,Alg.rb,Alg.bd,Alg.l1,Tup.q,Tup.o]
  simp (disch:=omega) only [RR,hp1 a ha,hf1 a ha,hp3,hf3,bg,lT,dx,nC]
  unfold jq
  refine⟨fun h=> ?_,fun⟨h1,h2⟩=> ?_⟩
  · rw [if_neg];rw [Bool.and_eq_true,bg,dx];rintro⟨g1,g2⟩
    rcases h with h | h
    · exact h g1
    · exact h g2
  rw [if_pos (by rw [eF h1,Bool.true_and,dx];exact h2)]
  have l1:=h1.len
  have hss:=h1.nf.ss
  refine ay (fun(y:Int×Int×List aj×List aj×Unit)=>y.1=n∧y.2.2.1=a∧0≤y.2.1∧y.2.1≤a.length∧Nf y.2.2.2.1∧(y.2.2.2.1.length:Int)≤y.2.1∧(∀t,cf y.2.2.2.1 t=cf ((a.take y.2.1.toNat).map (fun m=>⟨m.bK*n%65536,m.atoms⟩)) t%65536)
      ∧(∀x∈y.2.2.2.1,x.atoms.length≤4∧(y.2.1<a.length→lt x ((a).getD (y.2.1).toNat default)))) (fun y=>(a.length-y.2.1).toNat)
    ⟨rfl,rfl,by simp,by simp,⟨List.Pairwise.nil,fun m hm=>absurd hm (by simp)⟩,by simp,fun t=>by simp [cf],fun x hx=>absurd hx (by simp)⟩ ?_
  rintro⟨(n':Int),(i:Int),(a':List aj),(o:List aj),⟨⟩⟩ hI
  dsimp only at hI ⊢
  obtain⟨rfl,rfl,h3,h4,h5,h6,h7,h8⟩:=hI
  have so:Sh o:=⟨by omega,fun m hm=>by have:=(h8 m hm).1;omega⟩
  by_cases h9:i<a'.length
  · have ma:((a').getD (i).toNat default)∈a':=dM h3 h9
    have ca:=h1.nf.co _ ma
    have qa:=h1.aok ma
    have hm:=MJ (show 0≤((a').getD (i).toNat default).bK by omega) (by omega) h2.1 h2.2
    have nx:i+1<a'.length→lt ((a').getD (i).toNat default) ((a').getD (i+1).toNat default):=fun h=>by
      have:=(dH (d:=default) (R:=lt) fD).1 hss (i+1) (by omega) h
      rw [show i+1-1=i by omega]at this;exact this
    have tk:(a'.take (i+1).toNat).map (fun m:aj=>(⟨m.bK*n'%65536,m.atoms⟩:aj))=(a'.take i.toNat).map (fun m:aj=>(⟨m.bK*n'%65536,m.atoms⟩:aj))++ [⟨((a').getD (i).toNat default).bK*n'%65536,((a').getD (i).toNat default).atoms⟩]:=by
      rw [←dO (d:=default) h3 h9 rfl,List.map_append];rfl
    simp (disch:=omega) only [RR,hp0,hf0]
    refine⟨fun _=>⟨by omega,by omega,fun g=>⟨by omega,by omega,by simp only [List.length_cons,List.length_nil];omega,⟨by omega,by omega,?_,?_,fun t=> ?_,fun x hx=> ?_⟩,by omega⟩,fun g=>⟨⟨by omega,by omega,h5,by omega,fun t=> ?_,fun x hx=>⟨(h8 x hx).1,fun g2=>fD ((h8 x hx).2 h9) (nx g2)⟩⟩,by omega⟩⟩,fun h=>absurd h9 h⟩
    · refine⟨?_,fun x hx=> ?_⟩
      · rw [List.pairwise_append]
        exact⟨h5.ss,List.pairwise_singleton _ _,fun x hx z hz=>by rw [List.mem_singleton]at hz;subst hz;exact(h8 x hx).2 h9⟩
      · rw [List.mem_append,List.mem_singleton]at hx
        rcases hx with hx | rfl
        · exact h5.co x hx
        · dsimp only;omega
    · rw [List.length_append];simp only [List.length_cons,List.length_nil];omega
    · rw [tk,dF,dF,h7 t,dz,lI]
      dsimp only
      by_cases et:((a').getD (i).toNat default).atoms=t
      · rw [if_pos et]
        have z:cf o t=0:=jl fun x hx e=>((h8 x hx).2 h9).ne (e.trans et.symm)
        rw [h7 t]at z;omega
      · rw [if_neg et];omega
    · rw [List.mem_append,List.mem_singleton]at hx
      rcases hx with hx | rfl
      · exact⟨(h8 x hx).1,fun g2=>fD ((h8 x hx).2 h9) (nx g2)⟩
      · exact⟨qa.1,fun g2=>nx g2⟩
    · rw [tk,dF,h7 t,dz,lI]
      dsimp only
      have:((a').getD (i).toNat default).bK*n'%65536=0:=by omega
      rw [this];split<;>omega
  · simp (disch:=omega) only [RR,hp4 o so,hf4 o so]
    refine⟨fun h=>absurd h h9,fun _=> ?_⟩
    have eq:∀t,cf o t=cf (prods a' (dI n')) t%65536:=fun t=>by
      rw [h7 t,List.take_of_length_le (by omega)]
      unfold dI
      by_cases hn:1≤n'∧n'≤65535
      · rw [if_pos hn,Dr]
        congr 2
        exact List.map_congr_left fun m hm=>(Jt n' (h1.aok hm).2).symm
      · rw [if_neg hn]
        have hz:n'=0:=by omega
        have hz2:cf (a'.map (fun m=>(⟨m.bK*n'%65536,m.atoms⟩:aj))) t=0:=Rb fun m hm=>by
          rw [List.mem_map]at hm
          obtain⟨x,_,rfl⟩:=hm
          dsimp only;rw [hz];simp
        rw [hz2,show prods a' []=[] by simp [prods]];rfl
    have fb:Jr o:=⟨by omega,fun m hm=>(h8 m hm).1⟩
    have:=ML h5 eq (fun m hm=>by
      unfold dI at hm
      split at hm
      · rw [Dr,List.mem_map]at hm
        obtain⟨x,hx,rfl⟩:=hm
        rw [Jt n' (h1.aok hx).2];exact(h1.aok hx).2
      · rw [show prods a' []=[] by simp [prods]]at hm;exact absurd hm (by simp))
    unfold l7
    rw [if_pos (by rw [eF h1,eF (kC n')];rfl),←congrArg Prod.snd this]
    dsimp only;rw [eF fb];rfl
theorem aaZ (l:List aj):(Nf (nf l)∧∀k,cf (nf l) k=cf l k%65536)∨nf l=[]:=by
  by_cases he:∃o,Nf o∧∀k,cf o k=cf l k%65536
  · obtain⟨o,h1,h2⟩:=he
    rw [VZ h1 h2];exact Or.inl ⟨h1,h2⟩
  · right;unfold nf;rw [dif_neg he]
theorem aa0 {l:List aj} {n:Int} (h:aR l n):aR (nf l) n:=by
  rcases aaZ l with⟨h1,h2⟩ | h1
  · refine dB.2 fun m hm k hk=> ?_
    obtain⟨m',g1,g2⟩:=h1.from h2 hm
    exact dB.1 h m' g1 k (g2▸hk)
  · rw [h1];exact dB.2 fun m hm=>absurd hm (by simp)
theorem jD (n:Int):aR [] n:=dB.2 fun m hm=>absurd hm (by simp)
theorem V3 (l:List aj):aN (rP l).2:=by
  unfold rP
  by_cases h:aN (nf l)
  · rw [eF h];exact h
  · rw [fK h];exact eH
theorem Ju {l:List aj} {n:Int} (h:aR l n):aR (rP l).2 n:=by
  unfold rP
  dsimp only
  split
  · exact aa0 h
  · exact jD n
theorem X5 {a b:List aj} {n:Int} (h1:aR a n) (h2:aR b n):aR (a++b) n:=dB.2 fun m hm k hk=>by
  rw [List.mem_append]at hm
  rcases hm with hm | hm
  · exact dB.1 h1 m hm k hk
  · exact dB.1 h2 m hm k hk
theorem Rc {a b:List aj} {n:Int} (h1:aR a n) (h2:aR b n):aR (prods a b) n:=dB.2 fun m hm k hk=>by
  unfold prods at hm
  rw [List.mem_flatMap]at hm
  obtain⟨x,hx,hm⟩:=hm
  rw [List.mem_map]at hm
  obtain⟨y,hy,rfl⟩:=hm
  have:k∈x.atoms++y.atoms:=List.mem_mergeSort.1 hk
  rw [List.mem_append]at this
  rcases this with hk | hk
  · exact dB.1 h1 x hx k hk
  · exact dB.1 h2 y hy k hk
theorem MN (a b:List aj):aN (mY a b).2:=by unfold mY;split;exact V3 _;exact eH
theorem V4 (a b:List aj):aN (l7 a b).2:=by unfold l7;split;exact V3 _;exact eH
theorem zy {a b:List aj} {n:Int} (h1:aR a n) (h2:aR b n):aR (mY a b).2 n:=by unfold mY;split;exact Ju (X5 h1 h2);exact jD n
theorem zB {a b:List aj} {n:Int} (h1:aR a n) (h2:aR b n):aR (l7 a b).2 n:=by unfold l7;split;exact Ju (Rc h1 h2);exact jD n
theorem mQ (c n:Int):aR (dI c) n:=dB.2 fun m hm k hk=>by
  unfold dI at hm;split at hm
  · rw [List.mem_singleton]at hm;subst hm;exact absurd hk (by simp)
  · exact absurd hm (by simp)
theorem om {k n:Int} (h:k<n):aR (fG k) n:=dB.2 fun m hm j hj=>by
  unfold fG at hm;split at hm
  · rw [List.mem_singleton]at hm;subst hm;rw [List.mem_singleton]at hj;omega
  · exact absurd hm (by simp)
theorem aJ.sh {t:List Atom} (h:aJ t):ShT t:=⟨by have:=h.2;omega,fun a ha=>by
  obtain⟨i,hi,rfl⟩:=List.getElem_of_mem ha
  have:=(h.1 i (by omega) (by omega)).1
  rw [show(i:Int).toNat=i from rfl,getD_lt hi]at this
  unfold fO at this
  split at this
  · exact⟨this.2.1.sh,this.2.2.1.sh⟩
  · rw [ShA,this.1.1,this.1.2];exact⟨jv,jv⟩⟩
theorem vk {t:List Atom} {a:Atom} (h:aJ t) (h2:t.length<200):aJ (bD t a).1∧t.length≤(bD t a).1.length∧(bD t a).1.length≤t.length+1∧(fO a t.length→0≤(bD t a).2):=by
  have hsp:=l8 t a
  unfold bD
  split
  · rename_i h3;exact⟨h,Nat.le_refl _,Nat.le_succ _,fun _=>h3⟩
  · rename_i h3
    split
    · rename_i h4;exact⟨h,Nat.le_refl _,Nat.le_succ _,fun h5=>by rcases h4 with h4 | h4;exact absurd h5 h4;omega⟩
    · rename_i h4
      have h5:fO a t.length:=Classical.byContradiction fun h5=>h4 (Or.inl h5)
      refine⟨l9.2 ⟨?_,by rw [List.length_append];simp only [List.length_cons,List.length_nil];omega⟩,by rw [List.length_append];exact Nat.le_add_right _ _,by rw [List.length_append];exact Nat.le_refl _,fun _=>by dsimp only;omega⟩
      have hl:((t++ [a]).length:Int)=t.length+1:=by rw [List.length_append];rfl
      have g1:∀i:Int,0≤i→i<t.length→(t++ [a]).getD i.toNat default=t.getD i.toNat default:=fun i i1 i2=>by
        rw [getD_lt (show i.toNat< (t++ [a]).length by omega),getD_lt (show i.toNat<t.length by omega),List.getElem_append_left]
      have g2:(t++ [a]).getD ((t.length:Int)).toNat default=a:=by
        rw [getD_lt (show((t.length:Int)).toNat< (t++ [a]).length by omega)];simp
      rw [hl]
      intro i i1 i2
      dsimp only
      by_cases i3:i<t.length
      · rw [g1 i i1 i3]
        have:=(l9.1 h).1 i i1 i3
        exact⟨this.1,fun j j1 j2=>by dsimp only;rw [g1 j j1 (by omega)];exact this.2 j j1 j2⟩
      · have:i=t.length:=by omega
        subst this
        rw [g2]
        refine⟨h5,fun j j1 j2=> ?_⟩
        dsimp only;rw [g1 j j1 j2]
        rcases hsp with⟨_,g⟩ | ⟨g,_⟩
        · exact g j j1 j2
        · exact absurd g h3
theorem aa1 {t:List Atom} {op:Int} {x y:List aj} (h:aJ t) (h2:t.length<200) (h3:1≤op∧op≤5) (hx:aN x) (hy:aN y) (ux:aR x t.length) (uy:aR y t.length):
    aJ (vO t op x y).1∧t.length≤(vO t op x y).1.length∧(vO t op x y).1.length≤t.length+1:=by
  unfold vO
  rw [if_pos ⟨h,h3,hx,hy,ux,uy⟩]
  unfold tDo
  have d1:fO ⟨4,op,x,y⟩ t.length:=by unfold fO;rw [if_pos rfl];exact⟨h3,hx,hy,ux,uy⟩
  have d2:fO ⟨4,op,y,x⟩ t.length:=by unfold fO;rw [if_pos rfl];exact⟨h3,hy,hx,uy,ux⟩
  have p1:=vk (a:=⟨4,op,x,y⟩) h h2
  have p2:=vk (a:=⟨4,op,y,x⟩) h h2
  have q1:=p1.2.2.2 d1
  have q2:=p2.2.2.2 d2
  split
  · exact⟨h,Nat.le_refl _,Nat.le_succ _⟩
  · split
    · rw [if_neg (by omega)];exact⟨p2.1,p2.2.1,p2.2.2.1⟩
    · rw [if_neg (by omega)];exact⟨p1.1,p1.2.1,p1.2.2.1⟩
end Go.TX.F
namespace Go.TX.F
open Go Go.AE Go.TX
def By (b:List Int):Prop:=∀z∈b,0≤z∧z≤255
structure Bt (b:List Int):Prop where
  len:b.length≤2000
  rng:By b
theorem By.at {b:List Int} (h:By b) (n:Nat):0≤b.getD n default∧b.getD n default≤255:=by
  by_cases h1:n<b.length
  · rw [getD_lt h1];exact h _ (List.getElem_mem _)
  · simp only [List.getD,List.getElem?_eq_none (by omega:b.length≤n)];decide
theorem aa2 (b:List Int) (hb:By b) (hl:b.length<1000000000):Ga (std 0) (b,()) (fun y=>Bt y.1∧y.2.1=0):=by
  dsimp only [Ga,Alg.cl,Alg.cg,Alg.rb,Alg.bd,Alg.l1,Tup.q,Tup.o]
  simp (disch:=omega) only [RR]
  refine⟨fun h=>⟨by omega,by omega,by omega,⟨?_,?_⟩⟩,fun h=>⟨by omega,hb⟩⟩
  · rw [List.length_drop,List.length_take];omega
  · intro z hz;exact hb z (List.mem_of_mem_take (List.mem_of_mem_drop hz))
theorem amt {a b:Int} (h1:0≤a) (h2:a<4611686018427387904) (h3:0≤b) (h4:b<4611686018427387904):0≤rX .xor .i64 a b∧rX .xor .i64 a b<4611686018427387904:=by
  have e:((2^IntKind.i64.bits:Nat):Int)=18446744073709551616:=by decide
  have e2:rX .xor .i64 a b=((a.toNat^^^b.toNat:Nat):Int):=by
    unfold rX;dsimp only
    rw [BitVec.toNat_xor,BitVec.toNat_ofInt,BitVec.toNat_ofInt,e,show a%18446744073709551616=a by omega,show b%18446744073709551616=b by omega]
    have:=Nat.xor_lt_two_pow (show a.toNat<2^62 by omega) (show b.toNat<2^62 by omega)
    rw [w64 (by omega) (by omega)]
  rw [e2]
  have:=Nat.xor_lt_two_pow (show a.toNat<2^62 by omega) (show b.toNat<2^62 by omega)
  omega
theorem AP {a b:Int} (h:0≤a):a.tmod b=a%b:=Int.tmod_eq_emod_of_nonneg h
theorem V5 {a b:Int} (h:0≤a):a.tdiv b=a/b:=Int.tdiv_eq_ediv_of_nonneg h
def Pk (n:Int) (b:List Int) (p:Int) (y:Int×List Int×Int×Unit):Prop:=y.2.1=b∧y.2.2.1=p+1∧0≤y.1∧(y.1<n∨y.1=0)
theorem aa3 (n:Int) (b:List Int) (p:Int) (hb:Bt b) (h1:0≤p) (h2:p<1000000000):Gb (std 0) (n,b,p,()) (fun y=>Pk n b p y):=by
  have hl:=hb.1
  have cvu:∀k:Nat,IntKind.i64.wrap (b.getD k default)=b.getD k default:=fun k=>by have:=hb.2.at k;exact w64 (by omega) (by omega)
  dsimp only [Gb,Alg.cl,Alg.cg,Alg.rb,Alg.bd,Alg.l1,Tup.q,Tup.o]
  simp (disch:=omega) only [RR,cvu]
  refine⟨fun h=>⟨rfl,rfl,by omega,Or.inr rfl⟩,fun⟨h3,h4⟩=> ?_⟩
  have e1:p+1-1=p:=by omega
  rw [e1]
  refine⟨fun h=>⟨by omega,by omega,by omega,?_⟩,fun h=> ?_⟩
  · have:=hb.2.at p.toNat
    rw [AP this.1]
    exact⟨rfl,rfl,Int.emod_nonneg _ (by omega),Or.inl (Int.emod_lt_of_pos _ (by omega))⟩
  · have hb0:(0:Int)<b.length:=by omega
    have k1:=Int.emod_nonneg p (show(b.length:Int)≠0 by omega)
    have k2:=Int.emod_lt_of_pos p hb0
    have k3:=Int.emod_nonneg (p*7+3) (show(b.length:Int)≠0 by omega)
    have k4:=Int.emod_lt_of_pos (p*7+3) hb0
    have k5:0≤p/b.length:=Int.ediv_nonneg h1 (by omega)
    have k6:p/b.length≤p:=Int.ediv_le_self _ h1
    simp (disch:=omega) only [w64,AP,V5]
    have q1:=hb.2.at (p%b.length).toNat
    have q2:=hb.2.at ((p*7+3)%b.length).toNat
    generalize (b.getD (p%b.length).toNat default)=u at q1 ⊢
    generalize (b.getD ((p*7+3)%b.length).toNat default)=v at q2 ⊢
    generalize p/b.length=w at k5 k6 ⊢
    simp (disch:=omega) only [w64,AP,V5]
    have q:=amt (a:=u*131+v*1117+p*29+w*53) (b:=(u*131+v*1117+p*29+w*53)/64) (by omega) (by omega) (by omega) (by omega)
    rw [TM]
    generalize rX .xor .i64 (u*131+v*1117+p*29+w*53) ((u*131+v*1117+p*29+w*53)/64)=g at q ⊢
    rw [AP q.1]
    exact⟨h4,k1,k2,h4,k3,k4,h4,by omega,by omega,rfl,rfl,Int.emod_nonneg _ (by omega),Or.inl (Int.emod_lt_of_pos _ (by omega))⟩
theorem aa4 {p1:Int×List Int×Int×Unit→Bool} {f1:Int×List Int×Int×Unit→Int×List Int×Int×Unit} (hp1:∀n b p,Bt b→0≤p→p<1000000000→p1 (n,b,p,())=true) (hf1:∀n b p,Bt b→0≤p→p<1000000000→Pk n b p (f1 (n,b,p,())))
    (n:Int) (b:List Int) (p:Int) (hb:Bt b) (h1:0≤p) (h2:p<1000000000):Gg (std 0) p1 f1 (n,b,p,()) (fun y=>y.2.1=b∧y.2.2.1=p+1):=by
  obtain⟨e1,e2,_⟩:=hf1 n b p hb h1 h2
  dsimp only [Gg,Alg.cl,Alg.cg,Alg.rb,Alg.bd,Alg.l1,Tup.q,Tup.o]
  simp (disch:=omega) only [RR,hp1 n b p hb h1 h2,e1,e2]
def Wd (b:List Int) (p:Int) (y:Int×List Int×Int×Unit):Prop:=y.2.1=b∧p≤y.2.2.1∧y.2.2.1≤p+3∧(0≤y.1∧y.1≤65535)
theorem aa5 {p1:Int×List Int×Int×Unit→Bool} {f1:Int×List Int×Int×Unit→Int×List Int×Int×Unit} (hp1:∀n b p,Bt b→0≤p→p<1000000000→p1 (n,b,p,())=true) (hf1:∀n b p,Bt b→0≤p→p<1000000000→Pk n b p (f1 (n,b,p,())))
    (b:List Int) (p:Int) (hb:Bt b) (h1:0≤p) (h2:p<900000000):Gf (std 0) p1 f1 (b,p,()) (fun y=>Wd b p y):=by
  obtain⟨e1,e2,e3,e4⟩:=hf1 4 b p hb h1 (by omega)
  have P1:∀n,p1 (n,b,p+1,())=true:=fun n=>hp1 n b (p+1) hb (by omega) (by omega)
  have P2:∀n,p1 (n,b,p+1+1,())=true:=fun n=>hp1 n b (p+1+1) hb (by omega) (by omega)
  obtain⟨a1,a2,a3,a4⟩:=hf1 9 b (p+1) hb (by omega) (by omega)
  obtain⟨b1,b2,b3,b4⟩:=hf1 70 b (p+1) hb (by omega) (by omega)
  obtain⟨c1,c2,c3,c4⟩:=hf1 256 b (p+1) hb (by omega) (by omega)
  obtain⟨d1,d2,d3,d4⟩:=hf1 256 b (p+1+1) hb (by omega) (by omega)
  dsimp only [Gf,Alg.cl,Alg.cg,Alg.rb,Alg.bd,Alg.l1,Tup.q,Tup.o]
  simp (disch:=omega) only [RR,hp1 4 b p hb h1 (by omega),P1,P2,e1,e2,a1,a2,b1,b2,c1,c2,d1,d2,List.length_cons,List.length_nil]
  refine⟨fun _=>⟨by omega,by omega,by omega,by omega,rfl,by dsimp only;omega,by dsimp only;omega,?_⟩,fun _=>⟨fun _=>⟨rfl,by dsimp only;omega,by dsimp only;omega,by dsimp only;omega⟩,fun _=>⟨rfl,by dsimp only;omega,by dsimp only;omega,?_⟩⟩⟩
  · dsimp only
    have:=dM (d:=default) (xs:=[(0:Int),1,2,3,65535,32768,255,256,65534]) a3 (by simp only [List.length_cons,List.length_nil];omega)
    generalize List.getD [(0:Int),1,2,3,65535,32768,255,256,65534] _ default=z at this ⊢
    simp at this;omega
  · dsimp only
    omega
end Go.TX.F
namespace Go.TX.F
open Go Go.AE Go.TX
structure agL (n:Int) (b:List Int) (p:Int) (y:List Int×Int×List aj×Unit):Prop where
  b:y.1=b
  lo:p≤y.2.1
  hi:y.2.1≤p+200
  ok:aN y.2.2.1
  un:aR y.2.2.1 n
theorem aa6 {p1:Int×List Int×Int×Unit→Bool} {f1:Int×List Int×Int×Unit→Int×List Int×Int×Unit} (hp1:∀n b p,Bt b→0≤p→p<1000000000→p1 (n,b,p,())=true) (hf1:∀n b p,Bt b→0≤p→p<1000000000→Pk n b p (f1 (n,b,p,())))
    {p2:Int×Unit→Bool} {f2:Int×Unit→List aj×Unit} (hp2:∀n,p2 (n,())=true) (hf2:∀n,f2 (n,())=(fG n,()))
    {p4:List aj×List aj×Unit→Bool} {f4:List aj×List aj×Unit→Bool×List aj×Unit} (hp4:∀a b,Sh a→Sh b→p4 (a,b,())=true) (hf4:∀a b,Sh a→Sh b→f4 (a,b,())=((l7 a b).1,(l7 a b).2,()))
    {p5:List aj×List aj×Unit→Bool} {f5:List aj×List aj×Unit→Bool×List aj×Unit} (hp5:∀a b,Sh a→Sh b→p5 (a,b,())=true) (hf5:∀a b,Sh a→Sh b→f5 (a,b,())=((mY a b).1,(mY a b).2,()))
    {p6:Int×Unit→Bool} {f6:Int×Unit→List aj×Unit} (hp6:∀n,p6 (n,())=true) (hf6:∀n,f6 (n,())=(dI n,()))
    {p3:List Int×Int×Unit→Bool} {f3:List Int×Int×Unit→Int×List Int×Int×Unit} (hp3:∀b p,Bt b→0≤p→p<900000000→p3 (b,p,())=true) (hf3:∀b p,Bt b→0≤p→p<900000000→Wd b p (f3 (b,p,())))
    (n:Int) (b:List Int) (p:Int) (hb:Bt b) (hn:0≤n) (h1:0≤p) (h2:p<500000000):Gy (std 0) p1 f1 p2 f2 p4 f4 p5 f5 p6 f6 p3 f3 (n,b,p,()) (fun y=>agL n b p y):=by
  obtain⟨a1,a2,a3,a4⟩:=hf3 b p hb h1 (by omega)
  generalize hq:(f3 (b,p,())).2.2.1=q at a2 a3
  obtain⟨b1,b2,b3,b4⟩:=hf1 3 b q hb (by omega) (by omega)
  obtain⟨c1,c2,c3,c4⟩:=hf1 6 b (q+1) hb (by omega) (by omega)
  dsimp only [Gy,Alg.cl,Alg.cg,Alg.rb,Alg.bd,Alg.l1,Tup.q,Tup.o]
  simp (disch:=omega) only [RR,hp3 b p hb h1 (by omega),a1,hq,hp1 3 b q hb (by omega) (by omega),b1,b2,hp1 6 b (q+1) hb (by omega) (by omega),c1,c2,hp6,hf6,List.length_cons,List.length_nil]
  refine⟨by omega,by omega,by omega,by omega,by omega,by omega,by omega,by omega,?_⟩
  have kr:0≤List.getD [(0:Int),1,2,3,6,12] (f1 (6,b,q+1,())).1.toNat default∧List.getD [(0:Int),1,2,3,6,12] (f1 (6,b,q+1,())).1.toNat default≤12:=by
    have:=dM (d:=default) (xs:=[(0:Int),1,2,3,6,12]) c3 (by simp only [List.length_cons,List.length_nil];omega)
    generalize List.getD [(0:Int),1,2,3,6,12] _ default=z at this ⊢
    simp at this;omega
  generalize List.getD [(0:Int),1,2,3,6,12] (f1 (6,b,q+1,())).1.toNat default=k0 at kr ⊢
  generalize List.getD [(0:Int),1,(f3 (b,p,())).1] (f1 (3,b,q,())).1.toNat default=w0
  refine ay (fun(y:Int×Int×List Int×Int×List aj×Unit)=>y.1=n∧0≤y.2.1∧y.2.1≤12∧y.2.2.1=b∧p≤y.2.2.2.1∧y.2.2.2.1+6*y.2.1≤p+100∧aN y.2.2.2.2.1∧aR y.2.2.2.2.1 n) (fun y=>y.2.1.toNat)
    ⟨rfl,by simp;omega,by simp;omega,rfl,by simp;omega,by simp;omega,kC _,mQ _ _⟩ ?_
  rintro⟨(n':Int),(k:Int),(b':List Int),(r:Int),(o:List aj),⟨⟩⟩ hI
  dsimp only at hI ⊢
  obtain⟨rfl,k1,k2,rfl,k3,k4,k5,k6⟩:=hI
  obtain⟨d1,d2,d3,d4⟩:=hf3 b' r hb (by omega) (by omega)
  generalize hs:(f3 (b',r,())).2.2.1=s at d2 d3
  obtain⟨e1,e2,e3,e4⟩:=hf1 3 b' s hb (by omega) (by omega)
  have em:=Int.emod_nonneg (f3 (b',r,())).1 (show(65535:Int)≠0 by omega)
  have em2:=Int.emod_lt_of_pos (f3 (b',r,())).1 (show(0:Int)<65535 by omega)
  have tm:=AP (b:=65535) d4.1
  simp (disch:=omega) only [RR,hp3 b' r hb (by omega) (by omega),d1,hs,hp1 3 b' s hb (by omega) (by omega),e1,e2,tm]
  refine⟨fun k7=>⟨by omega,?_⟩,fun k7=>⟨rfl,by dsimp only;omega,by dsimp only;omega,k5,k6⟩⟩
  have m0:([⟨1+(f3 (b',r,())).1%65535,[]⟩]:List aj)=dI (1+(f3 (b',r,())).1%65535):=by unfold dI;rw [if_pos (by omega)]
  rw [m0]
  refine ay (fun(y:Int×Int×Int×List Int×Int×List aj×List aj×Unit)=>y.1=n'∧y.2.1=k∧0≤y.2.2.1∧y.2.2.1≤2∧y.2.2.2.1=b'∧r≤y.2.2.2.2.1∧y.2.2.2.2.1+y.2.2.1≤r+6∧y.2.2.2.2.2.1=o∧aN y.2.2.2.2.2.2.1∧aR y.2.2.2.2.2.2.1 n') (fun y=>y.2.2.1.toNat)
    ⟨rfl,rfl,e3,by dsimp only;omega,rfl,by dsimp only;omega,by dsimp only;omega,rfl,kC _,mQ _ _⟩ ?_
  rintro⟨(n2:Int),(k':Int),(j:Int),(bb:List Int),(u:Int),(o':List aj),(m:List aj),⟨⟩⟩ hI
  dsimp only at hI ⊢
  obtain⟨rfl,rfl,j1,j2,rfl,j3,j4,rfl,j5,j6⟩:=hI
  obtain⟨g1,g2,g3,g4⟩:=hf1 n2 bb u hb (by omega) (by omega)
  have sA:=(oh (f1 (n2,bb,u,())).1).sh
  simp (disch:=omega) only [RR,hp1 n2 bb u hb (by omega) (by omega),g1,g2,hp2,hf2,hp4 m _ j5.sh sA,hf4 m _ j5.sh sA,hp5 o' m k5.sh j5.sh,hf5 o' m k5.sh j5.sh]
  refine⟨fun⟨i1,i2⟩=>⟨fun i3=>⟨⟨by omega,by omega,by omega,by omega,V4 _ _,zB j6 (om (by omega))⟩,by omega⟩,fun i3=>⟨⟨by omega,by omega,by omega,by omega,j5,j6⟩,by omega⟩⟩,fun i1=>⟨fun i3=>⟨⟨by omega,by omega,by omega,by omega,MN _ _,zy k6 j6⟩,by omega⟩,fun i3=>⟨⟨by omega,by omega,by omega,by omega,k5,k6⟩,by omega⟩⟩⟩
end Go.TX.F
