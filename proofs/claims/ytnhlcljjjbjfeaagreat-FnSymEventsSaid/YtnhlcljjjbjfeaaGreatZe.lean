/- Part 5 of a proof: what the last part needs. No condition. -/
import Derived.Test.YtnhlcljjjbjfeaaGreatZd
set_option linter.all false
set_option linter.unusedSectionVars false
set_option linter.unusedVariables false
set_option linter.unusedSimpArgs false
namespace Go.TX.Seat
open Go Go.AE Go.TX Go.TX.F Go.Proofs
set_option maxRecDepth 100000
theorem akK (A:Alg) (bF:Ct A.ah jg) (iN:Ct A.ah uQ) (qg:Ct A.ah BQ): @Ru aJ.z X E A [] (.seq .u (.seq .u (.seq .u (.seq (.seq .u (.block (.loop ⟨[(1,.c (.pb 0 7 0)),(2,.c (.pb 1 7 0)),(3,.c (.own 2)),(4,.c (.int .i64))],[.box (.sv false .blk),.box (.agg [.int .i64,.int .i64,.nil,.int .i64,.int .i64,.int .i64,.int .i64]),.rows true .bool]⟩ .u))) .u)))) BR Tryz.f45 [(30,⟨_,bF⟩),(119,⟨_,iN⟩),(118,⟨_,qg⟩)] (H6 A bF.pre bF.fn iN.pre iN.fn qg.pre qg.fn):=fun _=>by kernel_rfl
theorem akL (A:Alg) (bF:Ct A.ah jg) (aC:Ct A.ah bS): @Ru aJ.z X E A [] (.seq .u (.seq .u (.seq .u (.seq (.seq .u (.block (.loop ⟨[(1,.c (.pb 0 7 0)),(3,.c (.own 1)),(4,.c (.int .i64))],[.box (.sv false .blk),.rows true .bool]⟩ .u))) (.seq (.seq .u (.cut ⟨[(1,.c (.pb 0 7 0)),(3,.c (.own 1))],[.box (.sv false .blk),.rows true .bool]⟩ (.cond .u .u))) (.seq (.seq .u (.cut ⟨[(1,.c (.pb 0 7 0)),(3,.c (.own 1))],[.box (.sv false .blk),.rows true .bool]⟩ (.cond .u .u))) (.seq (.seq .u (.block (.loop ⟨[(1,.c (.pb 0 7 0)),(3,.c (.own 1)),(5,.c (.int .i64))],[.box (.sv false .blk),.rows true .bool]⟩ (.seq .u (.seq (.cut ⟨[(1,.c (.pb 0 7 0)),(3,.c (.own 1)),(5,.c (.int .i64))],[.box (.sv false .blk),.rows true .bool]⟩ (.block (.seq .u (.seq .u (.seq (.seq .u (.cut ⟨[(1,.c (.pb 0 7 0)),(3,.c (.own 1)),(5,.c (.int .i64)),(6,.c (.pb 2 5 0))],[.box (.sv false .blk),.rows true .bool,.box (.sv false .iop)]⟩ (.cond .u .u))) (.seq .u (.cut ⟨[(1,.c (.pb 0 7 0)),(3,.c (.own 1)),(5,.c (.int .i64))],[.box (.sv false .blk),.rows true .bool]⟩ (.cond .u .u)))))))) .u))))) .u))))))) BS Tryz.f50 [(30,⟨_,bF⟩),(89,⟨_,aC⟩)] (H7 A bF.pre bF.fn aC.pre aC.fn):=fun _=>by kernel_rfl
theorem akM (A:Alg) (bF:Ct A.ah jg) (qh:Ct A.ah BS) (iN:Ct A.ah uQ): @Ru aJ.z X E A [(3,[(0,([1],[])),(1,([1],[])),(2,([8],[0])),(3,([7,9],[])),(4,([2,10],[]))])] .u BU Tryz.f49 [(30,⟨_,bF⟩),(50,⟨_,qh⟩),(119,⟨_,iN⟩)] (H8 A bF.pre bF.fn qh.pre qh.fn iN.pre iN.fn):=fun _=>by kernel_rfl
theorem akN (A:Alg) (qj:Ct A.ah BP) (iO:Ct A.ah uO) (ql:Ct A.ah BU) (qm:Ct A.ah BR): @Ru aJ.z X E A [] .u BX Tryz.f57 [(42,⟨_,qj⟩),(54,⟨_,iO⟩),(49,⟨_,ql⟩),(45,⟨_,qm⟩)] (Mc A qj.pre qj.fn iO.pre iO.fn ql.pre ql.fn qm.pre qm.fn):=fun _=>by kernel_rfl
theorem akO (A:Alg) (aD:Ct A.ah cu): @Ru aJ.z X E A [] (.seq .u (.seq .u (.seq .u (.seq (.seq .u (.block (.seq (.seq .u (.cut ⟨[(0,.c (.pb 0 2 0)),(2,.c (.pb 1 4 0)),(3,.c (.int .i64)),(4,.c (.int .i64)),(10,.c (.int .i64)),(11,.c (.bool))],[.box (.agg [.rows true .u8,.int .i64]),.box (.agg [.int .i64,.int .i64,.int .i64,.int .i64])]⟩ (.cond .u .u))) (.cond .u (.seq .u (.cond .u (.seq (.seq .u (.cut ⟨[(0,.c (.pb 0 2 0)),(2,.c (.pb 1 4 0)),(3,.c (.int .i64)),(4,.c (.int .i64)),(10,.c (.int .i64)),(30,.c (.bool))],[.box (.agg [.rows true .u8,.int .i64]),.box (.agg [.int .i64,.int .i64,.int .i64,.int .i64])]⟩ (.cond .u (.seq .u (.cut ⟨[(0,.c (.pb 0 2 0)),(2,.c (.pb 1 4 0)),(3,.c (.int .i64)),(4,.c (.int .i64)),(10,.c (.int .i64)),(30,.c (.bool))],[.box (.agg [.rows true .u8,.int .i64]),.box (.agg [.int .i64,.int .i64,.int .i64,.int .i64])]⟩ (.cond .u .u)))))) (.cond .u (.seq .u (.cond .u (.seq (.seq .u (.cut ⟨[(0,.c (.pb 0 2 0)),(2,.c (.pb 1 4 0)),(3,.c (.int .i64)),(4,.c (.int .i64)),(10,.c (.int .i64)),(54,.c (.bool))],[.box (.agg [.rows true .u8,.int .i64]),.box (.agg [.int .i64,.int .i64,.int .i64,.int .i64])]⟩ (.cond .u .u))) .u))))))))))) .u)))) BZ Tryz.f204 [(61,⟨_,aD⟩)] (H9 A aD.pre aD.fn):=fun _=>by kernel_rfl
theorem akP (A:Alg): @Ru aJ.z X E A [] (.seq .u (.seq (.seq .u (.block (.seq .u (.cond .u (.seq .u (.cond .u (.seq .u (.cond .u (.seq (.seq .u (.cut ⟨[(1,.c (.pb 0 4 0)),(4,.c (.int .i64)),(30,.c (.bool))],[.box (.sv false .ins)]⟩ (.cond .u (.seq .u (.cut ⟨[(1,.c (.pb 0 4 0)),(4,.c (.int .i64)),(30,.c (.bool))],[.box (.sv false .ins)]⟩ (.cond .u (.seq .u (.cut ⟨[(1,.c (.pb 0 4 0)),(4,.c (.int .i64)),(30,.c (.bool))],[.box (.sv false .ins)]⟩ (.cond .u (.seq .u (.cut ⟨[(1,.c (.pb 0 4 0)),(4,.c (.int .i64)),(30,.c (.bool))],[.box (.sv false .ins)]⟩ (.cond .u .u)))))))))))) (.cond .u (.seq .u (.cond .u (.seq .u (.cond .u (.seq (.seq .u (.cut ⟨[(1,.c (.pb 0 4 0)),(54,.c (.bool))],[.box (.sv false .ins)]⟩ (.cond .u .u))) .u))))))))))))))) .u)) Ca Tryz.f222 [] (Ia A):=fun _=>by kernel_rfl
theorem akQ (A:Alg) (aC:Ct A.ah bS) (qo:Ct A.ah Ca): @Ru aJ.z X E A [] .u uR Tryz.f206 [(89,⟨_,aC⟩),(222,⟨_,qo⟩)] (Ib A aC.pre aC.fn qo.pre qo.fn):=fun _=>by kernel_rfl
theorem akR (A:Alg): @Ru aJ.z X E A [] .u uS Tryz.f207 [] (Ic A):=fun _=>by kernel_rfl
theorem akS (A:Alg) (iP:Ct A.ah uS) (iQ:Ct A.ah uR): @Ru aJ.z X E A [] .u uT Tryz.f205 [(207,⟨_,iP⟩),(206,⟨_,iQ⟩)] (Ie A iP.pre iP.fn iQ.pre iQ.fn):=fun _=>by kernel_rfl
theorem akT (A:Alg) (qp:Ct A.ah BZ) (aD:Ct A.ah cu) (iR:Ct A.ah uT): @Ru aJ.z X E A [(3,[(0,([3],[])),(1,([9],[])),(2,([3],[])),(3,([11],[])),(4,([0],[])),(5,([13],[1,3])),(6,([10,12,14],[])),(7,([2,15],[]))])] .u Cc Tryz.f182 [(204,⟨_,qp⟩),(61,⟨_,aD⟩),(205,⟨_,iR⟩)] (Ig A qp.pre qp.fn aD.pre aD.fn iR.pre iR.fn):=fun _=>by kernel_rfl
theorem akU (A:Alg) (qw:Ct A.ah Cc) (aD:Ct A.ah cu): @Ru aJ.z X E A [] (.seq .u (.seq .u (.seq (.seq .u (.block (.loop ⟨[(0,.c (.pb 0 2 0)),(3,.c (.own 1)),(4,.c (.int .i64))],[.box (.agg [.rows true .u8,.int .i64]),.rows true .ins]⟩ .u))) .u))) Ce Tryz.f139 [(182,⟨_,qw⟩),(61,⟨_,aD⟩)] (Ih A qw.pre qw.fn aD.pre aD.fn):=fun _=>by kernel_rfl
theorem akV (A:Alg) (iP:Ct A.ah uS) (iQ:Ct A.ah uR) (aC:Ct A.ah bS) (iR:Ct A.ah uT): @Ru aJ.z X E A [] (.seq .u (.seq .u (.seq (.seq .u (.block (.loop ⟨[(1,.c (.rows false .ins)),(5,.c (.int .i64))],[]⟩ .u))) .u))) Cg Tryz.f183 [(207,⟨_,iP⟩),(206,⟨_,iQ⟩),(89,⟨_,aC⟩),(205,⟨_,iR⟩)] (Ii A iP.pre iP.fn iQ.pre iQ.fn aC.pre aC.fn iR.pre iR.fn):=fun _=>by kernel_rfl
theorem akW (A:Alg): @Ru aJ.z X E A [(2,[(0,([2],[])),(1,([2],[])),(2,([13],[])),(3,([14],[])),(4,([15],[])),(5,([4,12],[2])),(6,([16],[]))])] .u jh Tryz.f208 [] (Ij A):=fun _=>by kernel_rfl
theorem akX (A:Alg) (bG:Ct A.ah jh): @Ru aJ.z X E A [] .u uU Tryz.f209 [(208,⟨_,bG⟩)] (Ik A bG.pre bG.fn):=fun _=>by kernel_rfl
theorem akY (A:Alg) (bG:Ct A.ah jh): @Ru aJ.z X E A [] .u jT Tryz.f210 [(208,⟨_,bG⟩)] (Il A bG.pre bG.fn):=fun _=>by kernel_rfl
theorem akZ (A:Alg) (bW:Ct A.ah jT) (bG:Ct A.ah jh): @Ru aJ.z X E A [] .u uV Tryz.f211 [(210,⟨_,bW⟩),(208,⟨_,bG⟩)] (Im A bW.pre bW.fn bG.pre bG.fn):=fun _=>by kernel_rfl
theorem ak0 (A:Alg): @Ru aJ.z X E A [] (.seq .u (.seq .u (.seq (.seq .u (.block (.loop ⟨[(0,.c (.int .i64)),(3,.c (.int .i64)),(4,.c (.int .i64))],[]⟩ .u))) .u))) Ch Tryz.f212 [] (Io A):=fun _=>by kernel_rfl
theorem ak1 (A:Alg) (bW:Ct A.ah jT) (bG:Ct A.ah jh) (iT:Ct A.ah uV) (iU:Ct A.ah uU): @Ru aJ.z X E A [] .u Ci Tryz.f213 [(210,⟨_,bW⟩),(208,⟨_,bG⟩),(211,⟨_,iT⟩),(209,⟨_,iU⟩)] (Ip A bW.pre bW.fn bG.pre bG.fn iT.pre iT.fn iU.pre iU.fn):=fun _=>by kernel_rfl
theorem ak2 (A:Alg) (bW:Ct A.ah jT): @Ru aJ.z X E A [] (.seq .u (.seq .u (.seq .u (.seq .u (.seq .u (.seq (.seq .u (.cut ⟨[(3,.c (.pb 1 4 0)),(4,.c (.pb 2 7 0)),(8,.c (.int .i64)),(9,.c (.pb 3 7 0)),(10,.c (.int .i64))],[.gone,.box (.sv false .ins),.box (.agg [.int .i64,.int .i64,.nil,.int .i64,.int .i64,.int .i64,.int .i64]),.box (.agg [.int .i64,.int .i64,.own 4,.int .i64,.int .i64,.int .i64,.int .i64]),.rows true .iop]⟩ (.cond .u .u))) .u)))))) Cj Tryz.f214 [(210,⟨_,bW⟩)] (Iq A bW.pre bW.fn):=fun _=>by kernel_rfl
theorem ak3 (A:Alg) (bW:Ct A.ah jT) (qx:Ct A.ah Cj) (bG:Ct A.ah jh) (qy:Ct A.ah Ci) (iT:Ct A.ah uV) (iU:Ct A.ah uU) (qz:Ct A.ah Ch): @Ru aJ.z X E A [(9,[(0,([3],[])),(1,([4],[])),(2,([56],[])),(3,([4],[])),(4,([58],[])),(5,([59],[0,2])),(6,([60],[])),(7,([55,57,61],[])),(8,([62],[])),(9,([54],[])),(10,([54],[])),(11,([],[])),(12,([11,63],[])),(13,([64],[]))])] (.seq .u (.seq (.seq .u (.block (.seq .u (.cond .u (.seq .u (.cond .u (.seq .u (.cond .u (.seq (.seq .u (.cut ⟨[(2,.c (.int .i64)),(3,.c (.pb 1 7 0)),(4,.c (.pb 2 4 0)),(6,.c (.pb 3 7 0)),(22,.c (.int .i64)),(70,.c (.bool))],[.rows true .iop,.box (.agg [.int .i64,.int .i64,.own 0,.int .i64,.int .i64,.int .i64,.int .i64]),.box (.sv false .ins),.box (.agg [.int .i64,.int .i64,.nil,.int .i64,.int .i64,.int .i64,.int .i64])]⟩ (.cond .u .u))) (.cond .u (.seq .u (.cond .u (.seq .u (.cond .u (.seq (.seq .u (.cut ⟨[(3,.c (.pb 1 7 0)),(4,.c (.pb 2 4 0)),(6,.c (.pb 3 7 0)),(109,.c (.bool))],[.rows true .iop,.box (.agg [.int .i64,.int .i64,.own 0,.int .i64,.int .i64,.int .i64,.int .i64]),.box (.sv false .ins),.box (.agg [.int .i64,.int .i64,.nil,.int .i64,.int .i64,.int .i64,.int .i64])]⟩ (.cond .u (.seq .u (.cut ⟨[(3,.c (.pb 1 7 0)),(4,.c (.pb 2 4 0)),(6,.c (.pb 3 7 0)),(109,.c (.bool))],[.rows true .iop,.box (.agg [.int .i64,.int .i64,.own 0,.int .i64,.int .i64,.int .i64,.int .i64]),.box (.sv false .ins),.box (.agg [.int .i64,.int .i64,.nil,.int .i64,.int .i64,.int .i64,.int .i64])]⟩ (.cond .u .u)))))) .u))))))))))))))) .u)) Ck Tryz.f184 [(210,⟨_,bW⟩),(214,⟨_,qx⟩),(208,⟨_,bG⟩),(213,⟨_,qy⟩),(211,⟨_,iT⟩),(209,⟨_,iU⟩),(212,⟨_,qz⟩)] (Ir A bW.pre bW.fn qx.pre qx.fn bG.pre bG.fn qy.pre qy.fn iT.pre iT.fn iU.pre iU.fn qz.pre qz.fn):=fun _=>by kernel_rfl
theorem ak4 (A:Alg) (qA:Ct A.ah Cg) (qB:Ct A.ah Ck): @Ru aJ.z X E A [(7,[(0,([5],[])),(1,([1],[])),(2,([6],[])),(3,([27,28],[])),(4,([29],[])),(5,([6],[])),(6,([26,30,31],[])),(7,([5,32],[]))])] (.seq .u (.seq .u (.seq .u (.seq (.seq .u (.block (.loop ⟨[(1,.c (.rows false .ins)),(4,.c (.pb 0 7 0)),(5,.c (.pb 1 7 0)),(6,.c (.int .i64))],[.box (.agg [.int .i64,.int .i64,.nil,.int .i64,.int .i64,.int .i64,.int .i64]),.box (.agg [.int .i64,.int .i64,.own 2,.int .i64,.int .i64,.int .i64,.int .i64]),.rows true .iop]⟩ .u))) .u)))) Cm Tryz.f140 [(183,⟨_,qA⟩),(184,⟨_,qB⟩)] (Iu A qA.pre qA.fn qB.pre qB.fn):=fun _=>by kernel_rfl
theorem ak5 (A:Alg) (qC:Ct A.ah Cm) (qD:Ct A.ah BX) (iO:Ct A.ah uO) (aD:Ct A.ah cu) (qE:Ct A.ah Ce): @Ru aJ.z X E A [] .u Cn Tryz.f66 [(140,⟨_,qC⟩),(57,⟨_,qD⟩),(54,⟨_,iO⟩),(61,⟨_,aD⟩),(139,⟨_,qE⟩)] (Iw A qC.pre qC.fn qD.pre qD.fn iO.pre iO.fn aD.pre aD.fn qE.pre qE.fn):=fun _=>by kernel_rfl
theorem aqK (A:Alg): @Ru aJ.z X E A [] .u L6 Tryz.f148 [] (Y3 A):=fun _=>by kernel_rfl
theorem aqL (A:Alg) (vk:Ct A.ah L6): @Ru aJ.z X E A [] .u Ef Tryz.f80 [(148,⟨_,vk⟩)] (Y4 A vk.pre vk.fn):=fun _=>by kernel_rfl
theorem aqM (A:Alg): @Ru aJ.z X E A [] (.seq .u (.seq .u (.seq (.seq .u (.block (.loop ⟨[(3,.c (.int .i64)),(6,.c (.rows false .i64)),(7,.c (.int .i64)),(8,.c (.int .i64))],[]⟩ .u))) .u))) L8 Tryz.f81 [] (Y7 A):=fun _=>by kernel_rfl
theorem aon (A:Alg) (lS:Ct A.ah Ef): @Ru aJ.z X E A [] (.seq .u (.seq (.seq .u (.block (.loop ⟨[(0,.c (.rows false .i64)),(1,.c (.rows false .i64)),(9,.c (.rows false .i64)),(10,.c (.int .i64)),(11,.c (.int .i64))],[]⟩ .u))) .u)) J6 Tryz.f149 [(80,⟨_,lS⟩)] (Pn A lS.pre lS.fn):=fun _=>by kernel_rfl
theorem aoo (A:Alg) (vo:Ct A.ah L8) (lS:Ct A.ah Ef) (xY:Ct A.ah J6): @Ru aJ.z X E A [] .u nZ Tryz.f82 [(81,⟨_,vo⟩),(80,⟨_,lS⟩),(149,⟨_,xY⟩)] (Po A vo.pre vo.fn lS.pre lS.fn xY.pre xY.fn):=fun _=>by kernel_rfl
theorem aop (A:Alg): @Ru aJ.z X E A [] .u dB Tryz.f121 [] (Pp A):=fun _=>by kernel_rfl
theorem aqN (A:Alg) (vk:Ct A.ah L6): @Ru aJ.z X E A [] .u Eh Tryz.f185 [(148,⟨_,vk⟩)] (Y8 A vk.pre vk.fn):=fun _=>by kernel_rfl
theorem ak6 (A:Alg) (lT:Ct A.ah Eh): @Ru aJ.z X E A [(4,[(0,([0],[])),(1,([3],[])),(2,([11,12],[])),(3,([13],[])),(4,([0],[])),(5,([3],[])),(6,([16],[])),(7,([15,17],[])),(8,([18],[])),(9,([14,19],[]))])] (.seq .u (.seq (.seq .u (.block (.loop ⟨[(0,.c (.rows false .i64)),(3,.c (.int .i64))],[]⟩ .u))) .u)) Cq Tryz.f141 [(185,⟨_,lT⟩)] (Iy A lT.pre lT.fn):=fun _=>by kernel_rfl
theorem aoq (A:Alg): @Ru aJ.z X E A [] .u J7 Tryz.f187 [] (Pq A):=fun _=>by kernel_rfl
theorem ak7 (A:Alg) (xZ:Ct A.ah J7): @Ru aJ.z X E A [] (.seq .u (.seq (.seq .u (.block (.loop ⟨[(0,.c (.rows false .i64)),(1,.c (.fn 187 [(0,1)])),(7,.c (.int .i64)),(8,.c (.int .i64))],[.box (.c (.int .i64))]⟩ .u))) .u)) Cr Tryz.f215 [(187,⟨_,xZ⟩)] (Iz A xZ.pre xZ.fn):=fun _=>by kernel_rfl
theorem ak8 (A:Alg) (qF:Ct A.ah Cr): @Ru aJ.z X E A [] .u Cu Tryz.f186 [(215,⟨_,qF⟩)] (IB A qF.pre qF.fn):=fun _=>by kernel_rfl
theorem aor (A:Alg) (qG:Ct A.ah Cu): @Ru aJ.z X E A [] (.seq .u (.seq (.seq .u (.block (.loop ⟨[(3,.c (.pb 0 1 0)),(8,.c (.rows false .mono)),(9,.c (.int .i64)),(10,.c (.int .i64))],[.box (.c (.int .i64))]⟩ .u))) .u)) Ad Tryz.f142 [(186,⟨_,qG⟩)] (Pv A qG.pre qG.fn):=fun _=>by kernel_rfl
theorem aos (A:Alg): @Ru aJ.z X E A [] .u J8 Tryz.f144 [] (Pw A):=fun _=>by kernel_rfl
theorem ak9 (A:Alg) (yc:Ct A.ah J8): @Ru aJ.z X E A [] (.seq .u (.seq (.seq .u (.block (.loop ⟨[(0,.c (.rows false .mono)),(1,.c (.fn 144 [])),(7,.c (.int .i64)),(8,.c (.int .i64))],[]⟩ .u))) .u)) Cv Tryz.f188 [(144,⟨_,yc⟩)] (IC A yc.pre yc.fn):=fun _=>by kernel_rfl
theorem ala (A:Alg) (qH:Ct A.ah Cv): @Ru aJ.z X E A [] .u Cw Tryz.f143 [(188,⟨_,qH⟩)] (IE A qH.pre qH.fn):=fun _=>by kernel_rfl
theorem aot (A:Alg) (aF:Ct A.ah dB) (kP:Ct A.ah Ad) (qI:Ct A.ah Cq) (eD:Ct A.ah nZ) (qJ:Ct A.ah Cw): @Ru aJ.z X E A [(4,[(0,([4],[])),(1,([13],[])),(2,([14],[])),(3,([15],[])),(4,([16],[])),(5,([4,17],[])),(6,([17,18],[])),(7,([17,19],[])),(8,([17,20],[])),(9,([17,21],[])),(10,([22],[])),(11,([4,23],[])),(12,([23,24],[])),(13,([23,25],[])),(14,([23,26],[])),(15,([23,27],[])),(16,([28],[])),(17,([3,29],[])),(18,([29,30],[])),(19,([29,31],[])),(20,([1,32],[])),(21,([32,33],[])),(22,([3,32],[])),(23,([32,35],[])),(24,([32,34,36],[])),(25,([32,37],[])),(26,([32,38],[])),(27,([4,32],[])),(28,([32,40],[])),(29,([32,39,41],[])),(30,([32,42],[])),(31,([29,32,43],[])),(32,([29,44],[]))])] (.seq .u (.seq (.seq .u (.block (.loop ⟨[(1,.c (.pb 0 1 0)),(6,.c (.rows false .mono)),(7,.c (.int .i64)),(8,.c (.int .i64))],[.box (.sv false .poly)]⟩ .u))) .u)) jl Tryz.f67 [(121,⟨_,aF⟩),(142,⟨_,kP⟩),(141,⟨_,qI⟩),(82,⟨_,eD⟩),(143,⟨_,qJ⟩)] (Px A aF.pre aF.fn kP.pre kP.fn qI.pre qI.fn eD.pre eD.fn qJ.pre qJ.fn):=fun _=>by kernel_rfl
theorem aou (A:Alg) (bB:Ct A.ah jl): @Ru aJ.z X E A [] .u Ae Tryz.f22 [(67,⟨_,bB⟩)] (Py A bB.pre bB.fn):=fun _=>by kernel_rfl
theorem aov (A:Alg) (vo:Ct A.ah L8) (lS:Ct A.ah Ef) (eD:Ct A.ah nZ): @Ru aJ.z X E A [(7,[(0,([7],[])),(1,([27],[])),(2,([3],[])),(3,([29],[])),(4,([6],[])),(5,([30,31],[])),(6,([32],[])),(7,([33],[])),(9,([7],[])),(10,([36],[])),(11,([3],[])),(12,([38],[])),(13,([6],[])),(14,([39,40],[])),(15,([41],[])),(16,([42],[])),(8,([28,34],[10,12,16])),(17,([37,43],[])),(18,([35,44],[])),(19,([45],[])),(20,([46],[]))])] (.seq .u (.seq .u (.seq (.seq .u (.block (.loop ⟨[(3,.c (.pb 0 1 0)),(20,.c (.rows false .mono)),(21,.c (.int .i64)),(22,.c (.int .i64))],[.box (.sv false .poly)]⟩ .u))) .u))) vK Tryz.f24 [(81,⟨_,vo⟩),(80,⟨_,lS⟩),(82,⟨_,eD⟩)] (Pz A vo.pre vo.fn lS.pre lS.fn eD.pre eD.fn):=fun _=>by kernel_rfl
theorem aow (A:Alg): @Ru aJ.z X E A [] .u Af Tryz.f189 [] (PD A):=fun _=>by kernel_rfl
theorem aox (A:Alg) (kQ:Ct A.ah Af): @Ru ⟨[20],[]⟩ X E A [(5,[(0,([3],[])),(1,([13],[])),(2,([5],[])),(3,([15],[])),(4,([5],[])),(5,([17],[])),(6,([18],[1,3])),(7,([16,19],[])),(8,([20],[1])),(9,([14,21],[])),(10,([3],[])),(11,([22,23],[]))])] (.seq .u (.seq .u (.seq (.seq .u (.block (.loop ⟨[(2,.c (.pb 0 1 0)),(3,.c (.pb 1 1 0)),(7,.c (.rows false .mono)),(8,.c (.int .i64)),(9,.c (.int .i64))],[.box (.agg [.nil]),.box (.agg [.own 2]),.rows true .mono]⟩ .u))) .u))) vL Tryz.f146 [(189,⟨_,kQ⟩)] (PE A kQ.pre kQ.fn):=fun _=>by kernel_rfl
theorem aoy (A:Alg) (gG:Ct A.ah vL): @Ru aJ.z X E A [] (.seq .u (.seq .u (.seq (.seq .u (.block (.loop ⟨[(3,.c (.own 0)),(6,.c (.rows false .poly)),(7,.c (.int .i64)),(8,.c (.int .i64))],[.rows true .poly]⟩ .u))) .u))) J9 Tryz.f145 [(146,⟨_,gG⟩)] (PG A gG.pre gG.fn):=fun _=>by kernel_rfl
theorem aoz (A:Alg) (gG:Ct A.ah vL) (yg:Ct A.ah J9): @Ru ⟨[42],[]⟩ X E A [(1,[(0,([1],[])),(1,([6],[])),(3,([1],[])),(4,([9],[])),(5,([1],[])),(6,([11],[])),(8,([1],[])),(9,([14],[])),(11,([1],[])),(12,([17],[])),(2,([7],[4,6,9,12])),(7,([12],[4,9,12])),(10,([15],[4,12])),(13,([8,10,13,16,18],[])),(14,([],[])),(15,([3,19],[]))]),(5,[(0,([3],[])),(1,([27],[])),(2,([5],[])),(3,([29],[])),(4,([5],[])),(5,([31],[])),(6,([5],[])),(7,([33],[])),(9,([5],[])),(10,([36],[])),(12,([5],[])),(13,([39],[])),(8,([34],[1,3,5,10,13])),(11,([37],[1,3,5,13])),(14,([40],[1,3,5])),(15,([30,32,35,38,41],[])),(16,([42],[1])),(17,([28,43],[])),(18,([3],[])),(19,([44,45],[]))])] (.seq .u (.seq .u (.seq (.seq .u (.block (.loop ⟨[(2,.c (.pb 0 6 0)),(3,.c (.pb 1 6 0)),(21,.c (.rows false .ev)),(22,.c (.int .i64)),(23,.c (.int .i64))],[.box (.agg [.nil,.nil,.int .i64,.nil,.nil,.int .i64]),.box (.agg [.own 2,.own 3,.int .i64,.own 4,.own 5,.int .i64]),.rows true .ev,.rows true .poly,.rows true .mono,.rows true .mono]⟩ .u))) .u))) Ka Tryz.f68 [(146,⟨_,gG⟩),(145,⟨_,yg⟩)] (PI A gG.pre gG.fn yg.pre yg.fn):=fun _=>by kernel_rfl
theorem aoA (A:Alg) (gH:Ct A.ah vK): @Ru aJ.z X E A [] .u vM Tryz.f69 [(24,⟨_,gH⟩)] (PK A gH.pre gH.fn):=fun _=>by kernel_rfl
theorem aoB (A:Alg) (aF:Ct A.ah dB): @Ru aJ.z X E A [] .u jJ Tryz.f78 [(121,⟨_,aF⟩)] (PO A aF.pre aF.fn):=fun _=>by kernel_rfl
theorem aoC (A:Alg) (bQ:Ct A.ah jJ): @Ru aJ.z X E A [] .u Kc Tryz.f70 [(78,⟨_,bQ⟩)] (PS A bQ.pre bQ.fn):=fun _=>by kernel_rfl
theorem aoD (A:Alg) (kR:Ct A.ah Ae) (bB:Ct A.ah jl) (gH:Ct A.ah vK) (yh:Ct A.ah Ka) (gI:Ct A.ah vM) (yj:Ct A.ah Kc): @Ru aJ.z X E A [] (.seq .u (.seq .u (.seq .u (.seq .u (.seq .u (.seq .u (.seq (.block (.seq .u (.cut ⟨[(4,.c (.pb 0 6 0)),(5,.c (.pb 1 6 0))],[.box (.agg [.nil,.nil,.int .i64,.nil,.nil,.int .i64]),.box (.agg [.own 2,.own 3,.int .i64,.own 4,.own 5,.int .i64]),.rows true .ev,.rows true .poly,.rows true .mono,.rows true .mono]⟩ (.cond .u (.seq .u (.cut ⟨[(4,.c (.pb 0 6 0)),(5,.c (.pb 1 6 0))],[.box (.agg [.nil,.nil,.int .i64,.nil,.nil,.int .i64]),.box (.agg [.own 2,.own 3,.int .i64,.own 4,.own 5,.int .i64]),.rows true .ev,.rows true .poly,.rows true .mono,.rows true .mono]⟩ (.cond .u (.seq .u (.cut ⟨[(4,.c (.pb 0 6 0)),(5,.c (.pb 1 6 0))],[.box (.agg [.nil,.nil,.int .i64,.nil,.nil,.int .i64]),.box (.agg [.own 2,.own 3,.int .i64,.own 4,.own 5,.int .i64]),.rows true .ev,.rows true .poly,.rows true .mono,.rows true .mono]⟩ (.cond (.seq .u (.seq .u (.seq .u (.cut ⟨[(4,.c (.pb 0 6 0)),(5,.c (.pb 1 6 0))],[.box (.agg [.nil,.nil,.int .i64,.nil,.nil,.int .i64]),.box (.agg [.own 2,.own 3,.int .i64,.nil,.nil,.int .i64]),.rows true .ev,.rows true .poly]⟩ (.cond .u .u))))) (.seq .u (.cut ⟨[(4,.c (.pb 0 6 0)),(5,.c (.pb 1 6 0))],[.box (.agg [.nil,.nil,.int .i64,.nil,.nil,.int .i64]),.box (.agg [.own 2,.own 3,.int .i64,.own 4,.own 5,.int .i64]),.rows true .ev,.rows true .poly,.rows true .mono,.rows true .mono]⟩ (.cond .u .u))))))))))))) .u))))))) Ke Tryz.f16 [(22,⟨_,kR⟩),(67,⟨_,bB⟩),(24,⟨_,gH⟩),(68,⟨_,yh⟩),(69,⟨_,gI⟩),(70,⟨_,yj⟩)] (PU A kR.pre kR.fn bB.pre bB.fn gH.pre gH.fn yh.pre yh.fn gI.pre gI.fn yj.pre yj.fn):=fun _=>by kernel_rfl
theorem aoE (A:Alg) (bQ:Ct A.ah jJ): @Ru aJ.z X E A [] .u Kg Tryz.f20 [(78,⟨_,bQ⟩)] (PY A bQ.pre bQ.fn):=fun _=>by kernel_rfl
theorem alb (A:Alg) (aD:Ct A.ah cu) (dW:Ct A.ah mX): @Ru aJ.z X E A [(9,[(0,([5],[])),(1,([33],[])),(2,([6],[])),(3,([5],[])),(4,([36],[])),(5,([6],[])),(6,([37,38],[])),(7,([39],[])),(8,([40],[])),(9,([41],[])),(10,([34,35],[])),(11,([43],[])),(12,([42,44],[]))]),(11,[(0,([5],[])),(1,([47],[])),(2,([6],[])),(3,([0],[])),(4,([6],[])),(5,([51],[])),(6,([50,52],[1])),(7,([48,49],[])),(8,([54],[])),(9,([53,55],[]))]),(13,[(0,([5],[])),(1,([58],[])),(2,([6],[])),(3,([0],[])),(4,([6],[])),(5,([62],[])),(6,([61,63],[1])),(7,([59,60],[])),(8,([65],[])),(9,([64,66],[]))]),(15,[(0,([5],[])),(1,([69],[])),(2,([6],[])),(3,([0],[])),(4,([5],[])),(5,([73],[])),(6,([74],[])),(7,([72,75],[1])),(8,([70,71],[])),(9,([77],[])),(10,([76,78],[]))]),(23,[(0,([5],[])),(1,([99],[])),(2,([6],[])),(3,([5],[])),(4,([102],[])),(5,([6],[])),(6,([104],[])),(7,([103,105],[])),(8,([106],[])),(9,([100,101],[])),(10,([107,108],[]))]),(26,[(0,([5],[])),(1,([117],[])),(2,([6],[])),(3,([0],[])),(4,([120],[1])),(5,([121],[])),(6,([118,119],[])),(7,([122,123],[]))])] (.seq .u (.seq .u (.seq .u (.seq .u (.seq (.seq .u (.block (.seq .u (.cut ⟨[(4,.c (.pb 1 7 0)),(5,.c (.pb 2 7 0))],[.box (.agg [.rows true .u8,.int .i64]),.box (.agg [.int .i64,.int .i64,.nil,.int .i64,.int .i64,.int .i64,.int .i64]),.box (.agg [.int .i64,.int .i64,.own 3,.int .i64,.int .i64,.int .i64,.int .i64]),.rows true .iop]⟩ (.cond .u (.seq .u (.cut ⟨[(4,.c (.pb 1 7 0)),(5,.c (.pb 2 7 0))],[.box (.agg [.rows true .u8,.int .i64]),.box (.agg [.int .i64,.int .i64,.nil,.int .i64,.int .i64,.int .i64,.int .i64]),.box (.agg [.int .i64,.int .i64,.own 3,.int .i64,.int .i64,.int .i64,.int .i64]),.rows true .iop]⟩ (.cond .u (.seq .u (.cut ⟨[(4,.c (.pb 1 7 0)),(5,.c (.pb 2 7 0))],[.box (.agg [.rows true .u8,.int .i64]),.box (.agg [.int .i64,.int .i64,.nil,.int .i64,.int .i64,.int .i64,.int .i64]),.box (.agg [.int .i64,.int .i64,.own 3,.int .i64,.int .i64,.int .i64,.int .i64]),.rows true .iop]⟩ (.cond .u (.seq .u (.cut ⟨[(4,.c (.pb 1 7 0)),(5,.c (.pb 2 7 0))],[.box (.agg [.rows true .u8,.int .i64]),.box (.agg [.int .i64,.int .i64,.nil,.int .i64,.int .i64,.int .i64,.int .i64]),.box (.agg [.int .i64,.int .i64,.own 3,.int .i64,.int .i64,.int .i64,.int .i64]),.rows true .iop]⟩ (.cond .u (.seq .u (.cut ⟨[(4,.c (.pb 1 7 0)),(5,.c (.pb 2 7 0))],[.box (.agg [.rows true .u8,.int .i64]),.box (.agg [.int .i64,.int .i64,.nil,.int .i64,.int .i64,.int .i64,.int .i64]),.box (.agg [.int .i64,.int .i64,.own 3,.int .i64,.int .i64,.int .i64,.int .i64]),.rows true .iop]⟩ (.cond .u (.seq .u (.cut ⟨[(4,.c (.pb 1 7 0)),(5,.c (.pb 2 7 0))],[.box (.agg [.rows true .u8,.int .i64]),.box (.agg [.int .i64,.int .i64,.nil,.int .i64,.int .i64,.int .i64,.int .i64]),.box (.agg [.int .i64,.int .i64,.own 3,.int .i64,.int .i64,.int .i64,.int .i64]),.rows true .iop]⟩ (.cond .u (.seq .u (.cut ⟨[(4,.c (.pb 1 7 0)),(5,.c (.pb 2 7 0))],[.box (.agg [.rows true .u8,.int .i64]),.box (.agg [.int .i64,.int .i64,.nil,.int .i64,.int .i64,.int .i64,.int .i64]),.box (.agg [.int .i64,.int .i64,.own 3,.int .i64,.int .i64,.int .i64,.int .i64]),.rows true .iop]⟩ (.cond (.seq .u (.cut ⟨[(4,.c (.pb 1 7 0)),(5,.c (.pb 2 7 0))],[.box (.agg [.rows true .u8,.int .i64]),.box (.agg [.int .i64,.int .i64,.nil,.int .i64,.int .i64,.int .i64,.int .i64]),.box (.agg [.int .i64,.int .i64,.own 3,.int .i64,.int .i64,.int .i64,.int .i64]),.rows true .iop]⟩ (.cond .u .u))) (.seq .u (.cut ⟨[(4,.c (.pb 1 7 0)),(5,.c (.pb 2 7 0))],[.box (.agg [.rows true .u8,.int .i64]),.box (.agg [.int .i64,.int .i64,.nil,.int .i64,.int .i64,.int .i64,.int .i64]),.box (.agg [.int .i64,.int .i64,.own 3,.int .i64,.int .i64,.int .i64,.int .i64]),.rows true .iop]⟩ (.cond .u .u)))))))))))))))))))))))))) .u))))) Cx Tryz.f151 [(61,⟨_,aD⟩),(113,⟨_,dW⟩)] (Da A aD.pre aD.fn dW.pre dW.fn):=fun _=>by kernel_rfl
theorem alc (A:Alg) (iV:Ct A.ah um) (aD:Ct A.ah cu) (qK:Ct A.ah Cx) (qL:Ct A.ah Cn): @Ru aJ.z X E A [(15,[(0,([5],[])),(1,([54],[])),(2,([],[])),(3,([0],[])),(7,([5],[])),(8,([61],[])),(9,([62],[])),(4,([57],[1,8])),(5,([56,58],[])),(6,([59],[])),(10,([60,63],[])),(11,([64],[])),(12,([55,65],[])),(13,([5],[])),(14,([66,67],[]))])] (.seq .u (.seq .u (.seq (.seq .u (.cut ⟨[(4,.c (.pb 1 7 0)),(5,.c (.pb 2 7 0))],[.box (.agg [.rows true .u8,.int .i64]),.box (.agg [.int .i64,.int .i64,.nil,.int .i64,.int .i64,.int .i64,.int .i64]),.box (.agg [.int .i64,.int .i64,.own 3,.int .i64,.int .i64,.int .i64,.int .i64]),.rows true .iop]⟩ (.cond (.seq .u (.block (.seq .u (.cut ⟨[(4,.c (.pb 1 7 0)),(5,.c (.pb 2 7 0))],[.box (.agg [.rows true .u8,.int .i64]),.box (.agg [.int .i64,.int .i64,.nil,.int .i64,.int .i64,.int .i64,.int .i64]),.box (.agg [.int .i64,.int .i64,.own 3,.int .i64,.int .i64,.int .i64,.int .i64]),.rows true .iop]⟩ (.cond .u (.seq .u (.cut ⟨[(4,.c (.pb 1 7 0)),(5,.c (.pb 2 7 0))],[.box (.agg [.rows true .u8,.int .i64]),.box (.agg [.int .i64,.int .i64,.nil,.int .i64,.int .i64,.int .i64,.int .i64]),.box (.agg [.int .i64,.int .i64,.own 3,.int .i64,.int .i64,.int .i64,.int .i64]),.rows true .iop]⟩ (.cond .u (.seq .u (.cut ⟨[(4,.c (.pb 1 7 0)),(5,.c (.pb 2 7 0))],[.box (.agg [.rows true .u8,.int .i64]),.box (.agg [.int .i64,.int .i64,.nil,.int .i64,.int .i64,.int .i64,.int .i64]),.box (.agg [.int .i64,.int .i64,.own 3,.int .i64,.int .i64,.int .i64,.int .i64]),.rows true .iop]⟩ (.cond (.block (.loop ⟨[(4,.c (.pb 1 7 0)),(5,.c (.pb 2 7 0))],[.box (.agg [.rows true .u8,.int .i64]),.box (.agg [.int .i64,.int .i64,.nil,.int .i64,.int .i64,.int .i64,.int .i64]),.box (.agg [.int .i64,.int .i64,.own 3,.int .i64,.int .i64,.int .i64,.int .i64]),.rows true .iop]⟩ .u)) (.seq .u (.cut ⟨[(4,.c (.pb 1 7 0)),(5,.c (.pb 2 7 0))],[.box (.agg [.rows true .u8,.int .i64]),.box (.agg [.int .i64,.int .i64,.nil,.int .i64,.int .i64,.int .i64,.int .i64]),.box (.agg [.int .i64,.int .i64,.own 3,.int .i64,.int .i64,.int .i64,.int .i64]),.rows true .iop]⟩ (.cond .u .u)))))))))))))) .u))) .u))) Cy Tryz.f98 [(158,⟨_,iV⟩),(61,⟨_,aD⟩),(151,⟨_,qK⟩),(66,⟨_,qL⟩)] (IJ A iV.pre iV.fn aD.pre aD.fn qK.pre qK.fn qL.pre qL.fn):=fun _=>by kernel_rfl
end Go.TX.Seat
namespace Go.TX.Seat
open Go Go.AE Go.TX Go.TX.F Go.Proofs
set_option maxRecDepth 100000
theorem aoF (A:Alg) (aF:Ct A.ah dB): @Ru aJ.z X E A [] .u Ag Tryz.f164 [(121,⟨_,aF⟩)] (PZ A aF.pre aF.fn):=fun _=>by kernel_rfl
theorem aoG (A:Alg) (aF:Ct A.ah dB): @Ru aJ.z X E A [] .u Ah Tryz.f165 [(121,⟨_,aF⟩)] (P5 A aF.pre aF.fn):=fun _=>by kernel_rfl
theorem aoH (A:Alg) (aF:Ct A.ah dB) (kS:Ct A.ah Ag) (kP:Ct A.ah Ad) (bB:Ct A.ah jl) (kU:Ct A.ah Ah): @Ru aJ.z X E A [] .u Ai Tryz.f108 [(121,⟨_,aF⟩),(164,⟨_,kS⟩),(142,⟨_,kP⟩),(67,⟨_,bB⟩),(165,⟨_,kU⟩)] (P6 A aF.pre aF.fn kS.pre kS.fn kP.pre kP.fn bB.pre bB.fn kU.pre kU.fn):=fun _=>by kernel_rfl
theorem aoI (A:Alg) (gI:Ct A.ah vM): @Ru aJ.z X E A [] .u Kh Tryz.f168 [(69,⟨_,gI⟩)] (P7 A gI.pre gI.fn):=fun _=>by kernel_rfl
theorem aoJ (A:Alg) (yu:Ct A.ah Kh): @Ru aJ.z X E A [] .u Ki Tryz.f167 [(168,⟨_,yu⟩)] (P8 A yu.pre yu.fn):=fun _=>by kernel_rfl
theorem ald (A:Alg) (yw:Ct A.ah Ki): @Ru aJ.z X E A [] (.seq .u (.seq (.seq .u (.block (.loop ⟨[(0,.c (.rows false .atom)),(1,.c (.fn 167 [(0,4)])),(7,.c (.int .i64)),(8,.c (.int .i64))],[.box (.sv false .atom)]⟩ .u))) .u)) Cz Tryz.f166 [(167,⟨_,yw⟩)] (IK A yw.pre yw.fn):=fun _=>by kernel_rfl
theorem aoK (A:Alg) (qM:Ct A.ah Cz): @Ru aJ.z X E A [] .u Aj Tryz.f109 [(166,⟨_,qM⟩)] (P9 A qM.pre qM.fn):=fun _=>by kernel_rfl
theorem aoL (A:Alg) (kV:Ct A.ah Ai) (kW:Ct A.ah Aj): @Ru aJ.z X E A [] (.seq .u (.seq (.seq .u (.block (.loop ⟨[(1,.c (.pb 0 1 0)),(6,.c (.rows false .atom)),(7,.c (.int .i64)),(8,.c (.int .i64))],[.box (.sv false .tab)]⟩ .u))) .u)) Ak Tryz.f38 [(108,⟨_,kV⟩),(109,⟨_,kW⟩)] (Qa A kV.pre kV.fn kW.pre kW.fn):=fun _=>by kernel_rfl
theorem aoM (A:Alg) (aF:Ct A.ah dB): @Ru aJ.z X E A [] .u Al Tryz.f100 [(121,⟨_,aF⟩)] (Qb A aF.pre aF.fn):=fun _=>by kernel_rfl
theorem aoN (A:Alg) (aF:Ct A.ah dB): @Ru aJ.z X E A [] .u Kj Tryz.f199 [(121,⟨_,aF⟩)] (Qc A aF.pre aF.fn):=fun _=>by kernel_rfl
theorem aoO (A:Alg) (yx:Ct A.ah Kj) (aF:Ct A.ah dB): @Ru aJ.z X E A [] .u Am Tryz.f172 [(199,⟨_,yx⟩),(121,⟨_,aF⟩)] (Qd A yx.pre yx.fn aF.pre aF.fn):=fun _=>by kernel_rfl
theorem aoP (A:Alg) (kX:Ct A.ah Am) (kY:Ct A.ah Al) (bQ:Ct A.ah jJ) (aF:Ct A.ah dB) (kS:Ct A.ah Ag) (kU:Ct A.ah Ah): @Ru ⟨[],[27,40]⟩ X E A [(5,[(0,([],[])),(1,([5],[])),(2,([28],[])),(5,([5],[])),(6,([31],[])),(9,([5],[])),(10,([34],[])),(13,([5],[])),(14,([37],[])),(18,([5],[])),(19,([41],[])),(3,([29],[6,10,14,19])),(4,([27,30],[])),(7,([32],[10,14,19])),(8,([27,33],[])),(11,([35],[14,19])),(12,([27,36],[])),(15,([38],[19])),(16,([27,39],[])),(17,([27],[])),(20,([30,33,36,39,40,42],[])),(21,([43],[]))])] .u Kk Tryz.f122 [(172,⟨_,kX⟩),(100,⟨_,kY⟩),(78,⟨_,bQ⟩),(121,⟨_,aF⟩),(164,⟨_,kS⟩),(165,⟨_,kU⟩)] (Qe A kX.pre kX.fn kY.pre kY.fn bQ.pre bQ.fn aF.pre aF.fn kS.pre kS.fn kU.pre kU.fn):=fun _=>by kernel_rfl
theorem aoQ (A:Alg): @Ru aJ.z X E A [(1,[(0,([1],[])),(1,([5],[])),(2,([6],[])),(3,([1],[])),(4,([8],[])),(5,([9],[])),(6,([1],[])),(7,([11],[])),(8,([12],[])),(9,([7],[])),(10,([10],[])),(11,([13],[]))])] .u Ao Tryz.f106 [] (Qh A):=fun _=>by kernel_rfl
theorem aoR (A:Alg) (kZ:Ct A.ah Ao) (kX:Ct A.ah Am) (bQ:Ct A.ah jJ) (aF:Ct A.ah dB): @Ru aJ.z X E A [] .u Kl Tryz.f123 [(106,⟨_,kZ⟩),(172,⟨_,kX⟩),(78,⟨_,bQ⟩),(121,⟨_,aF⟩)] (Qi A kZ.pre kZ.fn kX.pre kX.fn bQ.pre bQ.fn aF.pre aF.fn):=fun _=>by kernel_rfl
theorem aoS (A:Alg) (yA:Ct A.ah Kl) (yB:Ct A.ah Kk) (aF:Ct A.ah dB): @Ru aJ.z X E A [] (.seq .u (.seq .u (.seq (.seq .u (.block (.loop ⟨[(1,.c (.pb 0 7 0)),(25,.c (.int .i64)),(26,.c (.int .i64))],[.box (.sv false .blk)]⟩ .u))) .u))) Km Tryz.f51 [(123,⟨_,yA⟩),(122,⟨_,yB⟩),(121,⟨_,aF⟩)] (Qj A yA.pre yA.fn yB.pre yB.fn aF.pre aF.fn):=fun _=>by kernel_rfl
theorem aoT (A:Alg): @Ru aJ.z X E A [] .u Kn Tryz.f198 [] (Qk A):=fun _=>by kernel_rfl
theorem aoU (A:Alg) (kV:Ct A.ah Ai) (kW:Ct A.ah Aj) (yC:Ct A.ah Kn): @Ru aJ.z X E A [(6,[(0,([2],[])),(1,([28],[])),(3,([3],[])),(4,([31],[])),(2,([29],[3])),(5,([30,32],[])),(6,([33],[])),(7,([],[])),(8,([7,34],[]))]),(7,[(0,([7],[])),(1,([2],[])),(2,([36],[])),(3,([37],[])),(4,([4,35],[2])),(5,([38],[]))])] .u Ap Tryz.f162 [(108,⟨_,kV⟩),(109,⟨_,kW⟩),(198,⟨_,yC⟩)] (Ql A kV.pre kV.fn kW.pre kW.fn yC.pre yC.fn):=fun _=>by kernel_rfl
theorem aoV (A:Alg) (aF:Ct A.ah dB): @Ru aJ.z X E A [] .u Aq Tryz.f163 [(121,⟨_,aF⟩)] (Qm A aF.pre aF.fn):=fun _=>by kernel_rfl
theorem aoW (A:Alg) (lg:Ct A.ah Aq) (lu:Ct A.ah Ap): @Ru aJ.z X E A [] .u Ar Tryz.f105 [(163,⟨_,lg⟩),(162,⟨_,lu⟩)] (Qn A lg.pre lg.fn lu.pre lu.fn):=fun _=>by kernel_rfl
theorem aoX (A:Alg) (lC:Ct A.ah Ar): @Ru aJ.z X E A [] (.seq .u (.seq .u (.seq (.seq .u (.block (.loop ⟨[(0,.c (.pb 0 2 0)),(3,.c (.own 1)),(5,.c (.int .i64))],[.box (.agg [.rows true .atom,.bool]),.rows true .poly]⟩ .u))) .u))) Ko Tryz.f99 [(105,⟨_,lC⟩)] (Qo A lC.pre lC.fn):=fun _=>by kernel_rfl
theorem aoY (A:Alg) (aF:Ct A.ah dB): @Ru aJ.z X E A [] .u Kq Tryz.f101 [(121,⟨_,aF⟩)] (Qp A aF.pre aF.fn):=fun _=>by kernel_rfl
theorem aoZ (A:Alg): @Ru aJ.z X E A [] .u Kr Tryz.f102 [] (Qq A):=fun _=>by kernel_rfl
theorem ao0 (A:Alg) (aF:Ct A.ah dB): @Ru aJ.z X E A [] .u vN Tryz.f103 [(121,⟨_,aF⟩)] (Qr A aF.pre aF.fn):=fun _=>by kernel_rfl
theorem ao1 (A:Alg): @Ru aJ.z X E A [] .u vO Tryz.f169 [] (Qs A):=fun _=>by kernel_rfl
theorem ao2 (A:Alg) (bQ:Ct A.ah jJ) (gJ:Ct A.ah vO): @Ru aJ.z X E A [] .u Kt Tryz.f112 [(78,⟨_,bQ⟩),(169,⟨_,gJ⟩)] (Qt A bQ.pre bQ.fn gJ.pre gJ.fn):=fun _=>by kernel_rfl
theorem ao3 (A:Alg) (eD:Ct A.ah nZ): @Ru aJ.z X E A [] .u Au Tryz.f224 [(82,⟨_,eD⟩)] (Qu A eD.pre eD.fn):=fun _=>by kernel_rfl
theorem ale (A:Alg) (lD:Ct A.ah Au): @Ru aJ.z X E A [(4,[(0,([9],[])),(1,([1],[])),(2,([18,19],[])),(3,([20],[])),(4,([3,21],[])),(5,([0,21],[])),(6,([9,21],[])),(7,([21,23,24],[])),(8,([21,25],[])),(9,([0,21],[])),(10,([9,21],[])),(11,([21,28],[])),(12,([21,27,29],[])),(13,([21,30],[])),(14,([21,22,26,31],[])),(15,([21,32],[])),(16,([21,33],[]))]),(6,[(0,([0],[])),(1,([9],[])),(2,([0],[])),(3,([9],[])),(4,([40],[])),(5,([0],[])),(6,([9],[])),(7,([43],[])),(8,([42,44],[])),(9,([45],[])),(10,([0],[])),(11,([9],[])),(12,([47,48],[])),(13,([49],[])),(14,([37,38],[])),(15,([46,51],[])),(16,([39,41],[])),(17,([50,52],[]))])] (.seq .u (.block (.loop ⟨[(0,.c (.own 0)),(1,.c (.int .i64)),(2,.c (.int .i64)),(3,.c (.fn 224 [])),(8,.c (.int .i64))],[.rows false .mono]⟩ (.seq .u (.seq (.block (.seq .u (.block (.loop ⟨[(0,.c (.own 0)),(1,.c (.int .i64)),(2,.c (.int .i64)),(3,.c (.fn 224 [])),(8,.c (.int .i64)),(9,.c (.int .i64))],[.rows false .mono]⟩ .u)))) .u))))) CB Tryz.f240 [(224,⟨_,lD⟩)] (IU A lD.pre lD.fn):=fun _=>by kernel_rfl
theorem alf (A:Alg): @Ru aJ.z X E A [(3,[(0,([0],[])),(1,([1],[])),(2,([10],[])),(3,([17,18],[])),(4,([0],[])),(5,([2],[])),(6,([10],[])),(7,([21,22],[])),(8,([0],[])),(9,([2],[])),(10,([10],[])),(11,([25,26],[])),(12,([24,27],[])),(13,([28],[])),(14,([0],[])),(15,([1],[])),(16,([10],[])),(17,([31,32],[])),(18,([30,33],[])),(19,([34],[])),(20,([16,19],[])),(21,([29,36],[])),(22,([20,23],[])),(23,([35,37],[]))])] (.seq .u (.block (.loop ⟨[(0,.c (.own 0)),(1,.c (.int .i64)),(2,.c (.int .i64)),(3,.c (.int .i64)),(10,.c (.int .i64))],[.rows false .mono]⟩ .u))) CF Tryz.f249 [] (IV A):=fun _=>by kernel_rfl
theorem alg (A:Alg) (qN:Ct A.ah CF): @Ru aJ.z X E A [] (.seq .u (.seq .u (.seq (.block (.loop ⟨[(0,.c (.own 0)),(2,.c (.int .i64)),(4,.c (.fn 224 [])),(10,.c (.int .i64)),(11,.c (.int .i64))],[.rows false .mono]⟩ (.seq .u (.block (.seq .u (.cut ⟨[(0,.c (.own 0)),(2,.c (.int .i64)),(4,.c (.fn 224 [])),(10,.c (.int .i64)),(11,.c (.int .i64))],[.rows false .mono]⟩ (.cond .u .u))))))) .u))) CG Tryz.f247 [(249,⟨_,qN⟩)] (IW A qN.pre qN.fn):=fun _=>by kernel_rfl
theorem alh (A:Alg) (lD:Ct A.ah Au) (qO:Ct A.ah CG) (lF:Ct A.ah og): @Ru aJ.z X E A [(5,[(0,([4],[])),(1,([0],[])),(2,([12],[])),(3,([41,42],[])),(4,([43],[])),(5,([0],[])),(6,([1],[])),(7,([45,46],[])),(8,([47],[])),(9,([40,44,48],[])),(10,([49],[]))]),(11,[(0,([0],[])),(1,([13],[])),(2,([0],[])),(3,([13],[])),(4,([64],[])),(5,([0],[])),(6,([13],[])),(7,([67],[])),(8,([66,68],[])),(9,([69],[])),(10,([0],[])),(11,([13],[])),(12,([71,72],[])),(13,([73],[])),(14,([61,62],[])),(15,([70,75],[])),(16,([63,65],[])),(17,([74,76],[]))]),(17,[(0,([4],[])),(1,([0],[])),(2,([2],[])),(3,([93,94],[])),(4,([95],[])),(5,([0],[])),(6,([16],[])),(7,([97,98],[])),(8,([99],[])),(9,([92,96,100],[])),(10,([101],[])),(11,([102],[]))]),(23,[(0,([0],[])),(1,([17],[])),(2,([0],[])),(3,([17],[])),(4,([116],[])),(5,([0],[])),(6,([17],[])),(7,([119],[])),(8,([118,120],[])),(9,([121],[])),(10,([0],[])),(11,([17],[])),(12,([123,124],[])),(13,([125],[])),(14,([113,114],[])),(15,([122,127],[])),(16,([115,117],[])),(17,([126,128],[]))]),(35,[(0,([4],[])),(1,([0],[])),(2,([22],[])),(3,([23],[])),(4,([160,161],[])),(5,([159,162],[])),(6,([163],[])),(7,([0],[])),(8,([23],[])),(9,([165,166],[])),(10,([167],[])),(11,([158,164,168],[])),(12,([169],[])),(13,([170],[]))])] (.seq (.seq .u (.cond (.seq .u (.seq .u (.seq (.block (.loop ⟨[(0,.c (.own 0)),(1,.c (.int .i64)),(4,.c (.fn 224 [])),(10,.c (.int .i64)),(11,.c (.int .i64))],[.rows false .mono]⟩ (.seq .u (.block (.seq .u (.seq .u (.cut ⟨[(0,.c (.own 0)),(1,.c (.int .i64)),(4,.c (.fn 224 [])),(10,.c (.int .i64)),(11,.c (.int .i64))],[.rows false .mono]⟩ (.cond .u .u)))))))) (.seq (.seq .u (.block (.loop ⟨[(0,.c (.own 0)),(10,.c (.int .i64)),(13,.c (.int .i64))],[.rows false .mono]⟩ .u))) .u)))) .u)) (.seq (.seq .u (.cond (.seq .u (.seq .u (.seq (.block (.loop ⟨[(0,.c (.own 0)),(2,.c (.int .i64)),(4,.c (.fn 224 [])),(14,.c (.int .i64)),(15,.c (.int .i64))],[.rows false .mono]⟩ (.seq .u (.block (.seq .u (.seq .u (.cut ⟨[(0,.c (.own 0)),(2,.c (.int .i64)),(4,.c (.fn 224 [])),(14,.c (.int .i64)),(15,.c (.int .i64))],[.rows false .mono]⟩ (.cond .u .u)))))))) (.seq (.seq .u (.block (.loop ⟨[(0,.c (.own 0)),(14,.c (.int .i64)),(17,.c (.int .i64))],[.rows false .mono]⟩ .u))) .u)))) .u)) (.seq .u (.seq .u (.seq .u (.seq (.seq .u (.cut ⟨[(0,.c (.own 0)),(1,.c (.int .i64)),(2,.c (.int .i64)),(3,.c (.int .i64)),(4,.c (.fn 224 [])),(18,.c (.int .i64)),(19,.c (.int .i64)),(20,.c (.int .i64)),(21,.c (.int .i64))],[.rows false .mono]⟩ (.cond .u .u))) (.seq .u (.seq (.block (.loop ⟨[(0,.c (.own 0)),(1,.c (.int .i64)),(2,.c (.int .i64)),(3,.c (.int .i64)),(4,.c (.fn 224 [])),(18,.c (.int .i64)),(19,.c (.int .i64)),(20,.c (.int .i64)),(21,.c (.int .i64)),(22,.c (.int .i64))],[.rows false .mono]⟩ (.seq .u (.block (.seq .u (.seq .u (.cut ⟨[(0,.c (.own 0)),(1,.c (.int .i64)),(2,.c (.int .i64)),(3,.c (.int .i64)),(4,.c (.fn 224 [])),(18,.c (.int .i64)),(19,.c (.int .i64)),(20,.c (.int .i64)),(21,.c (.int .i64)),(22,.c (.int .i64))],[.rows false .mono]⟩ (.cond .u .u)))))))) (.seq .u (.seq (.seq .u (.cut ⟨[(0,.c (.own 0)),(1,.c (.int .i64)),(3,.c (.int .i64)),(4,.c (.fn 224 [])),(18,.c (.int .i64)),(20,.c (.int .i64)),(24,.c (.int .i64))],[.rows false .mono]⟩ (.cond .u .u))) (.seq (.seq .u (.cut ⟨[(0,.c (.own 0)),(3,.c (.int .i64)),(4,.c (.fn 224 [])),(18,.c (.int .i64)),(24,.c (.int .i64))],[.rows false .mono]⟩ (.cond .u .u))) (.seq .u (.cut ⟨[],[.rows false .mono]⟩ (.cond .u .u)))))))))))))) og Tryz.f241 [(224,⟨_,lD⟩),(247,⟨_,qO⟩),(241,⟨_,lF⟩)] (IX A lD.pre lD.fn qO.pre qO.fn lF.pre lF.fn):=fun _=>by kernel_rfl
theorem ali (A:Alg) (qP:Ct A.ah CB) (lF:Ct A.ah og): @Ru aJ.z X E A [] (.seq .u (.seq .u (.seq (.block (.loop ⟨[(0,.c (.own 0)),(1,.c (.int .i64)),(2,.c (.fn 224 [])),(6,.c (.int .i64)),(7,.c (.int .i64)),(8,.c (.int .i64))],[.rows false .mono]⟩ .u)) (.seq .u (.block (.loop ⟨[(0,.c (.own 0)),(1,.c (.int .i64)),(2,.c (.fn 224 [])),(6,.c (.int .i64))],[.rows false .mono]⟩ (.seq .u (.block (.seq .u (.seq (.block (.loop ⟨[(0,.c (.own 0)),(1,.c (.int .i64)),(2,.c (.fn 224 [])),(6,.c (.int .i64)),(7,.c (.int .i64)),(8,.c (.int .i64))],[.rows false .mono]⟩ .u)) (.seq (.seq .u (.seq .u (.cut ⟨[(0,.c (.own 0)),(1,.c (.int .i64)),(2,.c (.fn 224 [])),(6,.c (.int .i64))],[.rows false .mono]⟩ (.cond .u .u)))) .u))))))))))) CJ Tryz.f229 [(240,⟨_,qP⟩),(241,⟨_,lF⟩)] (I4 A qP.pre qP.fn lF.pre lF.fn):=fun _=>by kernel_rfl
theorem alj (A:Alg) (qQ:Ct A.ah CJ): @Ru aJ.z X E A [] .u CK Tryz.f223 [(229,⟨_,qQ⟩)] (I5 A qQ.pre qQ.fn):=fun _=>by kernel_rfl
theorem ao4 (A:Alg) (eD:Ct A.ah nZ) (bB:Ct A.ah jl) (gJ:Ct A.ah vO) (kQ:Ct A.ah Af) (qR:Ct A.ah CK): @Ru ⟨[51],[]⟩ X E A [(5,[(0,([0],[])),(1,([5],[])),(2,([14,15],[])),(3,([16],[])),(5,([],[])),(4,([],[])),(6,([7,17],[]))]),(6,[(0,([5],[])),(1,([0],[])),(2,([19],[])),(3,([18,20],[])),(4,([21],[])),(5,([7,22],[])),(6,([22,23],[])),(7,([0,22],[])),(8,([5,22],[])),(9,([22,25,26],[])),(10,([22,27],[])),(11,([22,28],[])),(12,([22,24,29],[])),(13,([22,30],[])),(14,([22,31],[]))]),(10,[(0,([4],[])),(1,([45],[])),(2,([6],[])),(3,([7],[])),(4,([48],[])),(5,([49],[1])),(6,([47,50],[])),(7,([51],[1])),(8,([46,52],[])),(9,([4],[])),(10,([53,54],[]))])] (.seq .u (.seq .u (.seq .u (.seq (.seq .u (.block (.loop ⟨[(0,.c (.own 0)),(2,.c (.pb 1 1 0)),(4,.c (.pb 2 1 0)),(5,.c (.int .i64))],[.rows false .mono,.box (.agg [.nil]),.box (.agg [.own 3]),.rows true .mono]⟩ (.seq .u (.block (.seq .u (.seq (.block (.loop ⟨[(0,.c (.own 0)),(2,.c (.pb 1 1 0)),(4,.c (.pb 2 1 0)),(5,.c (.int .i64)),(6,.c (.int .i64)),(7,.c (.pb 3 2 0))],[.rows false .mono,.box (.agg [.nil]),.box (.agg [.own 4]),.box (.sv false .mono),.rows true .mono]⟩ .u)) (.seq .u (.cut ⟨[(0,.c (.own 0)),(2,.c (.pb 1 1 0)),(4,.c (.pb 2 1 0)),(5,.c (.int .i64))],[.rows false .mono,.box (.agg [.nil]),.box (.agg [.own 3]),.rows true .mono]⟩ (.cond .u .u)))))))))) .u)))) Av Tryz.f217 [(82,⟨_,eD⟩),(67,⟨_,bB⟩),(169,⟨_,gJ⟩),(189,⟨_,kQ⟩),(223,⟨_,qR⟩)] (Qx A eD.pre eD.fn bB.pre bB.fn gJ.pre gJ.fn kQ.pre kQ.fn qR.pre qR.fn):=fun _=>by kernel_rfl
theorem alk (A:Alg): @Ru aJ.z X E A [] (.seq .u (.seq .u (.seq (.seq .u (.seq .u (.cut ⟨[(0,.c (.own 0))],[.rows true .mono]⟩ (.cond .u .u)))) .u))) CO Tryz.f225 [] (I6 A):=fun _=>by kernel_rfl
theorem ao5 (A:Alg) (qU:Ct A.ah CO): @Ru aJ.z X E A [] (.seq .u (.seq .u (.seq (.seq .u (.block (.loop ⟨[(0,.c (.rows false .poly)),(3,.c (.int .i64)),(9,.c (.rows false .poly)),(10,.c (.int .i64)),(11,.c (.int .i64))],[]⟩ .u))) (.seq .u (.seq (.seq .u (.block (.loop ⟨[(6,.c (.own 0)),(25,.c (.rows false .poly)),(26,.c (.int .i64)),(27,.c (.int .i64))],[.rows false .mono]⟩ .u))) .u))))) Ku Tryz.f218 [(225,⟨_,qU⟩)] (Qy A qU.pre qU.fn):=fun _=>by kernel_rfl
theorem ao6 (A:Alg) (bB:Ct A.ah jl) (lG:Ct A.ah Av) (yD:Ct A.ah Ku): @Ru aJ.z X E A [] .u Kv Tryz.f195 [(67,⟨_,bB⟩),(217,⟨_,lG⟩),(218,⟨_,yD⟩)] (Qz A bB.pre bB.fn lG.pre lG.fn yD.pre yD.fn):=fun _=>by kernel_rfl
theorem alm (A:Alg): @Ru aJ.z X E A [] (.seq .u (.seq .u (.seq (.seq .u (.seq .u (.cut ⟨[(0,.c (.own 0))],[.rows true .i64]⟩ (.cond .u .u)))) .u))) CP Tryz.f226 [] (I7 A):=fun _=>by kernel_rfl
theorem ao7 (A:Alg) (qV:Ct A.ah CP): @Ru aJ.z X E A [] (.seq .u (.seq .u (.seq (.seq .u (.block (.loop ⟨[(0,.c (.rows false .ints)),(3,.c (.int .i64)),(9,.c (.rows false .ints)),(10,.c (.int .i64)),(11,.c (.int .i64))],[]⟩ .u))) (.seq .u (.seq (.seq .u (.block (.loop ⟨[(6,.c (.own 0)),(25,.c (.rows false .ints)),(26,.c (.int .i64)),(27,.c (.int .i64))],[.rows true .i64]⟩ .u))) .u))))) Kw Tryz.f219 [(226,⟨_,qV⟩)] (QA A qV.pre qV.fn):=fun _=>by kernel_rfl
theorem aln (A:Alg) (lT:Ct A.ah Eh): @Ru aJ.z X E A [(4,[(0,([7],[])),(1,([1],[])),(2,([16,17],[])),(3,([18],[])),(4,([0,19],[])),(5,([7,19],[])),(6,([19,20,21],[])),(7,([19,22],[])),(8,([0,19],[])),(9,([7,19],[])),(10,([19,25],[])),(11,([19,24,26],[])),(12,([19,27],[])),(13,([19,23,28],[])),(14,([19,29],[]))]),(6,[(0,([0],[])),(1,([7],[])),(2,([0],[])),(3,([7],[])),(4,([36],[])),(5,([0],[])),(6,([7],[])),(7,([39],[])),(8,([38,40],[])),(9,([41],[])),(10,([0],[])),(11,([7],[])),(12,([43,44],[])),(13,([45],[])),(14,([33,34],[])),(15,([42,47],[])),(16,([35,37],[])),(17,([46,48],[]))])] (.seq .u (.block (.loop ⟨[(0,.c (.own 0)),(1,.c (.int .i64)),(2,.c (.int .i64)),(6,.c (.int .i64))],[.rows true .i64]⟩ (.seq .u (.seq (.block (.seq .u (.block (.loop ⟨[(0,.c (.own 0)),(1,.c (.int .i64)),(2,.c (.int .i64)),(6,.c (.int .i64)),(7,.c (.int .i64))],[.rows true .i64]⟩ .u)))) .u))))) CQ Tryz.f230 [(185,⟨_,lT⟩)] (I8 A lT.pre lT.fn):=fun _=>by kernel_rfl
theorem alo (A:Alg) (lT:Ct A.ah Eh) (qW:Ct A.ah CQ) (qX:Ct A.ah FV) (qY:Ct A.ah FW) (qZ:Ct A.ah FX) (q8:Ct A.ah FY) (q9:Ct A.ah FZ) (ru:Ct A.ah F3) (rz:Ct A.ah F4) (lH:Ct A.ah oh): @Ru aJ.z X E A [(17,[(0,([1],[])),(1,([73],[])),(2,([74],[])),(3,([0,75],[])),(4,([1,75],[])),(5,([75,77],[])),(6,([75,76,78],[])),(7,([75,79],[])),(8,([0,75],[])),(9,([11,75],[])),(10,([75,81,82],[])),(11,([75,83],[])),(12,([75,80,84],[])),(13,([75,85],[])),(14,([75,86],[]))])] (.seq .u (.seq .u (.block (.loop ⟨[(0,.c (.own 0)),(1,.c (.int .i64)),(2,.c (.int .i64)),(3,.c (.int .i64)),(8,.c (.bool)),(9,.c (.bool))],[.rows true .i64]⟩ (.cut ⟨[(0,.c (.own 0)),(1,.c (.int .i64)),(2,.c (.int .i64)),(3,.c (.int .i64)),(8,.c (.bool)),(9,.c (.bool))],[.rows true .i64]⟩ (.block (.seq .u (.seq .u (.seq .u (.seq (.seq .u (.cut ⟨[(0,.c (.own 0)),(1,.c (.int .i64)),(2,.c (.int .i64)),(3,.c (.int .i64)),(8,.c (.bool)),(9,.c (.bool)),(10,.c (.int .i64))],[.rows true .i64]⟩ (.cond .u .u))) (.seq .u (.seq (.seq .u (.cut ⟨[(0,.c (.own 0)),(1,.c (.int .i64)),(2,.c (.int .i64)),(3,.c (.int .i64)),(8,.c (.bool)),(9,.c (.bool)),(10,.c (.int .i64)),(11,.c (.int .i64)),(12,.c (.int .i64))],[.rows true .i64]⟩ (.cond .u .u))) (.seq (.seq .u (.cut ⟨[(0,.c (.own 0)),(1,.c (.int .i64)),(2,.c (.int .i64)),(3,.c (.int .i64)),(8,.c (.bool)),(9,.c (.bool)),(10,.c (.int .i64)),(11,.c (.int .i64))],[.rows true .i64]⟩ (.cond .u .u))) (.seq .u (.seq .u (.seq .u (.seq .u (.seq .u (.seq .u (.cut ⟨[(0,.c (.own 0)),(1,.c (.int .i64)),(2,.c (.int .i64)),(3,.c (.int .i64)),(8,.c (.bool)),(9,.c (.bool))],[.rows true .i64]⟩ (.cond .u .u))))))))))))))))))))) oh Tryz.f227 [(185,⟨_,lT⟩),(230,⟨_,qW⟩),(231,⟨_,qX⟩),(232,⟨_,qY⟩),(233,⟨_,qZ⟩),(234,⟨_,q8⟩),(235,⟨_,q9⟩),(236,⟨_,ru⟩),(237,⟨_,rz⟩),(227,⟨_,lH⟩)] (I9 A lT.pre lT.fn qW.pre qW.fn qX.pre qX.fn qY.pre qY.fn qZ.pre qZ.fn q8.pre q8.fn q9.pre q9.fn ru.pre ru.fn rz.pre rz.fn lH.pre lH.fn):=fun _=>by kernel_rfl
theorem alp (A:Alg) (lH:Ct A.ah oh) (wP:Ct A.ah Vt): @Ru aJ.z X E A [] .u CS Tryz.f220 [(227,⟨_,lH⟩),(228,⟨_,wP⟩)] (Ja A lH.pre lH.fn wP.pre wP.fn):=fun _=>by kernel_rfl
theorem ao8 (A:Alg) (bB:Ct A.ah jl) (gJ:Ct A.ah vO) (lG:Ct A.ah Av) (yE:Ct A.ah Kw) (rA:Ct A.ah CS): @Ru aJ.z X E A [] (.seq .u (.seq .u (.seq .u (.seq (.seq .u (.block (.loop ⟨[(3,.c (.pb 0 1 0)),(4,.c (.pb 1 1 0)),(6,.c (.own 2)),(22,.c (.rows false .mono)),(23,.c (.int .i64)),(24,.c (.int .i64))],[.box (.sv false .poly),.box (.agg [.nil]),.rows true .mono]⟩ (.seq .u (.seq .u (.seq (.block (.seq .u (.seq .u (.block (.loop ⟨[(3,.c (.pb 0 1 0)),(4,.c (.pb 1 1 0)),(6,.c (.own 2)),(8,.c (.pb 3 2 0)),(22,.c (.rows false .mono)),(23,.c (.int .i64)),(24,.c (.int .i64)),(29,.c (.rows false .mono)),(30,.c (.int .i64)),(31,.c (.int .i64))],[.box (.sv false .poly),.box (.agg [.nil]),.rows true .mono,.box (.sv false .mono)]⟩ .u))))) .u)))))) .u)))) Aw Tryz.f197 [(67,⟨_,bB⟩),(169,⟨_,gJ⟩),(217,⟨_,lG⟩),(219,⟨_,yE⟩),(220,⟨_,rA⟩)] (QB A bB.pre bB.fn gJ.pre gJ.fn lG.pre lG.fn yE.pre yE.fn rA.pre rA.fn):=fun _=>by kernel_rfl
theorem ao9 (A:Alg) (bB:Ct A.ah jl) (gK:Ct A.ah vN) (bQ:Ct A.ah jJ) (lI:Ct A.ah Aw): @Ru aJ.z X E A [(3,[(0,([2],[])),(1,([1],[])),(2,([18],[0])),(3,([17,19],[])),(4,([20],[])),(5,([16],[])),(6,([16],[])),(7,([],[])),(8,([5,21],[])),(9,([22],[]))])] .u Ky Tryz.f196 [(67,⟨_,bB⟩),(103,⟨_,gK⟩),(78,⟨_,bQ⟩),(197,⟨_,lI⟩)] (QC A bB.pre bB.fn gK.pre gK.fn bQ.pre bQ.fn lI.pre lI.fn):=fun _=>by kernel_rfl
theorem apa (A:Alg) (gI:Ct A.ah vM) (gK:Ct A.ah vN) (yF:Ct A.ah Kt) (yG:Ct A.ah Kv) (lI:Ct A.ah Aw) (yH:Ct A.ah Ky) (kR:Ct A.ah Ae): @Ru aJ.z X E A [(5,[(0,([4],[])),(1,([5],[])),(2,([23],[0])),(3,([22,24],[])),(4,([25],[])),(5,([25],[])),(6,([6,26],[])),(7,([27],[]))])] (.seq .u (.seq .u (.seq .u (.seq .u (.seq .u (.seq (.seq .u (.cut ⟨[(0,.c (.int .i64)),(4,.c (.pb 0 1 0)),(6,.c (.pb 1 1 0)),(10,.c (.int .i64)),(11,.c (.bool))],[.box (.sv true .poly),.box (.agg [.nil])]⟩ (.cond .u .u))) .u)))))) Kz Tryz.f161 [(69,⟨_,gI⟩),(103,⟨_,gK⟩),(112,⟨_,yF⟩),(195,⟨_,yG⟩),(197,⟨_,lI⟩),(196,⟨_,yH⟩),(22,⟨_,kR⟩)] (QF A gI.pre gI.fn gK.pre gK.fn yF.pre yF.fn yG.pre yG.fn lI.pre lI.fn yH.pre yH.fn kR.pre kR.fn):=fun _=>by kernel_rfl
theorem apb (A:Alg) (gH:Ct A.ah vK) (yI:Ct A.ah Kz) (lu:Ct A.ah Ap) (lg:Ct A.ah Aq): @Ru aJ.z X E A [(3,[(0,([4],[])),(1,([11],[])),(2,([8,23],[1])),(3,([9,24],[])),(4,([],[]))]),(9,[(0,([13],[])),(1,([14],[])),(2,([49],[0])),(3,([8,48],[])),(4,([9,50],[])),(5,([],[]))])] (.seq .u (.seq .u (.seq (.seq .u (.cut ⟨[(1,.c (.int .i64)),(4,.c (.pb 0 1 0)),(6,.c (.pb 1 1 0)),(7,.c (.pb 2 1 0)),(8,.c (.pb 3 1 0)),(9,.c (.pb 4 1 0))],[.box (.sv true .tab),.box (.sv true .poly),.box (.sv true .poly),.box (.agg [.nil]),.box (.agg [.nil])]⟩ (.cond .u .u))) .u))) KA Tryz.f104 [(24,⟨_,gH⟩),(161,⟨_,yI⟩),(162,⟨_,lu⟩),(163,⟨_,lg⟩)] (QG A gH.pre gH.fn yI.pre yI.fn lu.pre lu.fn lg.pre lg.fn):=fun _=>by kernel_rfl
theorem apc (A:Alg) (gG:Ct A.ah vL): @Ru ⟨[25],[]⟩ X E A [(5,[(0,([3],[])),(1,([13],[])),(2,([5],[])),(3,([15],[])),(4,([5],[])),(5,([17],[])),(6,([5],[])),(7,([19],[])),(9,([5],[])),(10,([22],[])),(8,([20],[1,3,5,10])),(11,([23],[1,3,5])),(12,([16,18,21,24],[])),(13,([25],[1])),(14,([14,26],[])),(15,([3],[])),(16,([27,28],[]))])] (.seq .u (.seq .u (.seq (.seq .u (.block (.loop ⟨[(2,.c (.pb 0 1 0)),(3,.c (.pb 1 1 0)),(7,.c (.rows false .atom)),(8,.c (.int .i64)),(9,.c (.int .i64))],[.box (.agg [.nil]),.box (.agg [.own 2]),.rows true .atom]⟩ .u))) .u))) KC Tryz.f107 [(146,⟨_,gG⟩)] (QH A gG.pre gG.fn):=fun _=>by kernel_rfl
theorem apd (A:Alg) (kZ:Ct A.ah Ao) (yJ:Ct A.ah Km) (yK:Ct A.ah Kq) (kY:Ct A.ah Al) (gK:Ct A.ah vN) (yL:Ct A.ah Ke) (lJ:Ct A.ah Ak) (yM:Ct A.ah KC) (yN:Ct A.ah KA) (lC:Ct A.ah Ar) (yO:Ct A.ah Ko) (yP:Ct A.ah Kr): @Ru aJ.z X E A [(4,[(0,([6],[])),(2,([3],[])),(3,([47],[])),(4,([3],[])),(5,([49],[])),(1,([45],[3,5])),(6,([46,48,50],[])),(7,([],[])),(8,([7,51],[]))]),(27,[(0,([6],[])),(1,([134],[])),(2,([135],[])),(3,([136],[])),(4,([12],[])),(5,([138],[])),(6,([17],[])),(7,([18],[])),(8,([137,139,140,141],[])),(9,([142],[])),(10,([133],[])),(11,([133],[])),(12,([133],[])),(13,([],[])),(14,([],[])),(15,([20,143],[])),(16,([21,144],[])),(17,([145],[]))]),(30,[(0,([6],[])),(1,([8],[])),(2,([11],[])),(3,([20],[])),(4,([21],[])),(5,([150],[])),(6,([155],[])),(7,([153,156],[4])),(8,([151,152],[])),(9,([154,157],[]))]),(47,[(0,([6],[])),(1,([213],[])),(2,([214],[])),(3,([215],[])),(5,([7],[])),(6,([3],[])),(7,([219],[])),(8,([3],[])),(9,([221],[])),(10,([220,222],[])),(4,([216],[5,7,9])),(11,([218,223],[])),(12,([4,217],[])),(13,([5,224],[]))])] (.seq .u (.seq .u (.seq .u (.seq .u (.seq .u (.seq .u (.seq (.seq .u (.block (.loop ⟨[(3,.c (.pb 0 7 0)),(4,.c (.pb 1 1 0)),(5,.c (.pb 2 6 0)),(6,.c (.pb 3 2 0)),(7,.c (.pb 4 6 0)),(8,.c (.own 5)),(9,.c (.int .i64)),(10,.c (.int .i64)),(57,.c (.rows false .iop)),(58,.c (.int .i64)),(59,.c (.int .i64))],[.box (.sv false .blk),.box (.agg [.nil]),.box (.agg [.nil,.nil,.int .i64,.nil,.nil,.int .i64]),.box (.agg [.rows true .atom,.bool]),.box (.agg [.own 6,.own 7,.int .i64,.nil,.nil,.int .i64]),.rows true .poly,.rows true .ev,.rows true .poly]⟩ (.seq .u (.seq .u (.seq (.block (.seq .u (.seq .u (.seq .u (.seq (.seq .u (.cut ⟨[(3,.c (.pb 0 7 0)),(4,.c (.pb 1 1 0)),(5,.c (.pb 2 6 0)),(6,.c (.pb 3 2 0)),(7,.c (.pb 4 6 0)),(8,.c (.own 5)),(9,.c (.int .i64)),(10,.c (.int .i64)),(11,.c (.int .i64)),(12,.c (.pb 6 5 0)),(14,.c (.bool)),(17,.c (.pb 7 1 0)),(18,.c (.pb 8 1 0)),(57,.c (.rows false .iop)),(58,.c (.int .i64)),(59,.c (.int .i64))],[.box (.sv false .blk),.box (.agg [.nil]),.box (.agg [.nil,.nil,.int .i64,.nil,.nil,.int .i64]),.box (.agg [.rows true .atom,.bool]),.box (.agg [.own 9,.own 10,.int .i64,.nil,.nil,.int .i64]),.rows true .poly,.box (.sv false .iop),.box (.sv true .poly),.box (.agg [.nil]),.rows true .ev,.rows true .poly]⟩ (.cond .u .u))) (.seq (.seq .u (.cut ⟨[(3,.c (.pb 0 7 0)),(4,.c (.pb 1 1 0)),(5,.c (.pb 2 6 0)),(6,.c (.pb 3 2 0)),(7,.c (.pb 4 6 0)),(8,.c (.own 5)),(9,.c (.int .i64)),(10,.c (.int .i64)),(11,.c (.int .i64)),(12,.c (.pb 6 5 0)),(17,.c (.pb 7 1 0)),(18,.c (.pb 8 1 0)),(57,.c (.rows false .iop)),(58,.c (.int .i64)),(59,.c (.int .i64))],[.box (.sv false .blk),.box (.agg [.nil]),.box (.agg [.nil,.nil,.int .i64,.nil,.nil,.int .i64]),.box (.agg [.rows true .atom,.bool]),.box (.agg [.own 9,.own 10,.int .i64,.nil,.nil,.int .i64]),.rows true .poly,.box (.sv false .iop),.box (.sv true .poly),.box (.sv true .poly),.rows true .ev,.rows true .poly]⟩ (.cond .u .u))) (.seq (.seq .u (.cut ⟨[(3,.c (.pb 0 7 0)),(4,.c (.pb 1 1 0)),(5,.c (.pb 2 6 0)),(6,.c (.pb 3 2 0)),(7,.c (.pb 4 6 0)),(8,.c (.own 5)),(9,.c (.int .i64)),(10,.c (.int .i64)),(11,.c (.int .i64)),(12,.c (.pb 6 5 0)),(17,.c (.pb 7 1 0)),(18,.c (.pb 8 1 0)),(57,.c (.rows false .iop)),(58,.c (.int .i64)),(59,.c (.int .i64))],[.box (.sv false .blk),.box (.agg [.nil]),.box (.agg [.nil,.nil,.int .i64,.nil,.nil,.int .i64]),.box (.agg [.rows true .atom,.bool]),.box (.agg [.own 9,.own 10,.int .i64,.nil,.nil,.int .i64]),.rows true .poly,.box (.sv false .iop),.box (.sv true .poly),.box (.sv true .poly),.rows true .ev,.rows true .poly]⟩ (.cond (.seq .u (.seq (.seq .u (.cut ⟨[(3,.c (.pb 0 7 0)),(4,.c (.pb 1 1 0)),(5,.c (.pb 2 6 0)),(6,.c (.pb 3 2 0)),(7,.c (.pb 4 6 0)),(8,.c (.own 5)),(9,.c (.int .i64)),(10,.c (.int .i64)),(11,.c (.int .i64)),(12,.c (.pb 6 5 0)),(17,.c (.pb 7 1 0)),(18,.c (.pb 8 1 0)),(19,.c (.pb 9 5 0)),(57,.c (.rows false .iop)),(58,.c (.int .i64)),(59,.c (.int .i64))],[.box (.sv false .blk),.box (.agg [.nil]),.box (.agg [.nil,.nil,.int .i64,.nil,.nil,.int .i64]),.box (.agg [.rows true .atom,.bool]),.box (.agg [.own 10,.own 11,.int .i64,.nil,.nil,.int .i64]),.rows true .poly,.box (.sv false .iop),.box (.sv true .poly),.box (.sv true .poly),.box (.agg [.int .i64,.int .i64,.rows true .mono,.rows true .mono,.own 12]),.rows true .ev,.rows true .poly,.rows true .poly]⟩ (.cond .u .u))) .u)) .u))) (.seq .u (.block (.seq .u (.cut ⟨[(3,.c (.pb 0 7 0)),(4,.c (.pb 1 1 0)),(5,.c (.pb 2 6 0)),(6,.c (.pb 3 2 0)),(7,.c (.pb 4 6 0)),(8,.c (.own 5)),(9,.c (.int .i64)),(10,.c (.int .i64)),(57,.c (.rows false .iop)),(58,.c (.int .i64)),(59,.c (.int .i64))],[.box (.sv false .blk),.box (.agg [.nil]),.box (.agg [.nil,.nil,.int .i64,.nil,.nil,.int .i64]),.box (.agg [.rows true .atom,.bool]),.box (.agg [.own 6,.own 7,.int .i64,.nil,.nil,.int .i64]),.rows true .poly,.rows true .ev,.rows true .poly]⟩ (.cond .u (.seq .u (.cut ⟨[(3,.c (.pb 0 7 0)),(4,.c (.pb 1 1 0)),(5,.c (.pb 2 6 0)),(6,.c (.pb 3 2 0)),(7,.c (.pb 4 6 0)),(8,.c (.own 5)),(9,.c (.int .i64)),(10,.c (.int .i64)),(57,.c (.rows false .iop)),(58,.c (.int .i64)),(59,.c (.int .i64))],[.box (.sv false .blk),.box (.agg [.nil]),.box (.agg [.nil,.nil,.int .i64,.nil,.nil,.int .i64]),.box (.agg [.rows true .atom,.bool]),.box (.agg [.own 6,.own 7,.int .i64,.nil,.nil,.int .i64]),.rows true .poly,.rows true .ev,.rows true .poly]⟩ (.cond .u (.seq .u (.cut ⟨[(3,.c (.pb 0 7 0)),(4,.c (.pb 1 1 0)),(5,.c (.pb 2 6 0)),(6,.c (.pb 3 2 0)),(7,.c (.pb 4 6 0)),(8,.c (.own 5)),(9,.c (.int .i64)),(10,.c (.int .i64)),(57,.c (.rows false .iop)),(58,.c (.int .i64)),(59,.c (.int .i64))],[.box (.sv false .blk),.box (.agg [.nil]),.box (.agg [.nil,.nil,.int .i64,.nil,.nil,.int .i64]),.box (.agg [.rows true .atom,.bool]),.box (.agg [.own 6,.own 7,.int .i64,.nil,.nil,.int .i64]),.rows true .poly,.rows true .ev,.rows true .poly]⟩ (.cond .u (.seq .u (.cut ⟨[(3,.c (.pb 0 7 0)),(4,.c (.pb 1 1 0)),(5,.c (.pb 2 6 0)),(6,.c (.pb 3 2 0)),(7,.c (.pb 4 6 0)),(8,.c (.own 5)),(9,.c (.int .i64)),(10,.c (.int .i64)),(57,.c (.rows false .iop)),(58,.c (.int .i64)),(59,.c (.int .i64))],[.box (.sv false .blk),.box (.agg [.nil]),.box (.agg [.nil,.nil,.int .i64,.nil,.nil,.int .i64]),.box (.agg [.rows true .atom,.bool]),.box (.agg [.own 6,.own 7,.int .i64,.nil,.nil,.int .i64]),.rows true .poly,.rows true .ev,.rows true .poly]⟩ (.cond .u (.seq .u (.cut ⟨[(3,.c (.pb 0 7 0)),(4,.c (.pb 1 1 0)),(5,.c (.pb 2 6 0)),(6,.c (.pb 3 2 0)),(7,.c (.pb 4 6 0)),(8,.c (.own 5)),(9,.c (.int .i64)),(10,.c (.int .i64)),(57,.c (.rows false .iop)),(58,.c (.int .i64)),(59,.c (.int .i64))],[.box (.sv false .blk),.box (.agg [.nil]),.box (.agg [.nil,.nil,.int .i64,.nil,.nil,.int .i64]),.box (.agg [.rows true .atom,.bool]),.box (.agg [.own 6,.own 7,.int .i64,.nil,.nil,.int .i64]),.rows true .poly,.rows true .ev,.rows true .poly]⟩ (.cond .u (.seq .u (.cut ⟨[(3,.c (.pb 0 7 0)),(4,.c (.pb 1 1 0)),(5,.c (.pb 2 6 0)),(6,.c (.pb 3 2 0)),(7,.c (.pb 4 6 0)),(8,.c (.own 5)),(9,.c (.int .i64)),(10,.c (.int .i64)),(57,.c (.rows false .iop)),(58,.c (.int .i64)),(59,.c (.int .i64))],[.box (.sv false .blk),.box (.agg [.nil]),.box (.agg [.nil,.nil,.int .i64,.nil,.nil,.int .i64]),.box (.agg [.rows true .atom,.bool]),.box (.agg [.own 6,.own 7,.int .i64,.nil,.nil,.int .i64]),.rows true .poly,.rows true .ev,.rows true .poly]⟩ (.cond .u .u))))))))))))))))))))))))))) .u)))))) (.seq .u (.seq (.seq .u (.cut ⟨[(3,.c (.pb 0 7 0)),(4,.c (.pb 1 1 0)),(5,.c (.pb 2 6 0)),(6,.c (.pb 3 2 0)),(7,.c (.pb 4 6 0)),(8,.c (.own 5)),(24,.c (.bool))],[.box (.sv false .blk),.box (.agg [.nil]),.box (.agg [.nil,.nil,.int .i64,.nil,.nil,.int .i64]),.box (.agg [.rows true .atom,.bool]),.box (.agg [.own 6,.own 7,.int .i64,.rows true .mono,.nil,.int .i64]),.rows true .poly,.rows true .ev,.rows true .poly]⟩ (.cond .u .u))) (.seq (.seq .u (.cut ⟨[(3,.c (.pb 0 7 0)),(4,.c (.pb 1 1 0)),(5,.c (.pb 2 6 0)),(6,.c (.pb 3 2 0)),(7,.c (.pb 4 6 0))],[.box (.sv false .blk),.box (.agg [.nil]),.box (.agg [.nil,.nil,.int .i64,.nil,.nil,.int .i64]),.box (.agg [.rows true .atom,.bool]),.box (.agg [.own 5,.own 6,.int .i64,.rows true .mono,.rows true .mono,.int .i64]),.rows true .ev,.rows true .poly]⟩ (.cond .u .u))) .u)))))))))) KD Tryz.f37 [(106,⟨_,kZ⟩),(51,⟨_,yJ⟩),(101,⟨_,yK⟩),(100,⟨_,kY⟩),(103,⟨_,gK⟩),(16,⟨_,yL⟩),(38,⟨_,lJ⟩),(107,⟨_,yM⟩),(104,⟨_,yN⟩),(105,⟨_,lC⟩),(99,⟨_,yO⟩),(102,⟨_,yP⟩)] (QI A kZ.pre kZ.fn yJ.pre yJ.fn yK.pre yK.fn kY.pre kY.fn gK.pre gK.fn yL.pre yL.fn lJ.pre lJ.fn yM.pre yM.fn yN.pre yN.fn lC.pre lC.fn yO.pre yO.fn yP.pre yP.fn):=fun _=>by kernel_rfl
end Go.TX.Seat
namespace Go.TX.Seat
open Go Go.AE Go.TX Go.TX.F Go.Proofs
set_option maxRecDepth 100000
theorem alq (A:Alg) (aX:Ct A.ah gB) (iF:Ct A.ah uF): @Ru aJ.z X E A [] .u CU Tryz.f216 [(19,⟨_,aX⟩),(202,⟨_,iF⟩)] (Jb A aX.pre aX.fn iF.pre iF.fn):=fun _=>by kernel_rfl
theorem alr (A:Alg) (aC:Ct A.ah bS) (iW:Ct A.ah uI) (rC:Ct A.ah CU) (rD:Ct A.ah BM) (iX:Ct A.ah uK): @Ru aJ.z X E A [(3,[(0,([4],[])),(2,([1],[])),(3,([6],[])),(4,([7],[])),(1,([29],[3,4])),(5,([30,31,32,33],[])),(6,([34],[])),(7,([34],[])),(8,([8,35],[])),(9,([9,36],[]))])] .u CV Tryz.f193 [(89,⟨_,aC⟩),(130,⟨_,iW⟩),(216,⟨_,rC⟩),(134,⟨_,rD⟩),(131,⟨_,iX⟩)] (Jc A aC.pre aC.fn iW.pre iW.fn rC.pre rC.fn rD.pre rD.fn iX.pre iX.fn):=fun _=>by kernel_rfl
theorem als (A:Alg) (iW:Ct A.ah uI) (iK:Ct A.ah uL) (iX:Ct A.ah uK): @Ru aJ.z X E A [(3,[(0,([2],[])),(2,([3],[])),(1,([10],[2])),(3,([11,12],[])),(4,([13],[])),(5,([13],[])),(6,([4,14],[])),(7,([15],[]))])] .u CW Tryz.f194 [(130,⟨_,iW⟩),(132,⟨_,iK⟩),(131,⟨_,iX⟩)] (Jd A iW.pre iW.fn iK.pre iK.fn iX.pre iX.fn):=fun _=>by kernel_rfl
theorem alu (A:Alg) (aD:Ct A.ah cu) (rE:Ct A.ah CV) (rF:Ct A.ah Bw) (rG:Ct A.ah BA) (rH:Ct A.ah CW): @Ru aJ.z X E A [(6,[(0,([3],[])),(1,([0],[])),(4,([0],[])),(5,([6],[])),(7,([0],[])),(8,([6],[])),(2,([26],[0])),(3,([27],[])),(6,([29,30],[0])),(9,([32,33],[0])),(10,([25,28,31,34],[])),(11,([35],[])),(12,([24],[])),(13,([24],[])),(14,([],[])),(15,([],[])),(16,([7,36],[])),(17,([8,37],[]))]),(9,[(0,([3],[])),(1,([],[])),(2,([0],[])),(6,([0],[])),(3,([45],[0])),(4,([44,46],[])),(5,([47],[])),(7,([49],[0,5])),(8,([48,50],[])),(9,([43,51],[])),(10,([52],[])),(11,([42],[])),(12,([42],[])),(13,([],[])),(14,([9,53],[])),(15,([54],[]))])] (.seq .u (.seq .u (.seq (.seq .u (.block (.loop ⟨[(0,.c (.pb 0 2 0)),(2,.c (.pb 1 1 0)),(3,.c (.pb 2 1 0)),(5,.c (.int .i64))],[.box (.agg [.rows true .u8,.int .i64]),.box (.agg [.nil]),.box (.agg [.own 3]),.rows true .atom]⟩ .u))) (.seq (.seq .u (.cut ⟨[(2,.c (.pb 1 1 0)),(3,.c (.pb 2 1 0))],[.box (.agg [.rows true .u8,.int .i64]),.box (.agg [.nil]),.box (.agg [.own 3]),.rows true .atom]⟩ (.cond .u .u))) .u)))) CX Tryz.f160 [(61,⟨_,aD⟩),(193,⟨_,rE⟩),(173,⟨_,rF⟩),(64,⟨_,rG⟩),(194,⟨_,rH⟩)] (Je A aD.pre aD.fn rE.pre rE.fn rF.pre rF.fn rG.pre rG.fn rH.pre rH.fn):=fun _=>by kernel_rfl
theorem alv (A:Alg) (aD:Ct A.ah cu) (iV:Ct A.ah um) (bU:Ct A.ah jR) (rJ:Ct A.ah CX): @Ru ⟨[26,35],[]⟩ X E A [(6,[(0,([5],[])),(1,([21],[])),(2,([5],[])),(3,([23],[])),(4,([24],[])),(5,([25],[])),(6,([26],[1])),(7,([22,27],[])),(8,([5],[])),(9,([28,29],[]))]),(8,[(0,([5],[])),(1,([32],[])),(2,([],[1])),(3,([34],[])),(4,([35],[1])),(5,([33,36],[])),(6,([5],[])),(7,([37,38],[]))]),(10,[(0,([5],[])),(1,([41],[])),(2,([],[])),(3,([0],[])),(4,([44],[1])),(5,([43,45],[])),(6,([46],[])),(7,([42],[])),(8,([48],[])),(9,([47,49],[]))])] (.seq .u (.seq .u (.seq (.seq .u (.cut ⟨[(4,.c (.pb 1 1 0)),(5,.c (.pb 2 1 0))],[.box (.agg [.rows true .u8,.int .i64]),.box (.agg [.nil]),.box (.agg [.own 3]),.rows true .atom]⟩ (.cond (.seq .u (.block (.seq .u (.cut ⟨[(4,.c (.pb 1 1 0)),(5,.c (.pb 2 1 0))],[.box (.agg [.rows true .u8,.int .i64]),.box (.agg [.nil]),.box (.agg [.own 3]),.rows true .atom]⟩ (.cond .u (.seq .u (.cut ⟨[(4,.c (.pb 1 1 0)),(5,.c (.pb 2 1 0))],[.box (.agg [.rows true .u8,.int .i64]),.box (.agg [.nil]),.box (.agg [.own 3]),.rows true .atom]⟩ (.cond .u (.seq .u (.cut ⟨[(4,.c (.pb 1 1 0)),(5,.c (.pb 2 1 0))],[.box (.agg [.rows true .u8,.int .i64]),.box (.agg [.nil]),.box (.agg [.own 3]),.rows true .atom]⟩ (.cond .u .u))))))))))) .u))) .u))) CY Tryz.f97 [(61,⟨_,aD⟩),(158,⟨_,iV⟩),(129,⟨_,bU⟩),(160,⟨_,rJ⟩)] (Jf A aD.pre aD.fn iV.pre iV.fn bU.pre bU.fn rJ.pre rJ.fn):=fun _=>by kernel_rfl
theorem alx (A:Alg) (rM:Ct A.ah Bq) (rO:Ct A.ah Cy) (rP:Ct A.ah CY): @Ru aJ.z X E A [] .u CZ Tryz.f36 [(59,⟨_,rM⟩),(98,⟨_,rO⟩),(97,⟨_,rP⟩)] (Jg A rM.pre rM.fn rO.pre rO.fn rP.pre rP.fn):=fun _=>by kernel_rfl
theorem ape (A:Alg) (yQ:Ct A.ah KD) (lJ:Ct A.ah Ak) (yR:Ct A.ah Kg) (rQ:Ct A.ah CZ): @Ru aJ.z X E A [] (.seq .u (.seq .u (.seq .u (.seq .u (.seq .u (.seq .u (.seq (.seq .u (.block (.loop ⟨[(4,.c (.pb 0 7 0)),(5,.c (.pb 1 1 0)),(6,.c (.pb 2 6 0)),(7,.c (.int .i64)),(8,.c (.int .i64))],[.box (.sv true .blk),.box (.sv true .tab),.box (.sv true .sym)]⟩ (.seq .u (.seq (.cut ⟨[(4,.c (.pb 0 7 0)),(5,.c (.pb 1 1 0)),(6,.c (.pb 2 6 0)),(7,.c (.int .i64)),(8,.c (.int .i64))],[.box (.sv true .blk),.box (.sv true .tab),.box (.sv true .sym)]⟩ (.block .u)) .u))))) .u))))))) YP Tryz.f7 [(37,⟨_,yQ⟩),(38,⟨_,lJ⟩),(20,⟨_,yR⟩),(36,⟨_,rQ⟩)] (QJ A yQ.pre yQ.fn lJ.pre lJ.fn yR.pre yR.fn rQ.pre rQ.fn):=fun _=>by kernel_rfl
end Go.TX.Seat
namespace Go.TX
open Go Go.AE
theorem aly (x y:Int):bg .lss x y=decide (x<y):=rfl
theorem alz (x y:Int):bg .leq x y=decide (x≤y):=rfl
theorem alA (x y:Int):bg .gtr x y=decide (y<x):=rfl
theorem alB (x y:Int):bg .geq x y=decide (y≤x):=rfl
theorem alC (x y:Int):bg .eql x y=decide (x=y):=rfl
theorem alD (x y:Int):bg .neq x y= !decide (x=y):=rfl
theorem alE (k:IntKind) (x y:Int):jP .add k x y=k.wrap (x+y):=rfl
theorem ZE (k:IntKind) (x y:Int):jP .sub k x y=k.wrap (x-y):=rfl
theorem alF (k:IntKind) (x y:Int):jP .mul k x y=k.wrap (x*y):=rfl
theorem alG (k:IntKind) (x y:Int):jP .quo k x y=k.wrap (x.tdiv y):=rfl
theorem ZF (k:IntKind) (x y:Int):jP .rem k x y=x.tmod y:=rfl
theorem w64 {x:Int} (h1: -9223372036854775808≤x) (h2:x≤9223372036854775807):IntKind.i64.wrap x=x:=IntWalk.i64_in _ (by omega)
theorem aeL (m:aj):kE .mono 0 m=m.bK:=rfl
theorem aeM (m:aj):o8 .mono 1 .i64 m=m.atoms:=rfl
theorem alH (p:List aj):o8 .poly 0 .mono p=p:=rfl
theorem apf (p:List Atom):o8 .tab 0 .atom p=p:=rfl
theorem alI (p:List Int):o8 .ints 0 .i64 p=p:=rfl
theorem aeN (m:Atom):kE .atom 0 m=m.kind:=rfl
theorem aeO (m:Atom):kE .atom 1 m=m.k:=rfl
theorem aeP (m:Atom):o8 .atom 2 .mono m=m.x:=rfl
theorem aeQ (m:Atom):o8 .atom 3 .mono m=m.y:=rfl
theorem apg (n:Int):kE .i64 0 n=n:=rfl
theorem aqO (n:Int):kE .u8 0 n=n:=rfl
theorem aeR (x):Co.mk .mono x=⟨x.1,x.2.1⟩:=rfl
theorem aeS (x):Co.mk .poly x=x.1:=rfl
theorem alJ (x):Co.mk .tab x=x.1:=rfl
theorem aeT (x):Co.mk .ints x=x.1:=rfl
theorem alK (x):Co.mk .i64 x=x.1:=rfl
theorem aeU (x):Co.mk .atom x=⟨x.1,x.2.1,x.2.2.1,x.2.2.2.1⟩:=rfl
theorem aA {α ρ:Type} {f:α→(α ⊕ ρ→Prop)→Prop} {x:α} {Q:ρ→Prop} (I:α→Prop) (μ:α→Nat) (h0:I x) (hs:∀y,I y→f y (Ee (fun z _=>I z∧μ z<μ y) Q)):Vd f x Q:=⟨I,μ,h0,hs⟩
theorem ZG {α ρ:Type} (k:α→(ρ→Prop)→Prop) (Q:ρ→Prop) (x:α):Ee k Q (.inl x)=k x Q:=rfl
theorem ZH {α ρ:Type} (k:α→(ρ→Prop)→Prop) (Q:ρ→Prop) (r:ρ):Ee k Q (.inr r)=Q r:=rfl
theorem getD_lt {α:Type} {xs:List α} {d:α} {i:Nat} (h:i<xs.length):xs.getD i d=xs[i]:=by simp [List.getD,h]
theorem dN {α:Type} {xs:List α} {d:α} {i:Int} (h0:0≤i) (h:i<xs.length):xs.getD i.toNat d∈xs:=by
  rw [getD_lt (by omega)];exact List.getElem_mem _
theorem RR:(∀(x y:Int),bg BinOp.lss x y=decide (x<y))∧(∀(x y:Int),bg BinOp.leq x y=decide (x≤y))∧(∀(x y:Int),bg BinOp.gtr x y=decide (y<x))∧(∀(x y:Int),bg BinOp.geq x y=decide (y≤x))∧(∀(x y:Int),bg BinOp.eql x y=decide (x=y))∧(∀(x y:Int),bg BinOp.neq x y= !decide (x=y))∧(∀(k:IntKind) (x y:Int),jP BinOp.add k x y=k.wrap (x+y))∧(∀(k:IntKind) (x y:Int),jP BinOp.sub k x y=k.wrap (x-y))∧(∀(k:IntKind) (x y:Int),jP BinOp.mul k x y=k.wrap (x*y))∧(∀(k:IntKind) (x y:Int),jP BinOp.quo k x y=k.wrap (x.tdiv y))∧(∀(k:IntKind) (x y:Int),jP BinOp.rem k x y=x.tmod y)∧(∀ {x:Int}, -9223372036854775808≤x→x≤9223372036854775807→IntKind.i64.wrap x=x)∧(∀(m:aj),kE Co.mono 0 m=m.bK)∧(∀(m:aj),o8 Co.mono 1 Co.i64 m=m.atoms)∧(∀(p:List aj),o8 Co.poly 0 Co.mono p=p)∧(∀(p:List Atom),o8 Co.tab 0 Co.atom p=p)∧(∀(p:List Int),o8 Co.ints 0 Co.i64 p=p)∧(∀(m:Atom),kE Co.atom 0 m=m.kind)∧(∀(m:Atom),kE Co.atom 1 m=m.k)∧(∀(m:Atom),o8 Co.atom 2 Co.mono m=m.x)∧(∀(m:Atom),o8 Co.atom 3 Co.mono m=m.y)∧(∀(n:Int),kE Co.i64 0 n=n)∧(∀(n:Int),kE Co.u8 0 n=n)∧(∀(x:je Co.mono.xM),Co.mono.mk x=aj.mk x.fst x.snd.fst)∧(∀(x:je Co.poly.xM),Co.poly.mk x=x.fst)∧(∀(x:je Co.tab.xM),Co.tab.mk x=x.fst)∧(∀(x:je Co.ints.xM),Co.ints.mk x=x.fst)∧(∀(x:je Co.i64.xM),Co.i64.mk x=x.fst)∧(∀(x:je Co.atom.xM),Co.atom.mk x=Atom.mk x.fst x.snd.fst x.snd.snd.fst x.snd.snd.snd.fst)∧(∀ {α ρ:Type} (k:α→(ρ→Prop)→Prop) (Q:ρ→Prop) (x:α),Ee k Q (Sum.inl x)=k x Q)∧(∀ {α ρ:Type} (k:α→(ρ→Prop)→Prop) (Q:ρ→Prop) (r:ρ),Ee k Q (Sum.inr r)=Q r)∧(∀(c f:Bool),(bif c then true else f)=(c || f))∧(∀(c t:Bool),(bif c then t else false)=(c&&t))∧(∀(c f:Bool),(bif c then false else f)=(!c&&f))∧(∀(c t:Bool),(bif c then t else true)=(!c || t))∧(∀(a b:Bool),((a || b)=true)=(a=true∨b=true))∧(∀ {x y:Bool},(x || y)=false↔x=false∧y=false)∧(∀(a b:Bool),((a&&b)=true)=(a=true∧b=true))∧(∀ {p:Prop} [inst:Decidable p],(decide p=true)=p)∧(∀ {p:Prop} {x:Decidable p},decide p=false↔¬p)∧(∀(b:Bool),((!b)=true)=(b=false))∧(∀(b:Bool),((!b)=false)=(b=true))∧(∀(b:Bool),(!!b)=b)∧(∀(p:Prop),(True∧p)=p)∧(∀(p:Prop),(p∧True)=p)∧(∀ {α:Type} [inst:LE α] {x y:α},x≥y↔y≤x)∧(¬True)=False∧(¬False)=True∧(false=true)=False∧(true=false)=False∧(∀(p:Prop),(False→p)=True)∧(∀(p:Prop),(True→p)=p)∧(∀(α:Prop),(α→True)=True)∧(∀(α:Type),(∀(a:α),True)=True)∧(∀(p:Prop),(False∨p)=p)∧(∀(p:Prop),(p∨False)=p)∧(∀(p:Prop),(True∨p)=True)∧(∀(p:Prop),(p∨True)=True)∧(∀ {α:Type} {x:Decidable True} (t e:α),(if True then t else e)=t)∧∀ {α:Type} {x:Decidable False} (t e:α),(if False then t else e)=e:=And.intro (@aly)<| And.intro (@alz)<| And.intro (@alA)<| And.intro (@alB)<| And.intro (@alC)<| And.intro (@alD)<| And.intro (@alE)<| And.intro (@ZE)<| And.intro (@alF)<| And.intro (@alG)<| And.intro (@ZF)<| And.intro (@w64)<| And.intro (@aeL)<| And.intro (@aeM)<| And.intro (@alH)<| And.intro (@apf)<| And.intro (@alI)<| And.intro (@aeN)<| And.intro (@aeO)<| And.intro (@aeP)<| And.intro (@aeQ)<| And.intro (@apg)<| And.intro (@aqO)<| And.intro (@aeR)<| And.intro (@aeS)<| And.intro (@alJ)<| And.intro (@aeT)<| And.intro (@alK)<| And.intro (@aeU)<| And.intro (@ZG)<| And.intro (@ZH)<| And.intro (@Bool.cond_true_left)<| And.intro (@Bool.cond_false_right)<| And.intro (@Bool.cond_false_left)<| And.intro (@Bool.cond_true_right)<| And.intro (@Bool.or_eq_true)<| And.intro (@Bool.or_eq_false_iff)<| And.intro (@Bool.and_eq_true)<| And.intro (@decide_eq_true_eq)<| And.intro (@decide_eq_false_iff_not)<| And.intro (@Bool.not_eq_true')<| And.intro (@Bool.not_eq_false')<| And.intro (@Bool.not_not)<| And.intro (@true_and)<| And.intro (@and_true)<| And.intro (@ge_iff_le.{0})<| And.intro (@not_true_eq_false)<| And.intro (@not_false_eq_true)<| And.intro (@Bool.false_eq_true)<| And.intro (@Bool.true_eq_false)<| And.intro (@false_implies)<| And.intro (@true_implies)<| And.intro (@implies_true.{0})<| And.intro (@implies_true.{1})<| And.intro (@false_or)<| And.intro (@or_false)<| And.intro (@true_or)<| And.intro (@or_true)<| And.intro (@if_true.{1})<| @if_false.{1}
end Go.TX
namespace Go.TX.F
open Go Go.AE Go.TX
def inB (a lo hi:Int):Bool:=decide (lo≤a)&&decide (a≤hi)
theorem afC (a b c:Int):Pp (std 0) (a,b,c,()) (fun y=>y=(inB a b c,())):=by
  dsimp only [Pp,Alg.cl,Alg.bd,Alg.l1,Tup.q,Tup.o]
  simp (disch:=omega) only [RR]
  rfl
theorem afD {p:Int×Int×Int×Unit→Bool} {f:Int×Int×Int×Unit→Bool×Unit} (hp:∀a b c,p (a,b,c,())=true) (hf:∀a b c,f (a,b,c,())=(inB a b c,())) (a:Int):PO (std 0) p f (a,()) (fun y=>y=(inB a 0 65535,())):=by
  dsimp only [PO,Alg.cl,Alg.bd,Alg.l1,Tup.q,Tup.o]
  simp (disch:=omega) only [RR,hp,hf]
theorem afE {p:Int×Int×Int×Unit→Bool} {f:Int×Int×Int×Unit→Bool×Unit} (hp:∀a b c,p (a,b,c,())=true) (hf:∀a b c,f (a,b,c,())=(inB a b c,())) (a:Int):PZ (std 0) p f (a,()) (fun y=>y=(inB a 1 5,())):=by
  dsimp only [PZ,Alg.cl,Alg.bd,Alg.l1,Tup.q,Tup.o]
  simp (disch:=omega) only [RR,hp,hf]
theorem afF {p:Int×Int×Int×Unit→Bool} {f:Int×Int×Int×Unit→Bool×Unit} (hp:∀a b c,p (a,b,c,())=true) (hf:∀a b c,f (a,b,c,())=(inB a b c,())) (a:Int):P5 (std 0) p f (a,()) (fun y=>y=(inB a 0 3,())):=by
  dsimp only [P5,Alg.cl,Alg.bd,Alg.l1,Tup.q,Tup.o]
  simp (disch:=omega) only [RR,hp,hf]
theorem aph (a:Int):Y3 (std 0) (a,()) (fun y=>y=(false,())):=by
  dsimp only [Y3,Alg.cl,Alg.bd,Alg.l1,Tup.q,Tup.o]
  simp (disch:=omega) only [RR]
  simp
def gP (a b:Int):Int:=if a<b then-1 else if b<a then 1 else 0
theorem apj {p:Int×Unit→Bool} {f:Int×Unit→Bool×Unit} (hp:∀a,p (a,())=true) (hf:∀a,f (a,())=(false,())) (a b:Int):Y4 (std 0) p f (a,b,()) (fun y=>y=(gP a b,())):=by
  dsimp only [Y4,Alg.cl,Alg.bd,Alg.l1,Tup.q,Tup.o]
  simp (disch:=omega) only [RR,hp,hf]
  unfold gP
  refine⟨fun h=>by simp [h],fun h=>⟨fun h2=>by simp [h,h2],fun h2=>by simp [h,h2]⟩⟩
theorem apk {p:Int×Unit→Bool} {f:Int×Unit→Bool×Unit} (hp:∀a,p (a,())=true) (hf:∀a,f (a,())=(false,())) (a b:Int):Y8 (std 0) p f (a,b,()) (fun y=>y=(decide (a<b),())):=by
  dsimp only [Y8,Alg.cl,Alg.bd,Alg.l1,Tup.q,Tup.o]
  simp (disch:=omega) only [RR,hp,hf]
  simp
def or2 (a b:Int):Int:=if a≠0 then a else b
theorem apl (a b:Int):Y7 (std 0) ([a,b],()) (fun y=>y=(or2 a b,())):=by
  dsimp only [Y7,Alg.cl,Alg.bd,Alg.l1,Tup.q,Tup.o]
  refine aA (fun(y:Int×List Int×Int×Int×Unit)=>y.1=0∧y.2.1=[a,b]∧y.2.2.1=2∧0≤y.2.2.2.1∧y.2.2.2.1≤2∧(0<y.2.2.2.1→a=0)∧(1<y.2.2.2.1→b=0)) (fun y=>(2-y.2.2.2.1).toNat) ⟨rfl,rfl,rfl,by simp,by simp,fun h=>absurd h (by simp),fun h=>absurd h (by simp)⟩ ?_
  rintro⟨(z:Int),(l:List Int),(n:Int),(i:Int),⟨⟩⟩ hI
  dsimp only at hI ⊢
  obtain⟨rfl,rfl,rfl,h1,h2,h3,h4⟩:=hI
  simp (disch:=omega) only [RR]
  have hi:i=0∨i=1∨i=2:=by omega
  rcases hi with rfl | rfl | rfl
  · by_cases ha:a=0<;>simp [or2,ha]<;>(try omega)
  · have:=h3 (by omega)
    by_cases hb:b=0<;>simp [or2,this,hb]<;>(try omega)
  · have:=h3 (by omega)
    have:=h4 (by omega)
    simp [or2, *]
def lK:List Int→List Int→Int
  | [],[]=>0
  | [],_::_=> -1
  | _::_,[]=>1
  | a::az,b::bs=>if gP a b≠0 then gP a b else lK az bs
theorem Db (a b:List Int) (i:Nat):(h1:i<a.length)→(h2:i<b.length)→lK (a.drop i) (b.drop i)=if gP a[i] b[i]≠0 then gP a[i] b[i]else lK (a.drop (i+1)) (b.drop (i+1)):=by
  intro h1 h2
  rw [List.drop_eq_getElem_cons h1,List.drop_eq_getElem_cons h2];rfl
theorem ZI (l:List Int) (h:l≠ []):lK l []=1:=by cases l<;>simp_all [lK]
theorem afG {p:Int×Int×Unit→Bool} {f:Int×Int×Unit→Int×Unit} (hp:∀a b,p (a,b,())=true) (hf:∀a b,f (a,b,())=(gP a b,())) (a b:List Int) (ha:a.length<1000000000):
    Pn (std 0) p f (a,b,()) (fun y=>y=(lK a b,())):=by
  dsimp only [Pn,Alg.cl,Alg.bd,Alg.l1,Tup.q,Tup.o]
  refine aA (fun(y:List Int×List Int×List Int×Int×Int×Unit)=>y.1=a∧y.2.1=b∧y.2.2.1=a∧y.2.2.2.1=a.length∧0≤y.2.2.2.2.1∧y.2.2.2.2.1≤a.length∧y.2.2.2.2.1≤b.length∧lK a b=lK (a.drop y.2.2.2.2.1.toNat) (b.drop y.2.2.2.2.1.toNat))
    (fun y=>(a.length-y.2.2.2.2.1).toNat) ⟨rfl,rfl,rfl,rfl,by simp,by simp,by simp,by simp⟩ ?_
  rintro⟨(l1:List Int),(l2:List Int),(l3:List Int),(n:Int),(i:Int),⟨⟩⟩ hI
  dsimp only at hI ⊢
  obtain⟨rfl,rfl,rfl,rfl,h1,h2,h3,h4⟩:=hI
  simp (disch:=omega) only [RR,hp,hf]
  refine⟨fun hi=>⟨h1,hi,fun hj=> ?_,fun hj=>⟨h1,by omega,fun hc=> ?_,fun hc=> ?_⟩⟩,fun hi=>⟨fun hj=> ?_,fun hj=> ?_⟩⟩
  · rw [h4,List.drop_eq_nil_of_le (show l2.length≤i.toNat by omega),ZI _ (by simp;omega)]
  · rw [h4,Db l3 l2 i.toNat (by omega) (by omega)]
    rw [getD_lt (by omega),getD_lt (by omega)]at hc
    rw [getD_lt (by omega),getD_lt (by omega),if_pos hc]
  · rw [getD_lt (by omega),getD_lt (by omega)]at hc
    refine⟨⟨by omega,by omega,by omega,?_⟩,by omega⟩
    rw [h4,Db l3 l2 i.toNat (by omega) (by omega),if_neg (by simpa using hc),show(i+1).toNat=i.toNat+1 by omega]
  · rw [h4,List.drop_eq_nil_of_le (show l3.length≤i.toNat by omega)]
    have:∃q r,l2.drop i.toNat=q::r:=by
      cases hq:l2.drop i.toNat with
      | nil=>have:=congrArg List.length hq;simp at this;omega
      | cons q r=>exact⟨q,r,rfl⟩
    obtain⟨q,r,hq⟩:=this
    rw [hq];rfl
  · rw [h4,List.drop_eq_nil_of_le (show l3.length≤i.toNat by omega),List.drop_eq_nil_of_le (show l2.length≤i.toNat by omega)];rfl
def dO (a b:List Int):Int:=or2 (gP a.length b.length) (lK a b)
theorem afH {p1:Int×Int×Unit→Bool} {f1:Int×Int×Unit→Int×Unit} (hp1:∀a b,p1 (a,b,())=true) (hf1:∀a b,f1 (a,b,())=(gP a b,()))
    {p2:List Int×List Int×Unit→Bool} {f2:List Int×List Int×Unit→Int×Unit} (hp2:∀a b,a.length<1000000000→p2 (a,b,())=true) (hf2:∀a b,a.length<1000000000→f2 (a,b,())=(lK a b,()))
    {p3:List Int×Unit→Bool} {f3:List Int×Unit→Int×Unit} (hp3:∀a b,p3 ([a,b],())=true) (hf3:∀a b,f3 ([a,b],())=(or2 a b,())) (a b:List Int) (ha:a.length<1000000000):
    Po (std 0) p3 f3 p1 f1 p2 f2 (a,b,()) (fun y=>y=(dO a b,())):=by
  dsimp only [Po,Alg.cl,Alg.bd,Alg.l1,Tup.q,Tup.o]
  simp (disch:=omega) only [RR,hp1,hf1,hp2 a b ha,hf2 a b ha,hp3,hf3]
  rfl
end Go.TX.F
namespace Go.TX.F
open Go Go.AE Go.TX
noncomputable def bp (P:Prop):Bool:= @decide P (Classical.propDecidable P)
theorem fJ {P:Prop} (h:P):bp P=true:=by simp [bp,h]
theorem iY {P:Prop} (h:¬P):bp P=false:=by simp [bp,h]
theorem bq {P:Prop}:bp P=true↔P:=by simp [bp]
theorem om {P:Prop}:bp P=false↔¬P:=by simp [bp]
theorem Jh {P Q:Prop}:bp (P∧Q)=(bp P&&bp Q):=by by_cases h1:P<;>by_cases h2:Q<;>simp [bp,h1,h2]
theorem Mh {P Q:Prop} (h:P↔Q):bp P=bp Q:=by simp [bp,h]
def All (n:Int) (G:Int→Prop):Prop:=∀j,0≤j→j<n→G j
theorem All.zero {G:Int→Prop}:All 0 G:=fun j h1 h2=>absurd h2 (by omega)
theorem All.snoc {n:Int} {G:Int→Prop} (h:All n G) (hi:G n):All (n+1) G:=fun j h1 h2=>by
  by_cases hj:j=n
  · exact hj▸hi
  · exact h j h1 (by omega)
theorem All.le {n m:Int} {G:Int→Prop} (h:All n G) (hi:m≤n):All m G:=fun j h1 h2=>h j h1 (by omega)
def Idx (n:Int) (G:Int→Prop) (r:Int):Prop:=(r= -1∧All n (fun j=>¬G j))∨(0≤r∧r<n∧G r∧All r (fun j=>¬G j))
theorem Idx.ge {n:Int} {G:Int→Prop} {r:Int} (h:Idx n G r):(0≤r)↔¬All n (fun j=>¬G j):=by
  rcases h with⟨rfl,h⟩ | ⟨h1,h2,h3,h4⟩
  · simp [h]
  · simp only [h1,true_iff];exact fun h=>h r h1 h2 h3
def Srt (l:List Int):Prop:=All (l.length-1) (fun i=>l.getD i.toNat default≤l.getD (i+1).toNat default)
theorem ZJ {p:Int×Int×Unit→Bool} {f:Int×Int×Unit→Bool×Unit} (hp:∀a b,p (a,b,())=true) (hf:∀a b,f (a,b,())=(decide (a<b),())) (a:List Int) (ha:a.length<1000000000):
    Iy (std 0) p f (a,()) (fun y=>y=(bp (Srt a),())):=by
  dsimp only [Iy,Alg.cl,Alg.bd,Alg.l1,Tup.q,Tup.o]
  simp (disch:=omega) only [RR,hp,hf]
  refine aA (fun(y:List Int×Int×Unit)=>y.1=a∧ -1≤y.2.1∧y.2.1≤a.length-1∧∀j,y.2.1≤j→0≤j→j< (a.length:Int)-1→a.getD j.toNat default≤a.getD (j+1).toNat default) (fun y=>(y.2.1+1).toNat) ⟨rfl,by simp;omega,by simp,by simp;omega⟩ ?_
  rintro⟨(l:List Int),(i:Int),⟨⟩⟩ hI
  dsimp only at hI ⊢
  obtain⟨rfl,h1,h2,h3⟩:=hI
  simp (disch:=omega) only [RR,hp,hf]
  refine⟨fun h4=>⟨by omega,by omega,by omega,by omega,fun h5=> ?_,fun h5=>⟨⟨by omega,by omega,fun j h6 h7 h8=> ?_⟩,by omega⟩⟩,fun h4=> ?_⟩
  · rw [iY]
    intro h;have:=h (i-1) (by omega) (by omega)
    dsimp only at this
    rw [show i-1+1=i by omega]at this;omega
  · by_cases hj:j=i-1
    · subst hj;rw [show i-1+1=i by omega];omega
    · exact h3 j (by omega) h7 h8
  · rw [fJ]
    exact fun j h6 h7=>h3 j (by omega) h6 h7
theorem afI (a n:Int):Pq (std 0) (a,n,()) (fun y=>y=(decide (n≤a),n,())):=by
  dsimp only [Pq,Alg.cl,Alg.bd,Alg.l1,Tup.q,Tup.o]
  simp (disch:=omega) only [RR]
theorem ZK {p:Int×Int×Unit→Bool} {f:Int×Int×Unit→Bool×Int×Unit} (hp:∀a b,p (a,b,())=true) (hf:∀a b,f (a,b,())=(decide (b≤a),b,())) (a:List Int) (n:Int) (ha:a.length<1000000000):
    Iz (std 0) p f (a,n,()) (fun y=>Idx a.length (fun i=>n≤a.getD i.toNat default) y.1∧y.2.1=n):=by
  dsimp only [Iz,Alg.cl,Alg.bd,Alg.l1,Tup.q,Tup.o]
  refine aA (fun(y:List Int×Int×Int×Int×Unit)=>y.1=a∧y.2.1=a.length∧y.2.2.2.1=n∧0≤y.2.2.1∧y.2.2.1≤a.length∧All y.2.2.1 (fun i=>¬n≤a.getD i.toNat default)) (fun y=>(a.length-y.2.2.1).toNat) ⟨rfl,rfl,rfl,by simp,by simp,All.zero⟩ ?_
  rintro⟨(l:List Int),(m:Int),(i:Int),(n':Int),⟨⟩⟩ hI
  dsimp only at hI ⊢
  obtain⟨rfl,rfl,rfl,h1,h2,h3⟩:=hI
  simp (disch:=omega) only [RR,hp,hf]
  refine⟨fun h4=>⟨by omega,by omega,fun h5=> ?_,fun h5=>⟨⟨by omega,by omega,h3.snoc h5⟩,by omega⟩⟩,fun h4=> ?_⟩
  · exact Or.inr ⟨by omega,by omega,h5,h3⟩
  · exact Or.inl ⟨rfl,h3.le (by omega)⟩
theorem ZL {p:List Int×Int×Unit→Bool} {f:List Int×Int×Unit→Int×Int×Unit} (hp:∀a b,a.length<1000000000→p (a,b,())=true)
    (hf:∀a n,a.length<1000000000→Idx a.length (fun i=>n≤a.getD i.toNat default) (f (a,n,())).1∧(f (a,n,())).2.1=n) (a:List Int) (n:Int) (ha:a.length<1000000000):
    IB (std 0) p f (a,n,()) (fun y=>y=(bp (¬All a.length (fun i=>¬n≤a.getD i.toNat default)),n,())):=by
  obtain⟨h1,h2⟩:=hf a n ha
  dsimp only [IB,Alg.cl,Alg.bd,Alg.l1,Tup.q,Tup.o]
  simp (disch:=omega) only [RR,hp a n ha,h2]
  rw [show decide ((0:Int)≤(f (a,n,())).1)=bp (¬All a.length (fun i=>¬n≤a.getD i.toNat default))from ?_]
  rw [←Mh h1.ge];simp [bp]
def Mi (n:Int) (m:aj):Prop:=All m.atoms.length (fun i=>¬n≤m.atoms.getD i.toNat default)
def aR (p:List aj) (n:Int):Prop:=All p.length (fun i=>Mi n (p.getD i.toNat default))
def Sh (p:List aj):Prop:=p.length<1000000000∧∀m∈p,m.atoms.length<1000000000
theorem Sh.at {p:List aj} (h:Sh p) (n:Nat):(p.getD n default).atoms.length<1000000000:=by
  by_cases h1:n<p.length
  · rw [getD_lt h1];exact h.2 _ (List.getElem_mem _)
  · simp only [List.getD,List.getElem?_eq_none (by omega:p.length≤n)];decide
theorem afJ {p:List Int×Int×Unit→Bool} {f:List Int×Int×Unit→Bool×Int×Unit} (hp:∀a b,a.length<1000000000→p (a,b,())=true)
    (hf:∀a n,a.length<1000000000→f (a,n,())=(bp (¬All a.length (fun i=>¬n≤a.getD i.toNat default)),n,())) (a:List aj) (n:Int) (ha:Sh a):
    Pv (std 0) p f (a,n,()) (fun y=>y=(bp (aR a n),())):=by
  have hlen:=ha.1
  dsimp only [Pv,Alg.cl,Alg.bd,Alg.l1,Tup.q,Tup.o]
  refine aA (fun(y:List aj×Int×Int×Int×Unit)=>y.1=a∧y.2.1=a.length∧y.2.2.2.1=n∧0≤y.2.2.1∧y.2.2.1≤a.length∧All y.2.2.1 (fun i=>Mi n (a.getD i.toNat default))) (fun y=>(a.length-y.2.2.1).toNat) ⟨rfl,rfl,rfl,by simp,by simp,All.zero⟩ ?_
  rintro⟨(l:List aj),(m:Int),(i:Int),(n':Int),⟨⟩⟩ hI
  dsimp only at hI ⊢
  obtain⟨rfl,rfl,rfl,h1,h2,h3⟩:=hI
  simp (disch:=omega) only [RR]
  refine⟨fun h4=> ?_,fun h4=> ?_⟩
  · have h5:=ha.at i.toNat
    rw [hp _ _ h5,hf _ _ h5]
    refine⟨by omega,by omega,rfl,fun h6=> ?_,fun h6=>⟨⟨rfl,by omega,by omega,h3.snoc ?_⟩,by omega⟩⟩
    · rw [iY (fun h=> ?_)]
      exact bq.1 h6 (h i h1 h4)
    · exact Classical.byContradiction (fun h=>om.1 h6 h)
  · rw [fJ (show aR l n' from h3.le (by omega))]
theorem afK (m:aj):Pw (std 0) (m,()) (fun y=>y=(bp (0<m.atoms.length∧m.atoms.getD 0 default<0),())):=by
  dsimp only [Pw,Alg.cl,Alg.bd,Alg.l1,Tup.q,Tup.o]
  simp (disch:=omega) only [RR]
  refine⟨by omega,by omega,?_⟩
  rw [Jh]
  by_cases h1:0<m.atoms.length
  · by_cases h2:m.atoms.getD 0 default<0
    · rw [fJ h1,fJ h2,show Int.toNat 0=0 from rfl,decide_eq_true h2,decide_eq_true (by omega)]
    · rw [fJ h1,iY h2,show Int.toNat 0=0 from rfl,decide_eq_false h2,Bool.and_false,Bool.and_false]
  · rw [iY h1,decide_eq_false (by omega),Bool.false_and,Bool.false_and]
theorem ZM {p:aj×Unit→Bool} {f:aj×Unit→Bool×Unit} (G:aj→Prop) (hp:∀a,p (a,())=true) (hf:∀a,f (a,())=(bp (G a),())) (a:List aj) (ha:a.length<1000000000):
    IC (std 0) p f (a,()) (fun y=>Idx a.length (fun i=>G (a.getD i.toNat default)) y.1):=by
  dsimp only [IC,Alg.cl,Alg.bd,Alg.l1,Tup.q,Tup.o]
  refine aA (fun(y:List aj×Int×Int×Unit)=>y.1=a∧y.2.1=a.length∧0≤y.2.2.1∧y.2.2.1≤a.length∧All y.2.2.1 (fun i=>¬G (a.getD i.toNat default))) (fun y=>(a.length-y.2.2.1).toNat) ⟨rfl,rfl,by simp,by simp,All.zero⟩ ?_
  rintro⟨(l:List aj),(m:Int),(i:Int),⟨⟩⟩ hI
  dsimp only at hI ⊢
  obtain⟨rfl,rfl,h1,h2,h3⟩:=hI
  simp (disch:=omega) only [RR,hp,hf]
  refine⟨fun h4=>⟨by omega,by omega,fun h5=> ?_,fun h5=>⟨⟨by omega,by omega,h3.snoc (om.1 h5)⟩,by omega⟩⟩,fun h4=> ?_⟩
  · exact Or.inr ⟨by omega,by omega,bq.1 h5,h3⟩
  · exact Or.inl ⟨rfl,h3.le (by omega)⟩
theorem ZN {p:List aj×Unit→Bool} {f:List aj×Unit→Int×Unit} (G:aj→Prop) (hp:∀a,a.length<1000000000→p (a,())=true)
    (hf:∀a,a.length<1000000000→Idx a.length (fun i=>G (a.getD i.toNat default)) (f (a,())).1) (a:List aj) (ha:a.length<1000000000):
    IE (std 0) p f (a,()) (fun y=>y=(bp (¬All a.length (fun i=>¬G (a.getD i.toNat default))),())):=by
  have h1:=hf a ha
  dsimp only [IE,Alg.cl,Alg.bd,Alg.l1,Tup.q,Tup.o]
  simp (disch:=omega) only [RR,hp a ha]
  rw [show decide ((0:Int)≤(f (a,())).1)=bp (¬All a.length (fun i=>¬G (a.getD i.toNat default)))from ?_]
  rw [←Mh h1.ge];simp [bp]
def mOk (m:aj):Prop:=(1≤m.bK∧m.bK≤65535)∧m.atoms.length≤4∧Srt m.atoms
def aN (p:List aj):Prop:=All p.length (fun i=>mOk (p.getD i.toNat default)∧(0<i→dO (p.getD (i-1).toNat default).atoms (p.getD i.toNat default).atoms<0))∧p.length≤12∧aR p 200
  ∧All p.length (fun i=>¬(0< (p.getD i.toNat default).atoms.length∧(p.getD i.toNat default).atoms.getD 0 default<0))
theorem afL {p1:Int×Int×Int×Unit→Bool} {f1:Int×Int×Int×Unit→Bool×Unit} (hp1:∀a b c,p1 (a,b,c,())=true) (hf1:∀a b c,f1 (a,b,c,())=(inB a b c,()))
    {p2:List aj×Int×Unit→Bool} {f2:List aj×Int×Unit→Bool×Unit} (hp2:∀a n,Sh a→p2 (a,n,())=true) (hf2:∀a n,Sh a→f2 (a,n,())=(bp (aR a n),()))
    {p3:List Int×Unit→Bool} {f3:List Int×Unit→Bool×Unit} (hp3:∀a,a.length<1000000000→p3 (a,())=true) (hf3:∀a,a.length<1000000000→f3 (a,())=(bp (Srt a),()))
    {p4:List Int×List Int×Unit→Bool} {f4:List Int×List Int×Unit→Int×Unit} (hp4:∀a b,a.length<1000000000→p4 (a,b,())=true) (hf4:∀a b,a.length<1000000000→f4 (a,b,())=(dO a b,()))
    {p5:List aj×Unit→Bool} {f5:List aj×Unit→Bool×Unit} (hp5:∀a,a.length<1000000000→p5 (a,())=true) (hf5:∀a,a.length<1000000000→f5 (a,())=(bp (¬All a.length (fun i=>¬(0< (a.getD i.toNat default).atoms.length∧(a.getD i.toNat default).atoms.getD 0 default<0))),()))
    (a:List aj) (ha:Sh a):Px (std 0) p1 f1 p2 f2 p3 f3 p4 f4 p5 f5 (a,()) (fun y=>y=(bp (aN a),())):=by
  have hlen:=ha.1
  dsimp only [Px,Alg.cl,Alg.bd,Alg.l1,Tup.q,Tup.o]
  refine aA (fun(y:List aj×Int×Int×List aj×Unit)=>y.1=a∧y.2.1=a.length∧y.2.2.2.1=a∧0≤y.2.2.1∧y.2.2.1≤a.length∧All y.2.2.1 (fun i=>mOk (a.getD i.toNat default)∧(0<i→dO (a.getD (i-1).toNat default).atoms (a.getD i.toNat default).atoms<0))) (fun y=>(a.length-y.2.2.1).toNat) ⟨rfl,rfl,rfl,by simp,by simp,All.zero⟩ ?_
  rintro⟨(l:List aj),(m:Int),(i:Int),(l':List aj),⟨⟩⟩ hI
  dsimp only at hI ⊢
  obtain⟨rfl,rfl,rfl,h1,h2,h3⟩:=hI
  simp (disch:=omega) only [RR,hp1,hf1,hp2 l' _ ha,hf2 l' _ ha,hp5 l' hlen,hf5 l' hlen]
  refine⟨fun h4=> ?_,fun h4=> ?_⟩
  · simp (disch:=omega) only [RR,hp3 _ (ha.at _),hf3 _ (ha.at _),hp4 _ _ (ha.at _),hf4 _ _ (ha.at _),bq,om,inB]
    refine⟨by omega,by omega,by by_cases h:i≤0<;>simp [h]<;>omega,by omega,fun h5=> ?_,fun h5=>⟨⟨by omega,by omega,h3.snoc ?_⟩,by omega⟩⟩
    · rw [iY (fun h=> ?_)]
      have:=h.1 i h1 h4
      dsimp only [mOk]at this
      obtain⟨⟨h6,h7,h8⟩,h9⟩:=this
      rcases h5 with((h5 | h5) | h5) | ⟨h5,h10⟩
      · simp [-List.getD_eq_getElem?_getD]at h5;omega
      · omega
      · exact h5 h8
      · have:=h9 h5;omega
    · refine⟨⟨by omega,by omega,h5.1.2⟩,fun h6=> ?_⟩
      have:=h5.2;simp only [decide_eq_true h6,Bool.true_and,decide_eq_false_iff_not]at this;omega
  · unfold aN
    rw [show All (↑l'.length) (fun i=>mOk (l'.getD i.toNat default)∧(0<i→dO (l'.getD (i-1).toNat default).atoms (l'.getD i.toNat default).atoms<0))=True from eq_true (h3.le (by omega))]
    rw [true_and,Jh,Jh,Bool.and_assoc]
    refine congrArg (fun b=>(b,())) ?_
    congr 1
    · by_cases h:l'.length≤12<;>simp [bp,h]<;>omega
    · congr 1
      simp [bp]
def Mj (a b:aj):Int:=or2 (dO a.atoms b.atoms) (gP a.bK b.bK)
def Dc:List aj→List aj→Int
  | a::az,b::bs=>if Mj a b≠0 then Mj a b else Dc az bs
  | _,_=>0
def gW (a b:List aj):Int:=if gP a.length b.length≠0 then gP a.length b.length else Dc a b
theorem Df (a b:List aj) (i:Nat):(h1:i<a.length)→(h2:i<b.length)→Dc (a.drop i) (b.drop i)=if Mj a[i] b[i]≠0 then Mj a[i] b[i]else Dc (a.drop (i+1)) (b.drop (i+1)):=by
  intro h1 h2
  rw [List.drop_eq_getElem_cons h1,List.drop_eq_getElem_cons h2];rfl
theorem afM {p1:List Int×Unit→Bool} {f1:List Int×Unit→Int×Unit} (hp1:∀a b,p1 ([a,b],())=true) (hf1:∀a b,f1 ([a,b],())=(or2 a b,()))
    {p2:Int×Int×Unit→Bool} {f2:Int×Int×Unit→Int×Unit} (hp2:∀a b,p2 (a,b,())=true) (hf2:∀a b,f2 (a,b,())=(gP a b,()))
    {p4:List Int×List Int×Unit→Bool} {f4:List Int×List Int×Unit→Int×Unit} (hp4:∀a b,a.length<1000000000→p4 (a,b,())=true) (hf4:∀a b,a.length<1000000000→f4 (a,b,())=(dO a b,()))
    (a b:List aj) (ha:Sh a):Pz (std 0) p1 f1 p2 f2 p4 f4 (a,b,()) (fun y=>y=(gW a b,())):=by
  have hlen:=ha.1
  dsimp only [Pz,Alg.cl,Alg.bd,Alg.l1,Tup.q,Tup.o]
  simp (disch:=omega) only [RR,hp2,hf2]
  refine⟨fun h=>by rw [gW,if_pos h],fun h=> ?_⟩
  have hl:a.length=b.length:=by unfold gP at h;split at h<;>(try split at h)<;>omega
  rw [show gW a b=Dc a b by rw [gW,if_neg (by simp [h])]]
  refine aA (fun(y:List aj×Int×Int×List aj×Unit)=>y.1=a∧y.2.1=a.length∧y.2.2.2.1=b∧0≤y.2.2.1∧y.2.2.1≤a.length∧Dc a b=Dc (a.drop y.2.2.1.toNat) (b.drop y.2.2.1.toNat)) (fun y=>(a.length-y.2.2.1).toNat) ⟨rfl,rfl,rfl,by simp,by simp,by simp⟩ ?_
  rintro⟨(l:List aj),(m:Int),(i:Int),(l':List aj),⟨⟩⟩ hI
  dsimp only at hI ⊢
  obtain⟨rfl,rfl,rfl,h1,h2,h3⟩:=hI
  simp (disch:=omega) only [RR,hp1,hf1,hp4 _ _ (ha.at _),hf4 _ _ (ha.at _)]
  refine⟨fun h4=>⟨by omega,by omega,by omega,by omega,by omega,by omega,fun h5=> ?_,fun h5=>⟨⟨by omega,by omega,?_⟩,by omega⟩⟩,fun h4=> ?_⟩
  · rw [h3,Df _ _ _ (by omega) (by omega)]
    rw [getD_lt (by omega),getD_lt (by omega)]at h5 ⊢
    exact((if_pos (c:=Mj l[i.toNat] l'[i.toNat]≠0) h5).trans rfl).symm▸rfl
  · rw [h3,Df _ _ _ (by omega) (by omega)]
    rw [getD_lt (by omega),getD_lt (by omega)]at h5
    rw [if_neg (show¬(Mj l[i.toNat] l'[i.toNat]≠0)from fun h=>h h5),show(i+1).toNat=i.toNat+1 by omega]
  · rw [h3,List.drop_eq_nil_of_le (by omega)];rfl
theorem afN {p1:List aj×List aj×Unit→Bool} {f1:List aj×List aj×Unit→Int×Unit} (hp1:∀a b,Sh a→p1 (a,b,())=true) (hf1:∀a b,Sh a→f1 (a,b,())=(gW a b,())) (a b:List aj) (ha:Sh a):
    PK (std 0) p1 f1 (a,b,()) (fun y=>y=(decide (gW a b=0),())):=by
  dsimp only [PK,Alg.cl,Alg.bd,Alg.l1,Tup.q,Tup.o]
  simp (disch:=omega) only [RR,hp1 a b ha,hf1 a b ha]
end Go.TX.F
namespace Go.TX.F
open Go Go.AE Go.TX
theorem Ti (k:IntKind) (x y:Int):jP .and k x y=rZ .and k x y:=rfl
theorem Tj (k:IntKind) (x y:Int):jP .xor k x y=rZ .xor k x y:=rfl
theorem ZO (x:Int):rZ .and .i64 x 65535=x%65536:=by
  unfold rZ
  dsimp only
  rw [BitVec.toNat_and,BitVec.toNat_ofInt,BitVec.toNat_ofInt]
  have h1:((65535:Int)% ((2^IntKind.i64.bits:Nat):Int)).toNat=2^16-1:=by decide
  rw [h1,Nat.and_two_pow_sub_one_eq_mod]
  rw [w64 (by omega) (by omega)]
  have h2:((2^IntKind.i64.bits:Nat):Int)=18446744073709551616:=by decide
  rw [h2]
  omega
theorem afO (a:Int):Qs (std 0) (a,()) (fun y=>y=(a%65536,())):=by
  dsimp only [Qs,Alg.cl,Alg.bd,Alg.l1,Tup.q,Tup.o]
  simp (disch:=omega) only [RR,Ti,ZO]
def wdo (op a b:Int):Int:=if(0≤a∧a≤65535)∧(0≤b∧b≤65535)then
  (if op=1 then(a+b)%65536 else if op=2 then(a-b)%65536 else if op=3 then(a*b)%65536 else if op=4 then rZ .and .i64 a b else if op=5 then rZ .xor .i64 a b else 0)else 0
theorem dz {a b c:Int}:inB a b c=true↔(b≤a∧a≤c):=by simp [inB]
theorem nD {a b c:Int}:inB a b c=false↔¬(b≤a∧a≤c):=by rw [←dz,Bool.not_eq_true]
theorem afP {p1:Int×Unit→Bool} {f1:Int×Unit→Bool×Unit} (hp1:∀a,p1 (a,())=true) (hf1:∀a,f1 (a,())=(inB a 0 65535,()))
    {p2:Int×Unit→Bool} {f2:Int×Unit→Int×Unit} (hp2:∀a,p2 (a,())=true) (hf2:∀a,f2 (a,())=(a%65536,())) (op a b:Int):
    Qt (std 0) p1 f1 p2 f2 (op,a,b,()) (fun y=>y=(wdo op a b,())):=by
  dsimp only [Qt,Alg.cl,Alg.bd,Alg.l1,Tup.q,Tup.o]
  simp (disch:=omega) only [RR,hp1,hf1,hp2,hf2,Ti,Tj,dz,nD]
  by_cases ha:(0≤a∧a≤65535)∧(0≤b∧b≤65535)
  · have hm:0≤a*b∧a*b≤65535*65535:=⟨Int.mul_nonneg ha.1.1 ha.2.1,Int.mul_le_mul ha.1.2 ha.2.2 ha.2.1 (by omega)⟩
    rw [w64 (x:=a+b) (by omega) (by omega),w64 (x:=a-b) (by omega) (by omega),w64 (x:=a*b) (by omega) (by omega)]
    unfold wdo
    rw [if_pos ha]
    refine⟨fun h=>absurd h (by omega),fun _=>⟨fun h=> ?_,fun h=>⟨fun h1=> ?_,fun h1=>⟨fun h2=> ?_,fun h2=>⟨fun h3=> ?_,fun h3=>⟨fun h4=> ?_,fun h4=> ?_⟩⟩⟩⟩⟩⟩<;>(subst_vars;first | rfl | simp only [if_true,if_false, *])
  · refine⟨fun h=> ?_,fun h=>absurd h ?_⟩
    · unfold wdo;rw [if_neg ha]
    · exact ha
def dJ (n:Int):List aj:=if 1≤n∧n≤65535 then [⟨n,[]⟩]else []
theorem afQ {p1:Int×Int×Int×Unit→Bool} {f1:Int×Int×Int×Unit→Bool×Unit} (hp1:∀a b c,p1 (a,b,c,())=true) (hf1:∀a b c,f1 (a,b,c,())=(inB a b c,())) (a:Int):
    Qr (std 0) p1 f1 (a,()) (fun y=>y=(dJ a,())):=by
  dsimp only [Qr,Alg.cl,Alg.bd,Alg.l1,Tup.q,Tup.o]
  simp (disch:=omega) only [RR,hp1,hf1,dz,nD]
  unfold dJ
  exact⟨fun h=>by rw [if_neg (by omega)],fun h=>by rw [if_pos (by omega)]⟩
def fG (n:Int):List aj:=if 0≤n∧n≤199 then [⟨1,[n]⟩]else []
theorem afR {p1:Int×Int×Int×Unit→Bool} {f1:Int×Int×Int×Unit→Bool×Unit} (hp1:∀a b c,p1 (a,b,c,())=true) (hf1:∀a b c,f1 (a,b,c,())=(inB a b c,())) (a:Int):
    Qm (std 0) p1 f1 (a,()) (fun y=>y=(fG a,())):=by
  dsimp only [Qm,Alg.cl,Alg.bd,Alg.l1,Tup.q,Tup.o]
  simp (disch:=omega) only [RR,hp1,hf1,dz,nD]
  unfold fG
  exact⟨fun h=>by rw [if_neg (by omega)],fun h=>by rw [if_pos (by omega)]⟩
noncomputable def dQ (p:List aj):Int×Bool:=if bp (aN p)then(if p.length=0 then(0,true)else if p.length=1∧(p.getD 0 default).atoms.length=0 then((p.getD 0 default).bK,true)else(0,false))else(0,false)
theorem afS {p1:List aj×Unit→Bool} {f1:List aj×Unit→Bool×Unit} (hp1:∀a,Sh a→p1 (a,())=true) (hf1:∀a,Sh a→f1 (a,())=(bp (aN a),())) (a:List aj) (ha:Sh a):
    Py (std 0) p1 f1 (a,()) (fun y=>y=((dQ a).1,(dQ a).2,())):=by
  dsimp only [Py,Alg.cl,Alg.bd,Alg.l1,Tup.q,Tup.o]
  simp (disch:=omega) only [RR,hp1 a ha,hf1 a ha]
  unfold dQ
  refine⟨fun h=> ?_,fun h=>⟨fun h1=> ?_,fun h1=>⟨by omega,by omega,fun h2=>⟨by omega,by omega,?_⟩,fun h2=> ?_⟩⟩⟩
  · rw [if_neg (by simpa using h)]
  · rw [if_pos h,if_pos (by omega)]
  · have h3:=h2.2;rw [show Int.toNat 0=0 from rfl]at h3
    rw [if_pos h,if_neg (by omega),if_pos (show a.length=1∧(a.getD 0 default).atoms.length=0 by omega)];rfl
  · rw [if_pos h,if_neg (by omega),if_neg]
    intro h3
    rw [decide_eq_true (by omega),Bool.true_and,decide_eq_false_iff_not]at h2
    apply h2;rw [show Int.toNat 0=0 from rfl];omega
theorem afT (a:List Int) (ha:a.length≤1073741824):PD (std 0) (a,()) (fun y=>y=(a,())):=by
  dsimp only [PD,Alg.cl,Alg.bd,Alg.l1,Tup.q,Tup.o]
  simp (disch:=omega) only [RR]
  omega
theorem dP {α:Type} {l:List α} {i:Int} {d x:α} (h0:0≤i) (h:i<l.length) (e:x=l.getD i.toNat d):l.take i.toNat++ [x]=l.take (i+1).toNat:=by
  rw [e,getD_lt (by omega),show(i+1).toNat=i.toNat+1 by omega,List.take_succ_eq_append_getElem (by omega)]
theorem afU {p1:List Int×Unit→Bool} {f1:List Int×Unit→List Int×Unit} (hp1:∀a,a.length≤1073741824→p1 (a,())=true) (hf1:∀a,a.length≤1073741824→f1 (a,())=(a,())) (a:List aj) (ha:Sh a):
    PE (std 0) p1 f1 (a,()) (fun y=>y=(a,())):=by
  have hlen:=ha.1
  dsimp only [PE,Alg.cl,Alg.bd,Alg.l1,Tup.q,Tup.o]
  refine aA (fun(y:List aj×Int×Int×List aj×Unit)=>y.1=a∧y.2.1=a.length∧y.2.2.2.1=a.take y.2.2.1.toNat∧0≤y.2.2.1∧y.2.2.1≤a.length) (fun y=>(a.length-y.2.2.1).toNat) ⟨rfl,rfl,by simp,by simp,by simp⟩ ?_
  rintro⟨(l:List aj),(m:Int),(i:Int),(o:List aj),⟨⟩⟩ hI
  dsimp only at hI ⊢
  obtain⟨rfl,rfl,rfl,h1,h2⟩:=hI
  simp (disch:=first | omega | (have:=ha.at i.toNat;omega)) only [RR,hp1,hf1]
  have h3:=ha.at i.toNat
  refine⟨fun h4=>⟨by omega,by omega,?_,⟨dP h1 h4 rfl,by omega,by omega⟩,by omega⟩,fun h4=>by rw [List.take_of_length_le (by omega)]⟩
  have:=List.length_take_le' i.toNat l
  simp only [List.length_cons,List.length_nil];omega
def ShA (a:Atom):Prop:=Sh a.x∧Sh a.y
def ShT (t:List Atom):Prop:=t.length<1000000000∧∀a∈t,ShA a
theorem ShT.at {p:List Atom} (h:ShT p) (n:Nat):ShA (p.getD n default):=by
  by_cases h1:n<p.length
  · rw [getD_lt h1];exact h.2 _ (List.getElem_mem _)
  · simp only [List.getD,List.getElem?_eq_none (by omega:p.length≤n)]
    refine⟨⟨by decide,fun m hm=> ?_⟩,⟨by decide,fun m hm=> ?_⟩⟩<;>exact absurd hm (by simp [default,instInhabitedAtom.default])
theorem afV {p1:List aj×Unit→Bool} {f1:List aj×Unit→List aj×Unit} (hp1:∀a,Sh a→p1 (a,())=true) (hf1:∀a,Sh a→f1 (a,())=(a,())) (a:List Atom) (ha:ShT a):
    QH (std 0) p1 f1 (a,()) (fun y=>y=(a,())):=by
  have hlen:=ha.1
  dsimp only [QH,Alg.cl,Alg.bd,Alg.l1,Tup.q,Tup.o]
  refine aA (fun(y:List Atom×Int×Int×List Atom×Unit)=>y.1=a∧y.2.1=a.length∧y.2.2.2.1=a.take y.2.2.1.toNat∧0≤y.2.2.1∧y.2.2.1≤a.length) (fun y=>(a.length-y.2.2.1).toNat) ⟨rfl,rfl,by simp,by simp,by simp⟩ ?_
  rintro⟨(l:List Atom),(m:Int),(i:Int),(o:List Atom),⟨⟩⟩ hI
  dsimp only at hI ⊢
  obtain⟨rfl,rfl,rfl,h1,h2⟩:=hI
  simp (disch:=omega) only [RR,hp1 _ (ha.at _).1,hf1 _ (ha.at _).1,hp1 _ (ha.at _).2,hf1 _ (ha.at _).2]
  refine⟨fun h4=>⟨by omega,by omega,?_,⟨dP h1 h4 rfl,by omega,by omega⟩,by omega⟩,fun h4=>by rw [List.take_of_length_le (by omega)]⟩
  have:=List.length_take_le' i.toNat l
  simp only [List.length_cons,List.length_nil];omega
theorem afW {p4:List Int×List Int×Unit→Bool} {f4:List Int×List Int×Unit→Int×Unit} (hp4:∀a b,a.length<1000000000→p4 (a,b,())=true) (hf4:∀a b,a.length<1000000000→f4 (a,b,())=(dO a b,())) (a b:aj) (ha:a.atoms.length<1000000000):
    Qu (std 0) p4 f4 (a,b,()) (fun y=>y=(dO a.atoms b.atoms,())):=by
  dsimp only [Qu,Alg.cl,Alg.bd,Alg.l1,Tup.q,Tup.o]
  simp (disch:=omega) only [RR,hp4 a.atoms b.atoms ha,hf4 a.atoms b.atoms ha]
theorem afX (a:List Atom):Qk (std 0) (a,()) (fun y=>y=(a,())):=by
  dsimp only [Qk,Alg.cl,Alg.bd,Alg.l1,Tup.q,Tup.o]
  simp (disch:=omega) only [RR]
  refine⟨by omega,by omega,by omega,?_⟩
  rw [List.take_of_length_le (by omega)];rfl
def oM (a b:Atom):Bool:=decide (a.kind=b.kind)&&decide (a.k=b.k)&&decide (gW a.x b.x=0)&&decide (gW a.y b.y=0)
theorem afY {p1:List aj×List aj×Unit→Bool} {f1:List aj×List aj×Unit→Bool×Unit} (hp1:∀a b,Sh a→p1 (a,b,())=true) (hf1:∀a b,Sh a→f1 (a,b,())=(decide (gW a b=0),())) (a b:Atom) (ha:ShA a):
    P7 (std 0) p1 f1 (a,b,()) (fun y=>y=(oM a b,())):=by
  dsimp only [P7,Alg.cl,Alg.bd,Alg.l1,Tup.q,Tup.o]
  simp (disch:=omega) only [RR,hp1 a.x b.x ha.1,hf1 a.x b.x ha.1,hp1 a.y b.y ha.2,hf1 a.y b.y ha.2]
  rfl
theorem afZ {p1:Atom×Atom×Unit→Bool} {f1:Atom×Atom×Unit→Bool×Unit} (hp1:∀a b,ShA a→p1 (a,b,())=true) (hf1:∀a b,ShA a→f1 (a,b,())=(oM a b,())) (a b:Atom) (hb:ShA b):
    P8 (std 0) p1 f1 (a,b,()) (fun y=>y=(oM b a,b,())):=by
  dsimp only [P8,Alg.cl,Alg.bd,Alg.l1,Tup.q,Tup.o]
  simp (disch:=omega) only [RR,hp1 b a hb,hf1 b a hb]
noncomputable def idxOf (n:Int) (G:Int→Prop):Int:= @dite _ (∃r,Idx n G r) (Classical.propDecidable _) (fun h=>Classical.choose h) (fun _=> -1)
theorem Idx.uniq {n:Int} {G:Int→Prop} {r s:Int} (h:Idx n G r) (h':Idx n G s):r=s:=by
  rcases h with⟨h1,h2⟩ | ⟨h1,h2,h3,h4⟩<;>rcases h' with⟨g1,g2⟩ | ⟨g1,g2,g3,g4⟩
  · omega
  · exact absurd g3 (h2 s g1 g2)
  · exact absurd h3 (g2 r h1 h2)
  · by_cases h5:r<s
    · exact absurd h3 (g4 r h1 h5)
    · by_cases h6:s<r
      · exact absurd g3 (h4 s g1 h6)
      · omega
theorem Idx.eq {n:Int} {G:Int→Prop} {r:Int} (h:Idx n G r):r=idxOf n G:=by
  unfold idxOf
  have he:∃r,Idx n G r:=⟨r,h⟩
  rw [dif_pos he];exact h.uniq (Classical.choose_spec he)
theorem ZP {p:Atom×Atom×Unit→Bool} {f:Atom×Atom×Unit→Bool×Atom×Unit} (hp:∀a b,ShA b→p (a,b,())=true) (hf:∀a b,ShA b→f (a,b,())=(oM b a,b,())) (a:List Atom) (b:Atom) (ha:a.length<1000000000) (hb:ShA b):
    IK (std 0) p f (a,b,()) (fun y=>y=(idxOf a.length (fun i=>oM b (a.getD i.toNat default)=true),b,())):=by
  dsimp only [IK,Alg.cl,Alg.bd,Alg.l1,Tup.q,Tup.o]
  refine aA (fun(y:List Atom×Int×Int×Atom×Unit)=>y.1=a∧y.2.1=a.length∧y.2.2.2.1=b∧0≤y.2.2.1∧y.2.2.1≤a.length∧All y.2.2.1 (fun i=>¬oM b (a.getD i.toNat default)=true)) (fun y=>(a.length-y.2.2.1).toNat) ⟨rfl,rfl,rfl,by simp,by simp,All.zero⟩ ?_
  rintro⟨(l:List Atom),(m:Int),(i:Int),(b':Atom),⟨⟩⟩ hI
  dsimp only at hI ⊢
  obtain⟨rfl,rfl,rfl,h1,h2,h3⟩:=hI
  simp (disch:=omega) only [RR,hp _ _ hb,hf _ _ hb]
  refine⟨fun h4=>⟨by omega,by omega,fun h5=> ?_,fun h5=>⟨⟨by omega,by omega,h3.snoc (by simp only [h5];simp)⟩,by omega⟩⟩,fun h4=> ?_⟩
  · rw [←Idx.eq (Or.inr ⟨by omega,by omega,h5,h3⟩)]
  · rw [←Idx.eq (Or.inl ⟨rfl,h3.le (by omega)⟩)]
noncomputable def sZ (t:List Atom) (a:Atom):Int:=idxOf t.length (fun i=>oM a (t.getD i.toNat default)=true)
theorem af0 {p:List Atom×Atom×Unit→Bool} {f:List Atom×Atom×Unit→Int×Atom×Unit} (hp:∀a b,a.length<1000000000→ShA b→p (a,b,())=true)
    (hf:∀a b,a.length<1000000000→ShA b→f (a,b,())=(idxOf a.length (fun i=>oM b (a.getD i.toNat default)=true),b,())) (a:List Atom) (b:Atom) (ha:a.length<1000000000) (hb:ShA b):
    P9 (std 0) p f (a,b,()) (fun y=>y=(sZ a b,())):=by
  dsimp only [P9,Alg.cl,Alg.bd,Alg.l1,Tup.q,Tup.o]
  simp (disch:=omega) only [RR,hp a b ha hb,hf a b ha hb]
  rfl
def fO (a:Atom) (n:Int):Prop:=if a.kind=4 then(1≤a.k∧a.k≤5)∧aN a.x∧aN a.y∧aR a.x n∧aR a.y n else
  (a.x=[]∧a.y=[])∧((a.kind=1∧0≤a.k∧a.k≤3)∨(a.kind=2∨a.kind=3)∧0≤a.k∧a.k≤199)
theorem af2 {p1:Int×Int×Int×Unit→Bool} {f1:Int×Int×Int×Unit→Bool×Unit} (hp1:∀a b c,p1 (a,b,c,())=true) (hf1:∀a b c,f1 (a,b,c,())=(inB a b c,()))
    {p2:Int×Unit→Bool} {f2:Int×Unit→Bool×Unit} (hp2:∀a,p2 (a,())=true) (hf2:∀a,f2 (a,())=(inB a 1 5,()))
    {p3:List aj×Int×Unit→Bool} {f3:List aj×Int×Unit→Bool×Unit} (hp3:∀a n,Sh a→p3 (a,n,())=true) (hf3:∀a n,Sh a→f3 (a,n,())=(bp (aR a n),()))
    {p4:List aj×Unit→Bool} {f4:List aj×Unit→Bool×Unit} (hp4:∀a,Sh a→p4 (a,())=true) (hf4:∀a,Sh a→f4 (a,())=(bp (aN a),()))
    {p5:Int×Unit→Bool} {f5:Int×Unit→Bool×Unit} (hp5:∀a,p5 (a,())=true) (hf5:∀a,f5 (a,())=(inB a 0 3,())) (a:Atom) (n:Int) (ha:ShA a):
    P6 (std 0) p1 f1 p2 f2 p3 f3 p4 f4 p5 f5 (a,n,()) (fun y=>y=(bp (fO a n),())):=by
  obtain⟨hx,hy⟩:=ha
  have hx1:=hx.1
  have hy1:=hy.1
  dsimp only [P6,Alg.cl,Alg.bd,Alg.l1,Tup.q,Tup.o]
  simp (disch:=omega) only [RR,hp1,hf1,hp2,hf2,hp3 a.x n hx,hf3 a.x n hx,hp3 a.y n hy,hf3 a.y n hy,hp4 a.x hx,hf4 a.x hx,hp4 a.y hy,hf4 a.y hy,hp5,hf5]
  unfold fO
  refine⟨fun h=> ?_,fun h=>⟨fun h1=> ?_,fun h1=> ?_⟩⟩
  · rw [if_pos h]
    congr 1
    rw [Bool.eq_iff_iff,bq]
    simp only [Bool.and_eq_true,dz,bq,and_assoc]
  · rw [if_neg h,iY]
    rintro⟨⟨h2,h3⟩, -⟩
    rw [h2,h3]at h1;exact absurd h1 (by simp)
  · rw [if_neg h]
    have h2:a.x=[]:=List.eq_nil_of_length_eq_zero (by omega)
    have h3:a.y=[]:=List.eq_nil_of_length_eq_zero (by omega)
    congr 1
    rw [Bool.eq_iff_iff,bq]
    simp only [Bool.or_eq_true,Bool.and_eq_true,decide_eq_true_eq,dz,h2,h3,true_and]
def aI (t:List Atom):Prop:=All t.length (fun i=>fO (t.getD i.toNat default) i∧sZ t (t.getD i.toNat default)=i)∧t.length≤200
theorem af3 {p1:Atom×Int×Unit→Bool} {f1:Atom×Int×Unit→Bool×Unit} (hp1:∀a n,ShA a→p1 (a,n,())=true) (hf1:∀a n,ShA a→f1 (a,n,())=(bp (fO a n),()))
    {p2:List Atom×Atom×Unit→Bool} {f2:List Atom×Atom×Unit→Int×Unit} (hp2:∀a b,a.length<1000000000→ShA b→p2 (a,b,())=true) (hf2:∀a b,a.length<1000000000→ShA b→f2 (a,b,())=(sZ a b,())) (a:List Atom) (ha:ShT a):
    Qa (std 0) p1 f1 p2 f2 (a,()) (fun y=>y=(bp (aI a),())):=by
  have hlen:=ha.1
  dsimp only [Qa,Alg.cl,Alg.bd,Alg.l1,Tup.q,Tup.o]
  refine aA (fun(y:List Atom×Int×Int×List Atom×Unit)=>y.1=a∧y.2.1=a.length∧y.2.2.2.1=a∧0≤y.2.2.1∧y.2.2.1≤a.length∧All y.2.2.1 (fun i=>fO (a.getD i.toNat default) i∧sZ a (a.getD i.toNat default)=i)) (fun y=>(a.length-y.2.2.1).toNat) ⟨rfl,rfl,rfl,by simp,by simp,All.zero⟩ ?_
  rintro⟨(l:List Atom),(m:Int),(i:Int),(b':List Atom),⟨⟩⟩ hI
  dsimp only at hI ⊢
  obtain⟨rfl,rfl,rfl,h1,h2,h3⟩:=hI
  simp (disch:=omega) only [RR,hp1 _ _ (ha.at _),hf1 _ _ (ha.at _),hp2 _ _ ha.1 (ha.at _),hf2 _ _ ha.1 (ha.at _),bq,om]
  refine⟨fun h4=>⟨by omega,by omega,fun h5=> ?_,fun h5=>⟨⟨by omega,by omega,h3.snoc h5⟩,by omega⟩⟩,fun h4=> ?_⟩
  · rw [iY (fun h=> ?_)]
    have:=h.1 i h1 h4
    rcases h5 with h5 | h5
    · exact h5 this.1
    · exact h5 this.2
  · by_cases h5:b'.length≤200
    · rw [fJ (show aI b' from⟨h3.le (by omega),h5⟩),decide_eq_true (by omega)]
    · rw [iY (show¬aI b' from fun h=>h5 h.2),decide_eq_false (by omega)]
noncomputable def bD (t:List Atom) (a:Atom):List Atom×Int:=if 0≤sZ t a then(t,sZ t a)else @ite _ (¬fO a t.length∨t.length=200) (Classical.propDecidable _) (t, -1) (t++ [a],(t.length:Int))
theorem af4 {p1:Atom×Int×Unit→Bool} {f1:Atom×Int×Unit→Bool×Unit} (hp1:∀a n,ShA a→p1 (a,n,())=true) (hf1:∀a n,ShA a→f1 (a,n,())=(bp (fO a n),()))
    {p2:List Atom×Atom×Unit→Bool} {f2:List Atom×Atom×Unit→Int×Unit} (hp2:∀a b,a.length<1000000000→ShA b→p2 (a,b,())=true) (hf2:∀a b,a.length<1000000000→ShA b→f2 (a,b,())=(sZ a b,()))
    {p3:List Atom×Unit→Bool} {f3:List Atom×Unit→List Atom×Unit} (hp3:∀a,p3 (a,())=true) (hf3:∀a,f3 (a,())=(a,())) (t:List Atom) (a:Atom) (ht:t.length<1000000000) (ha:ShA a):
    Ql (std 0) p1 f1 p2 f2 p3 f3 (t,a,()) (fun y=>y=((bD t a).1,(bD t a).2,())):=by
  dsimp only [Ql,Alg.cl,Alg.bd,Alg.l1,Tup.q,Tup.o]
  simp (disch:=omega) only [RR,hp1 a t.length ha,hf1 a t.length ha,hp2 t a ht ha,hf2 t a ht ha,hp3,hf3,bq,om]
  unfold bD
  refine⟨fun h=>by rw [if_pos h],fun h=>⟨fun h1=> ?_,fun h1=>⟨?_,?_,?_⟩⟩⟩
  · rw [if_neg h,if_pos (by rcases h1 with h1 | h1;exact Or.inl h1;exact Or.inr (by omega))]
  · exact Or.inl (by simp)
  · simp only [List.length_cons,List.length_nil];omega
  · rw [if_neg h,if_neg (by rintro(h2 | h2);exact h2 h1.1;exact absurd h2 (by omega))]
end Go.TX.F
namespace Go.TX.F
open Go Go.AE Go.TX
theorem KE (a b:Int):gP b a= -gP a b:=by unfold gP;repeat' split<;>omega
theorem jD {a b:Int}:gP a b=0↔a=b:=by unfold gP;constructor<;>intro h<;>(repeat' split at*)<;>omega
theorem KF:∀a b:List Int,lK b a= -lK a b
  | [],[]=>rfl | [],_::_=>rfl | _::_,[]=>rfl
  | a::az,b::bs=>by
    simp only [lK,KE a b,KF az bs]
    split<;>split<;>omega
theorem KG:∀ {a b:List Int},lK a b=0→a=b
  | [],[],_=>rfl | [],_::_,h=>by simp [lK]at h
  | _::_,[],h=>by simp [lK]at h
  | a::az,b::bs,h=>by
    simp only [lK]at h
    split at h
    · exact absurd h (by assumption)
    · rename_i h1
      rw [jD.1 (Classical.not_not.1 h1),KG h]
theorem KH:∀a:List Int,lK a a=0
  | []=>rfl
  | a::az=>by simp only [lK,show gP a a=0 from jD.2 rfl];simp [KH az]
theorem Ji:∀ {a b c:List Int},lK a b≤0→lK b c≤0→lK a c≤0
  | [],_,[],_,_=>by simp [lK]
  | [],_,_::_,_,_=>by simp [lK]
  | _::_,[],_,h,_=>by simp [lK]at h
  | _::_,_::_,[],_,h=>by simp [lK]at h
  | a::az,b::bs,c::cs,h1,h2=>by
    have ih:= @Ji az bs cs
    simp only [lK]at h1 h2 ⊢
    unfold gP at h1 h2 ⊢
    repeat' split at h1
    all_goals (repeat' split at h2)
    all_goals (repeat' split)
    all_goals omega
theorem tq (a b:List Int):dO b a= -dO a b:=by
  unfold dO or2;rw [KE,KF];repeat' split<;>omega
theorem ku {a b:List Int}:dO a b=0↔a=b:=by
  constructor
  · intro h;unfold dO or2 at h
    split at h
    · exact absurd h (by assumption)
    · exact KG h
  · rintro rfl;unfold dO or2;rw [show gP (a.length:Int) a.length=0 from jD.2 rfl,KH];rfl
theorem zm {a b c:List Int} (h1:dO a b≤0) (h2:dO b c≤0):dO a c≤0:=by
  have ih:= @Ji a b c
  unfold dO or2 gP at*
  repeat' split at h1
  all_goals (repeat' split at h2)
  all_goals (repeat' split)
  all_goals omega
def le (x y:aj):Prop:=dO x.atoms y.atoms≤0
theorem le.trans {x y z:aj} (h1:le x y) (h2:le y z):le x z:=zm h1 h2
theorem tu {x y:aj} (h:¬dO y.atoms x.atoms<0):le x y:=by unfold le;rw [tq];omega
theorem le_of_lt {x y:aj} (h:dO x.atoms y.atoms<0):le x y:=by unfold le;omega
theorem le_refl (x:aj):le x x:=by unfold le;rw [ku.2 rfl];omega
theorem dS {x y z:aj} (h1:le x y) (h2:dO y.atoms z.atoms<0):dO x.atoms z.atoms<0:=by
  have h3:=zm h1 (le_of_lt h2)
  by_cases h:dO x.atoms z.atoms=0
  · have e:=ku.1 h
    unfold le at h1;rw [e,tq]at h1;omega
  · omega
theorem kC {x y z:aj} (h1:dO x.atoms y.atoms<0) (h2:le y z):dO x.atoms z.atoms<0:=by
  have h3:=zm (le_of_lt h1) h2
  by_cases h:dO x.atoms z.atoms=0
  · have e:=ku.1 h
    unfold le at h2;rw [←e,tq]at h2;omega
  · omega
theorem Mk (g:aj→Int) (x:aj):∀(d:List aj) (n:Nat) (h:n<d.length),((d.set n x).map g).sum=(d.map g).sum-g d[n]+g x
  | [],_,h=>absurd h (by simp)
  | a::d,0,h=>by simp;omega
  | a::d,n+1,h=>by
    have:=Mk g x d n (by simpa using h)
    simp only [List.set_cons_succ,List.map_cons,List.sum_cons,List.getElem_cons_succ];omega
structure Sm (d d':List aj):Prop where
  len:d'.length=d.length
  sum:∀g:aj→Int,(d'.map g).sum=(d.map g).sum
theorem Sm.refl (d:List aj):Sm d d:=⟨rfl,fun _=>rfl⟩
theorem Sm.trans {a b c:List aj} (h1:Sm a b) (h2:Sm b c):Sm a c:=⟨h2.1.trans h1.1,fun g=>(h2.2 g).trans (h1.2 g)⟩
theorem Sm.symm {a b:List aj} (h1:Sm a b):Sm b a:=⟨h1.1.symm,fun g=>(h1.2 g).symm⟩
theorem Ml (x:aj):∀d:List aj,0≤(d.map (fun y=>if y=x then(1:Int)else 0)).sum∧(0< (d.map (fun y=>if y=x then(1:Int)else 0)).sum↔x∈d)
  | []=>by simp
  | a::d=>by
    have:=Ml x d
    simp only [List.map_cons,List.sum_cons,List.mem_cons]
    by_cases h:a=x
    · rw [if_pos h];refine⟨by omega,⟨fun _=>Or.inl h.symm,fun _=>by omega⟩⟩
    · rw [if_neg h];refine⟨by omega,⟨fun h2=>Or.inr (this.2.1 (by omega)),fun h2=> ?_⟩⟩
      rcases h2 with h2 | h2
      · exact absurd h2.symm h
      · have:=this.2.2 h2;omega
theorem Sm.mem {a b:List aj} (h:Sm a b) {x:aj} (hx:x∈b):x∈a:=by
  rw [←(Ml x a).2,←h.2];exact(Ml x b).2.2 hx
theorem Sm.sh {a b:List aj} (h:Sm a b) (hs:Sh a):Sh b:=⟨by have:=hs.1;have:=h.1;omega,fun m hm=>hs.2 m (h.mem hm)⟩
def swp (d:List aj) (i j:Int):List aj:=(d.set i.toNat ((d).getD (j).toNat default)).set j.toNat ((d).getD (i).toNat default)
theorem aeV (d:List aj) (i j:Int):(swp d i j).length=d.length:=by simp [swp]
theorem at_set {d:List aj} {i j:Int} {x:aj} (h1:0≤i) (h2:i<d.length) (h3:0≤j):((d.set i.toNat x).getD (j).toNat default)=if j=i then x else((d).getD (j).toNat default):=by
  simp only [List.getD]
  by_cases h:j=i
  · subst h;rw [if_pos rfl,List.getElem?_set_self (by omega)];rfl
  · rw [if_neg h,List.getElem?_set_ne (by omega)]
theorem wQ {d:List aj} {i j k:Int} (h1:0≤i) (h2:i<d.length) (h3:0≤j) (h4:j<d.length) (h5:0≤k):((swp d i j).getD (k).toNat default)=if k=j then((d).getD (i).toNat default)else if k=i then((d).getD (j).toNat default)else((d).getD (k).toNat default):=by
  unfold swp
  rw [at_set h3 (by simp;omega) h5,at_set h1 h2 h5]
theorem Mq {d:List aj} {i j:Int} (h1:0≤i) (h2:i<d.length) (h3:0≤j) (h4:j<d.length):Sm d (swp d i j):=by
  refine⟨aeV d i j,fun g=> ?_⟩
  unfold swp
  rw [getD_lt (show i.toNat<d.length by omega),getD_lt (show j.toNat<d.length by omega),Mk g _ _ _ (by simp;omega),Mk g _ _ _ (by omega),List.getElem_set]
  split
  · rename_i h;have:i=j:=by omega
    subst this;omega
  · omega
def Swp (d d':List aj) (a b n:Int):Prop:=Sm d d'∧∀k,0≤k→((d').getD (k).toNat default)=if a≤k∧k<a+n then((d).getD (k+(b-a)).toNat default)else if b≤k∧k<b+n then((d).getD (k- (b-a)).toNat default)else((d).getD (k).toNat default)
theorem ZQ (a b n:Int) (d:List aj) (hl:d.length<1000000000) (h1:0≤a) (h2:0≤n) (h3:a+n≤b) (h4:b+n≤d.length):
    IV (std 0) (a,b,n,d,()) (fun y=>Swp d y.1 a b n):=by
  dsimp only [IV,Alg.cl,Alg.bd,Alg.l1,Tup.q,Tup.o]
  refine aA (fun(y:Int×Int×Int×Int×List aj×Unit)=>y.1=a∧y.2.1=b∧y.2.2.1=n∧0≤y.2.2.2.1∧y.2.2.2.1≤n∧Swp d y.2.2.2.2.1 a b y.2.2.2.1) (fun y=>(n-y.2.2.2.1).toNat)
    ⟨rfl,rfl,rfl,by simp,by simp;omega,Sm.refl d,fun k hk=>by dsimp only;rw [if_neg (by omega),if_neg (by omega)]⟩ ?_
  rintro⟨(a':Int),(b':Int),(n':Int),(i:Int),(e:List aj),⟨⟩⟩ hI
  dsimp only at hI ⊢
  obtain⟨rfl,rfl,rfl,h5,h6,h7,h8⟩:=hI
  have hle:=h7.1
  simp (disch:=omega) only [RR,List.length_set]
  refine⟨fun h9=> ?_,fun h9=> ?_⟩
  · have e1:(e.set (a'+i).toNat ((e).getD (b'+i).toNat default)).set (b'+i).toNat ((e).getD (a'+i).toNat default)=swp e (a'+i) (b'+i):=rfl
    rw [e1]
    refine⟨by omega,by omega,by omega,by omega,by omega,by omega,by omega,by omega,by omega,by omega,by omega,by omega,by omega,by omega,by omega,by omega,⟨by omega,by omega,h7.trans (Mq (by omega) (by omega) (by omega) (by omega)),fun k hk=> ?_⟩,by omega⟩
    rw [wQ (by omega) (by omega) (by omega) (by omega) hk]
    rw [h8 _ (by omega),h8 _ (by omega),h8 _ hk]
    repeat' split
    all_goals first | rfl | (exfalso;omega) | (congr 2;omega)
  · have:i=n':=by omega
    subst this;exact⟨h7,h8⟩
end Go.TX.F
namespace Go.TX.F
open Go Go.AE Go.TX
def Rot (d d':List aj) (a m b:Int):Prop:=Sm d d'∧∀k,0≤k→((d').getD (k).toNat default)=if a≤k∧k<a+(b-m)then((d).getD (k+(m-a)).toNat default)else if a+(b-m)≤k∧k<b then((d).getD (k- (b-m)).toNat default)else((d).getD (k).toNat default)
theorem ZR {p:Int×Int×Int×List aj×Unit→Bool} {f:Int×Int×Int×List aj×Unit→List aj×Unit}
    (hp:∀(a b n:Int) (d:List aj),d.length<1000000000→0≤a→0≤n→a+n≤b→b+n≤d.length→p (a,b,n,d,())=true) (hf:∀(a b n:Int) (d:List aj),d.length<1000000000→0≤a→0≤n→a+n≤b→b+n≤d.length→Swp d (f (a,b,n,d,())).1 a b n)
    (a m b:Int) (d:List aj) (hl:d.length<1000000000) (h1:0≤a) (h2:a<m) (h3:m<b) (h4:b≤d.length):
    IW (std 0) p f (a,m,b,d,()) (fun y=>Rot d y.1 a m b):=by
  dsimp only [IW,Alg.cl,Alg.bd,Alg.l1,Tup.q,Tup.o]
  simp (disch:=omega) only [RR]
  refine aA (fun(y:Int×Int×Int×List aj×Unit)=>y.1=m∧0<y.2.1∧0<y.2.2.1∧a≤m-y.2.1∧m+y.2.2.1≤b∧Sm d y.2.2.2.1∧
      ∀k,0≤k→(if a≤k∧k<a+(b-m)then((d).getD (k+(m-a)).toNat default)else if a+(b-m)≤k∧k<b then((d).getD (k- (b-m)).toNat default)else((d).getD (k).toNat default))
        =(if m-y.2.1≤k∧k<m-y.2.1+y.2.2.1 then((y.2.2.2.1).getD (k+y.2.1).toNat default)else if m-y.2.1+y.2.2.1≤k∧k<m+y.2.2.1 then((y.2.2.2.1).getD (k-y.2.2.1).toNat default)else((y.2.2.2.1).getD (k).toNat default))) (fun y=>(y.2.1+y.2.2.1).toNat)
    ⟨rfl,by simp;omega,by simp;omega,by simp;omega,by simp;omega,Sm.refl d,fun k hk=>by
      dsimp only;rw [show m- (m-a)=a by omega,show m+(b-m)=b by omega]⟩ ?_
  rintro⟨(m':Int),(i:Int),(j:Int),(e:List aj),⟨⟩⟩ hI
  dsimp only at hI ⊢
  obtain⟨rfl,h5,h6,h7,h8,h9,h10⟩:=hI
  have hle:=h9.1
  simp (disch:=omega) only [RR]
  refine⟨fun h11=>⟨fun h12=> ?_,fun h12=> ?_⟩,fun h11=> ?_⟩
  · obtain⟨s1,s2⟩:=hf (m'-i) m' j e (by omega) (by omega) (by omega) (by omega) (by omega)
    refine⟨hp _ _ _ _ (by omega) (by omega) (by omega) (by omega) (by omega),⟨by omega,by omega,by omega,by omega,h9.trans s1,fun k hk=> ?_⟩,by omega⟩
    rw [h10 k hk]
    generalize (f (m'-i,m',j,e,())).1=e' at s1 s2 ⊢
    by_cases c1:m'-i≤k∧k<m'-i+j
    · rw [if_pos c1,if_neg (by omega),if_neg (by omega),s2 k hk,if_pos c1];congr 2;omega
    · rw [if_neg c1]
      by_cases c2:m'-i+j≤k∧k<m'+j
      · rw [if_pos c2]
        by_cases c3:m'- (i-j)≤k∧k<m'- (i-j)+j
        · rw [if_pos c3,s2 _ (by omega),if_neg (by omega),if_pos (by omega)];congr 2;omega
        · rw [if_neg c3,if_pos (by omega),s2 _ (by omega),if_neg (by omega),if_neg (by omega)]
      · rw [if_neg c2,if_neg (by omega),if_neg (by omega),s2 _ hk,if_neg (by omega),if_neg (by omega)]
  · obtain⟨s1,s2⟩:=hf (m'-i) (m'+j-i) i e (by omega) (by omega) (by omega) (by omega) (by omega)
    refine⟨hp _ _ _ _ (by omega) (by omega) (by omega) (by omega) (by omega),⟨by omega,by omega,by omega,by omega,h9.trans s1,fun k hk=> ?_⟩,by omega⟩
    rw [h10 k hk]
    generalize (f (m'-i,m'+j-i,i,e,())).1=e' at s1 s2 ⊢
    by_cases c1:m'-i≤k∧k<m'-i+j
    · rw [if_pos c1]
      by_cases c3:k<m'-i+(j-i)
      · rw [if_pos (by omega),s2 _ (by omega)]
        by_cases c4:k<m'
        · by_cases c5:k+i<m'+j-i
          · rw [if_neg (by omega),if_neg (by omega)]
          · exfalso;omega
        · by_cases c5:k+i<m'+j-i
          · rw [if_neg (by omega),if_neg (by omega)]
          · exfalso;omega
      · by_cases c6:k<m'
        · rw [if_neg (by omega),if_pos (by omega),s2 _ (by omega),if_pos (by omega)];congr 2;omega
        · rw [if_neg (by omega),if_pos (by omega),s2 _ (by omega)]
          by_cases c7:k- (j-i)<m'
          · rw [if_pos (by omega)];congr 2;omega
          · exfalso;omega
    · rw [if_neg c1]
      by_cases c2:m'-i+j≤k∧k<m'+j
      · rw [if_pos c2,if_neg (by omega),if_neg (by omega),s2 _ hk,if_neg (by omega),if_pos (by omega)];congr 2;omega
      · rw [if_neg c2,if_neg (by omega),if_neg (by omega),s2 _ hk,if_neg (by omega),if_neg (by omega)]
  · have hij:i=j:=by omega
    subst hij
    obtain⟨s1,s2⟩:=hf (m'-i) m' i e (by omega) (by omega) (by omega) (by omega) (by omega)
    refine⟨hp _ _ _ _ (by omega) (by omega) (by omega) (by omega) (by omega),h9.trans s1,fun k hk=> ?_⟩
    rw [h10 k hk,s2 k hk]
    repeat' split
    all_goals first | rfl | (exfalso;omega) | (congr 2;omega)
def mY (d:List aj) (a b:Int):Prop:=∀p q,a≤p→p≤q→q<b→le ((d).getD (p).toNat default) ((d).getD (q).toNat default)
def Out (d d':List aj) (a b:Int):Prop:=∀k,0≤k→(k<a∨b≤k)→((d').getD (k).toNat default)=((d).getD (k).toNat default)
theorem ZT {p:aj×aj×Unit→Bool} {f:aj×aj×Unit→Int×Unit} (hp:∀x y,x.atoms.length<1000000000→p (x,y,())=true) (hf:∀x y,x.atoms.length<1000000000→f (x,y,())=(dO x.atoms y.atoms,()))
    (a b:Int) (d:List aj) (hd:Sh d) (h1:0≤a) (h2:a≤b) (h3:b≤d.length):
    IU (std 0) p f (a,b,d,()) (fun y=>Sm d y.1∧Out d y.1 a b∧mY y.1 a b):=by
  have hlen:=hd.1
  dsimp only [IU,Alg.cl,Alg.bd,Alg.l1,Tup.q,Tup.o]
  simp (disch:=omega) only [RR]
  refine aA (fun(y:Int×Int×Int×List aj×Unit)=>y.1=a∧y.2.1=b∧a+1≤y.2.2.1∧(y.2.2.1≤b∨y.2.2.1=a+1)∧Sm d y.2.2.2.1∧Out d y.2.2.2.1 a b∧mY y.2.2.2.1 a y.2.2.1) (fun y=>(b-y.2.2.1).toNat)
    ⟨rfl,rfl,by simp,Or.inr rfl,Sm.refl d,fun k _ _=>rfl,fun p q h1 h2 h3=>by dsimp only at h3;rw [show p=q by omega];exact le_refl _⟩ ?_
  rintro⟨(a':Int),(b':Int),(i:Int),(e:List aj),⟨⟩⟩ hI
  dsimp only at hI ⊢
  obtain⟨rfl,rfl,h4,h5,h6,h7,h8⟩:=hI
  have hle:=h6.1
  simp (disch:=omega) only [RR]
  refine⟨fun h9=> ?_,fun h9=>⟨h6,h7,fun p q g1 g2 g3=>h8 p q g1 g2 (by omega)⟩⟩
  refine aA (fun(y:Int×Int×Int×Int×List aj×Unit)=>y.1=a'∧y.2.1=b'∧y.2.2.1=i∧a'≤y.2.2.2.1∧y.2.2.2.1≤i∧Sm d y.2.2.2.2.1∧Out d y.2.2.2.2.1 a' b'
      ∧(∀p q,a'≤p→p≤q→q≤i→p≠y.2.2.2.1→q≠y.2.2.2.1→le ((y.2.2.2.2.1).getD (p).toNat default) ((y.2.2.2.2.1).getD (q).toNat default))∧(∀q,y.2.2.2.1<q→q≤i→le ((y.2.2.2.2.1).getD (y.2.2.2.1).toNat default) ((y.2.2.2.2.1).getD (q).toNat default))) (fun y=>y.2.2.2.1.toNat)
    ⟨rfl,rfl,rfl,by simp;omega,by simp,h6,h7,fun p q g1 g2 g3 g4 g5=>h8 p q g1 g2 (by dsimp only at g3 g5;omega),fun q g1 g2=>by dsimp only at g1;omega⟩ ?_
  rintro⟨(a'':Int),(b'':Int),(i':Int),(j:Int),(e':List aj),⟨⟩⟩ hI
  dsimp only at hI ⊢
  obtain⟨rfl,rfl,rfl,h10,h11,h12,h13,h14,h15⟩:=hI
  have hle':=h12.1
  have hs:=h12.sh hd
  simp (disch:=omega) only [RR,List.length_set,hp _ _ (hs.at _),hf _ _ (hs.at _)]
  have e1:(e'.set j.toNat ((e').getD (j-1).toNat default)).set (j-1).toNat ((e').getD (j).toNat default)=swp e' j (j-1):=rfl
  rw [e1]
  repeat' (refine And.intro ?_ ?_)
  all_goals try omega
  · intro ⟨g1,g2⟩
    repeat' (refine And.intro ?_ ?_)
    all_goals try omega
    · exact h12.trans (Mq (by omega) (by omega) (by omega) (by omega))
    · intro k hk hk2
      rw [wQ (by omega) (by omega) (by omega) (by omega) hk,if_neg (by omega),if_neg (by omega)]
      exact h13 k hk hk2
    · intro p q k1 k2 k3 k4 k5
      rw [wQ (by omega) (by omega) (by omega) (by omega) (by omega),if_neg k4,wQ (by omega) (by omega) (by omega) (by omega) (by omega),if_neg k5]
      by_cases c1:p=j
      · rw [if_pos c1]
        by_cases c2:q=j
        · rw [if_pos c2];exact le_refl _
        · rw [if_neg c2];exact h14 _ _ (by omega) (by omega) (by omega) (by omega) (by omega)
      · rw [if_neg c1]
        by_cases c2:q=j
        · rw [if_pos c2];exact h14 _ _ (by omega) (by omega) (by omega) (by omega) (by omega)
        · rw [if_neg c2];exact h14 _ _ (by omega) (by omega) (by omega) (by omega) (by omega)
    · intro q k1 k2
      rw [wQ (by omega) (by omega) (by omega) (by omega) (by omega),if_pos rfl,wQ (by omega) (by omega) (by omega) (by omega) (by omega),if_neg (by omega)]
      by_cases c2:q=j
      · rw [if_pos c2];exact le_of_lt g2
      · rw [if_neg c2];exact h15 q (by omega) k2
  · intro g
    refine⟨⟨by omega,by omega,h12,h13,?_⟩,by omega⟩
    have hj:a''<j→le ((e').getD (j-1).toNat default) ((e').getD (j).toNat default):=fun c=>tu (by
      simp only [decide_eq_true c,Bool.true_and,decide_eq_false_iff_not]at g;exact g)
    intro p q k1 k2 k3
    by_cases c1:p=j
    · subst c1
      by_cases c2:q=p
      · rw [c2];exact le_refl _
      · exact h15 q (by omega) (by omega)
    · by_cases c2:q=j
      · subst c2
        by_cases c3:p=q-1
        · rw [c3];exact hj (by omega)
        · exact(h14 p (q-1) k1 (by omega) (by omega) c1 (by omega)).trans (hj (by omega))
      · exact h14 p q k1 k2 (by omega) c1 c2
end Go.TX.F
namespace Go.TX.F
open Go Go.AE Go.TX
theorem half {x:Int} (h1:0≤x) (h2:x≤4000000000):IntKind.i64.wrap (jP .shr .u64 (IntKind.u64.wrap x) 1)=x/2:=by
  have e1:IntKind.u64.wrap x=x:=by simp [IntKind.wrap,IntKind.bits,IntKind.signed];omega
  have e2:jP .shr .u64 x 1=x/2:=by
    show x.fdiv (2^ (min (Int.toNat 1) IntKind.u64.bits))=x/2
    rw [show(2:Int)^ (min (Int.toNat 1) IntKind.u64.bits)=2 by decide,Int.fdiv_eq_ediv_of_nonneg _ (by omega)]
  rw [e1,e2,w64 (by omega) (by omega)]
structure Mrg (d d':List aj) (a b:Int):Prop where
  sm:Sm d d'
  out:Out d d' a b
  ins:∀k,a≤k→k<b→∃j,a≤j∧j<b∧((d').getD (k).toNat default)=((d).getD (j).toNat default)
  srt:mY d' a b
structure Dh (a m b:Int) (d:List aj):Prop where
  sh:Sh d
  h1:0≤a
  h2:a<m
  h3:m<b
  h4:b≤d.length
  s1:mY d a m
  s2:mY d m b
theorem Di {P Q:Prop} [Decidable P] [Decidable Q]:((decide P&&decide Q)=false)↔¬(P∧Q):=by by_cases h1:P<;>by_cases h2:Q<;>simp [h1,h2]
theorem QK {p2:Int×Int×Int×List aj×Unit→Bool} {f2:Int×Int×Int×List aj×Unit→List aj×Unit}
    (hp2:∀(a m b:Int) (d:List aj),d.length<1000000000→0≤a→a<m→m<b→b≤d.length→p2 (a,m,b,d,())=true) (hf2:∀(a m b:Int) (d:List aj),d.length<1000000000→0≤a→a<m→m<b→b≤d.length→Rot d (f2 (a,m,b,d,())).1 a m b)
    {p3:Int×Int×Int×List aj×Unit→Bool} {f3:Int×Int×Int×List aj×Unit→List aj×Unit}
    (K:Int) (hp3:∀(a m b:Int) (d:List aj),Dh a m b d→b-a<K→p3 (a,m,b,d,())=true) (hf3:∀(a m b:Int) (d:List aj),Dh a m b d→b-a<K→Mrg d (f3 (a,m,b,d,())).1 a b)
    (a m b mid i E:Int) (d:List aj) (hd:Dh a m b d) (hK:b-a≤K) (hmid:mid=(a+b)/2) (hE:E=mid+m-i)
    (b1:a≤i) (b2:i≤m) (b3:m≤E) (b4:E≤b) (b5:a<mid) (b6:mid<b)
    (fA:i=a∨E=b∨le ((d).getD (i-1).toNat default) ((d).getD (E).toNat default)) (fB:E=m∨i=m∨le ((d).getD (E-1).toNat default) ((d).getD (i).toNat default)):
      (i<m∧m<E→
          p2 (i,m,E,d,())=true∧
            (a<i∧i<mid→
                p3 (a,i,mid,(f2 (i,m,E,d,())).fst,())=true∧
                  (mid<E∧E<b→
                      p3 (mid,E,b,(f3 (a,i,mid,(f2 (i,m,E,d,())).fst,())).fst,())=true∧
                        Mrg d (f3 (mid,E,b,(f3 (a,i,mid,(f2 (i,m,E,d,())).fst,())).fst,())).fst
                          a b)∧
                    ((decide (mid<E)&&decide (E<b))=false→
                      Mrg d (f3 (a,i,mid,(f2 (i,m,E,d,())).fst,())).fst a b))∧
              ((decide (a<i)&&decide (i<mid))=false→
                (mid<E∧E<b→
                    p3 (mid,E,b,(f2 (i,m,E,d,())).fst,())=true∧
                      Mrg d (f3 (mid,E,b,(f2 (i,m,E,d,())).fst,())).fst a b)∧
                  ((decide (mid<E)&&decide (E<b))=false→
                    Mrg d (f2 (i,m,E,d,())).fst a b)))∧
        ((decide (i<m)&&decide (m<E))=false→
          (a<i∧i<mid→
              p3 (a,i,mid,d,())=true∧
                (mid<E∧E<b→
                    p3 (mid,E,b,(f3 (a,i,mid,d,())).fst,())=true∧
                      Mrg d (f3 (mid,E,b,(f3 (a,i,mid,d,())).fst,())).fst a b)∧
                  ((decide (mid<E)&&decide (E<b))=false→
                    Mrg d (f3 (a,i,mid,d,())).fst a b))∧
            ((decide (a<i)&&decide (i<mid))=false→
              (mid<E∧E<b→
                  p3 (mid,E,b,d,())=true∧Mrg d (f3 (mid,E,b,d,())).fst a b)∧
                ((decide (mid<E)&&decide (E<b))=false→Mrg d d a b))):=by
  obtain⟨hs,h1,h2,h3,h4,hA,hB⟩:=hd
  have hlen:=hs.1
  have cross:∀x y,((a≤x∧x<i)∨(m≤x∧x<E))→((i≤y∧y<m)∨(E≤y∧y<b))→le ((d).getD (x).toNat default) ((d).getD (y).toNat default):=by
    rintro x y (hx | hx) (hy | hy)
    · exact hA x y hx.1 (by omega) hy.2
    · rcases fA with fA | fA | fA
      · omega
      · omega
      · exact((hA x (i-1) hx.1 (by omega) (by omega)).trans fA).trans (hB E y b3 hy.1 hy.2)
    · rcases fB with fB | fB | fB
      · omega
      · omega
      · exact((hB x (E-1) hx.1 (by omega) (by omega)).trans fB).trans (hA i y b1 hy.1 hy.2)
    · exact hB x y hx.1 (by omega) hy.2
  have apm : ∀ e, Rot d e i m E → ∀ R : Prop, R = Mrg d e a b → (a < i ∧ i < mid →
              p3 (a,i,mid,e,())=true∧
                (mid<E∧E<b→
                    p3 (mid,E,b,(f3 (a,i,mid,e,())).fst,())=true∧
                      Mrg d (f3 (mid,E,b,(f3 (a,i,mid,e,())).fst,())).fst a b)∧
                  ((decide (mid<E)&&decide (E<b))=false→
                    Mrg d (f3 (a,i,mid,e,())).fst a b))∧
            ((decide (a<i)&&decide (i<mid))=false→
              (mid<E∧E<b→
                  p3 (mid,E,b,e,())=true∧Mrg d (f3 (mid,E,b,e,())).fst a b)∧
                ((decide (mid<E)&&decide (E<b))=false→R)):=by
    rintro e ⟨r1,r2⟩ R rfl
    have hle:=r1.1
    have hes:=r1.sh hs
    have lo:∀k,a≤k→k<mid→∃x,((a≤x∧x<i)∨(m≤x∧x<E))∧((e).getD (k).toNat default)=((d).getD (x).toNat default):=by
      intro k k1 k2
      rw [r2 k (by omega)]
      by_cases c1:i≤k∧k<i+(E-m)
      · rw [if_pos c1];exact⟨k+(m-i),by omega,rfl⟩
      · rw [if_neg c1,if_neg (by omega)];exact⟨k,by omega,rfl⟩
    have hi:∀k,mid≤k→k<b→∃x,((i≤x∧x<m)∨(E≤x∧x<b))∧((e).getD (k).toNat default)=((d).getD (x).toNat default):=by
      intro k k1 k2
      rw [r2 k (by omega),if_neg (by omega)]
      by_cases c1:i+(E-m)≤k∧k<E
      · rw [if_pos c1];exact⟨k- (E-m),by omega,rfl⟩
      · rw [if_neg c1];exact⟨k,by omega,rfl⟩
    have S1:mY e a i:=by
      intro p q q1 q2 q3
      rw [r2 p (by omega),r2 q (by omega),if_neg (by omega),if_neg (by omega),if_neg (by omega),if_neg (by omega)]
      exact hA p q q1 q2 (by omega)
    have S2:mY e i mid:=by
      intro p q q1 q2 q3
      rw [r2 p (by omega),r2 q (by omega),if_pos (by omega),if_pos (by omega)]
      exact hB _ _ (by omega) (by omega) (by omega)
    have S3:mY e mid E:=by
      intro p q q1 q2 q3
      rw [r2 p (by omega),r2 q (by omega),if_neg (by omega),if_pos (by omega),if_neg (by omega),if_pos (by omega)]
      exact hA _ _ (by omega) (by omega) (by omega)
    have S4:mY e E b:=by
      intro p q q1 q2 q3
      rw [r2 p (by omega),r2 q (by omega),if_neg (by omega),if_neg (by omega),if_neg (by omega),if_neg (by omega)]
      exact hB _ _ (by omega) (by omega) (by omega)
    have fin:∀e1 e2,Mrg e e1 a mid→Mrg e1 e2 mid b→Mrg d e2 a b:=by
      intro e1 e2 m1 m2
      refine⟨(r1.trans m1.sm).trans m2.sm,fun k k1 k2=> ?_,fun k k1 k2=> ?_,fun p q q1 q2 q3=> ?_⟩
      · rw [m2.out k k1 (by omega),m1.out k k1 (by omega),r2 k k1,if_neg (by omega),if_neg (by omega)]
      · by_cases c:k<mid
        · rw [m2.out k (by omega) (by omega)]
          obtain⟨j,j1,j2,j3⟩:=m1.ins k k1 c
          obtain⟨x,x1,x2⟩:=lo j j1 j2
          rw [j3,x2];exact⟨x,by omega,by omega,rfl⟩
        · obtain⟨j,j1,j2,j3⟩:=m2.ins k (by omega) k2
          rw [j3,m1.out j (by omega) (by omega)]
          obtain⟨x,x1,x2⟩:=hi j j1 j2
          rw [x2];exact⟨x,by omega,by omega,rfl⟩
      · by_cases c:q<mid
        · rw [m2.out p (by omega) (by omega),m2.out q (by omega) (by omega)];exact m1.srt p q q1 q2 c
        · by_cases c2:mid≤p
          · exact m2.srt p q c2 q2 q3
          · rw [m2.out p (by omega) (by omega)]
            obtain⟨j,j1,j2,j3⟩:=m1.ins p q1 (by omega)
            obtain⟨x,x1,x2⟩:=lo j j1 j2
            obtain⟨j',j1',j2',j3'⟩:=m2.ins q (by omega) q3
            obtain⟨x',x1',x2'⟩:=hi j' j1' j2'
            rw [j3,x2,j3',m1.out j' (by omega) (by omega),x2']
            exact cross x x' x1 x1'
    have triv:∀e' a' b',mY e' a' b'→Mrg e' e' a' b':=fun e' a' b' h=>⟨Sm.refl _,fun _ _ _=>rfl,fun k k1 k2=>⟨k,k1,k2,rfl⟩,h⟩
    have last : ∀ e1, Mrg e e1 a mid → (mid < E ∧ E < b →
                    p3 (mid,E,b,e1,())=true∧
                      Mrg d (f3 (mid,E,b,e1,())).fst a b)∧
                  ((decide (mid<E)&&decide (E<b))=false→
                    Mrg d e1 a b):=by
      intro e1 m1
      have hle1:=m1.sm.1
      have O:∀a' b',mid≤a'→b'≤b→mY e a' b'→mY e1 a' b':=fun a' b' g1 g2 g p q q1 q2 q3=>by
        rw [m1.out p (by omega) (by omega),m1.out q (by omega) (by omega)];exact g p q q1 q2 q3
      refine⟨fun c=> ?_,fun c=> ?_⟩
      · have pre:Dh mid E b e1:=⟨m1.sm.sh hes,by omega,c.1,c.2,by omega,O _ _ (by omega) (by omega) S3,O _ _ (by omega) (by omega) S4⟩
        exact⟨hp3 _ _ _ _ pre (by omega),fin _ _ m1 (hf3 _ _ _ _ pre (by omega))⟩
      · rw [Di]at c
        refine fin _ _ m1 (triv _ _ _ ?_)
        by_cases c2:mid<E
        · have:E=b:=by omega
          subst this;exact O _ _ (by omega) (by omega) S3
        · have:E=mid:=by omega
          rw [this]at S4;exact O _ _ (by omega) (by omega) S4
    refine⟨fun c=> ?_,fun c=> ?_⟩
    · have pre:Dh a i mid e:=⟨hes,by omega,c.1,c.2,by omega,S1,S2⟩
      exact⟨hp3 _ _ _ _ pre (by omega),last _ (hf3 _ _ _ _ pre (by omega))⟩
    · rw [Di]at c
      refine last e (triv _ _ _ ?_)
      by_cases c2:a<i
      · have:i=mid:=by omega
        rw [←this];exact S1
      · have:i=a:=by omega
        rw [this]at S2;exact S2
  refine⟨fun c=>⟨hp2 _ _ _ _ hlen (by omega) c.1 c.2 (by omega),apm _ (hf2 _ _ _ _ hlen (by omega) c.1 c.2 (by omega)) _ rfl⟩,fun c=>apm d ?_ _ rfl⟩
  rw [Di]at c
  refine⟨Sm.refl _,fun k k1=> ?_⟩
  repeat' split
  all_goals first | rfl | (exfalso;omega) | (congr 2;omega)
theorem alL {p:aj×aj×Unit→Bool} {f:aj×aj×Unit→Int×Unit} (hp:∀x y,x.atoms.length<1000000000→p (x,y,())=true) (hf:∀x y,x.atoms.length<1000000000→f (x,y,())=(dO x.atoms y.atoms,()))
    {p2:Int×Int×Int×List aj×Unit→Bool} {f2:Int×Int×Int×List aj×Unit→List aj×Unit}
    (hp2:∀(a m b:Int) (d:List aj),d.length<1000000000→0≤a→a<m→m<b→b≤d.length→p2 (a,m,b,d,())=true) (hf2:∀(a m b:Int) (d:List aj),d.length<1000000000→0≤a→a<m→m<b→b≤d.length→Rot d (f2 (a,m,b,d,())).1 a m b)
    {p3:Int×Int×Int×List aj×Unit→Bool} {f3:Int×Int×Int×List aj×Unit→List aj×Unit}
    (K:Int) (hp3:∀(a m b:Int) (d:List aj),Dh a m b d→b-a<K→p3 (a,m,b,d,())=true) (hf3:∀(a m b:Int) (d:List aj),Dh a m b d→b-a<K→Mrg d (f3 (a,m,b,d,())).1 a b)
    (a m b:Int) (d:List aj) (hd:Dh a m b d) (hK:b-a≤K):
    IX (std 0) p f p2 f2 p3 f3 (a,m,b,d,()) (fun y=>Mrg d y.1 a b):=by
  obtain⟨hs,h1,h2,h3,h4,hA,hB⟩:=hd
  have hlen:=hs.1
  dsimp only [IX,Alg.cl,Alg.bd,Alg.l1,Tup.q,Tup.o]
  simp (disch:=omega) only [RR]
  refine⟨fun h5=> ?_,fun h5=>⟨fun h6=> ?_,fun h6=> ?_⟩⟩
  ·
    have hm:m=a+1:=by omega
    subst hm
    refine aA (fun(y:Int×Int×Int×List aj×Unit)=>y.1=a∧y.2.2.2.1=d∧a+1≤y.2.1∧y.2.1≤y.2.2.1∧y.2.2.1≤b∧(∀q,a+1≤q→q<y.2.1→dO ((d).getD (q).toNat default).atoms ((d).getD (a).toNat default).atoms<0)∧(∀q,y.2.2.1≤q→q<b→¬dO ((d).getD (q).toNat default).atoms ((d).getD (a).toNat default).atoms<0)) (fun y=>(y.2.2.1-y.2.1).toNat)
      ⟨rfl,rfl,by simp,by simp;omega,by simp,fun q g1 g2=>by dsimp only at g2;omega,fun q g1 g2=>by dsimp only at g1;omega⟩ ?_
    rintro⟨(a':Int),(i:Int),(j:Int),(d':List aj),⟨⟩⟩ hI
    dsimp only at hI ⊢
    obtain⟨rfl,rfl,g1,g2,g3,g4,g5⟩:=hI
    simp (disch:=omega) only [RR,half,hp _ _ (hs.at _),hf _ _ (hs.at _)]
    refine⟨fun g6=>⟨by omega,by omega,by omega,by omega,by omega,by omega,by omega,by omega,by omega,fun g7=>⟨⟨by omega,by omega,by omega,fun q k1 k2=> ?_,g5⟩,by omega⟩,fun g7=>⟨⟨by omega,by omega,by omega,g4,fun q k1 k2=> ?_⟩,by omega⟩⟩,fun g6=> ?_⟩
    · exact dS (hB q ((i+j)/2) k1 (by omega) (by omega)) g7
    · intro g8;exact g7 (dS (hB ((i+j)/2) q (by omega) (by omega) k2) g8)
    have hij:i=j:=by omega
    subst hij
    refine aA (fun(y:Int×Int×List aj×Unit)=>y.1=i∧a'≤y.2.1∧y.2.1≤i-1∧Sm d' y.2.2.1∧(∀k,0≤k→((y.2.2.1).getD (k).toNat default)=if a'≤k∧k<y.2.1 then((d').getD (k+1).toNat default)else if k=y.2.1 then((d').getD (a').toNat default)else((d').getD (k).toNat default))) (fun y=>(i-y.2.1).toNat)
      ⟨rfl,by simp,by simp;omega,Sm.refl _,fun k hk=>by dsimp only;rw [if_neg (by omega)];split;(· congr 2);(· rfl)⟩ ?_
    rintro⟨(i':Int),(k:Int),(e:List aj),⟨⟩⟩ hI
    dsimp only at hI ⊢
    obtain⟨rfl,k1,k2,k3,k4⟩:=hI
    have hle:=k3.1
    simp (disch:=omega) only [RR,List.length_set]
    have e1:(e.set k.toNat ((e).getD (k+1).toNat default)).set (k+1).toNat ((e).getD (k).toNat default)=swp e k (k+1):=rfl
    rw [e1]
    refine⟨fun g7=>⟨by omega,by omega,by omega,by omega,by omega,by omega,by omega,by omega,by omega,by omega,by omega,by omega,by omega,by omega,by omega,by omega,⟨by omega,by omega,k3.trans (Mq (by omega) (by omega) (by omega) (by omega)),fun q hq=> ?_⟩,by omega⟩,fun g7=> ?_⟩
    · rw [wQ (by omega) (by omega) (by omega) (by omega) hq,k4 _ (by omega),k4 _ (by omega),k4 _ hq]
      repeat' split
      all_goals first | rfl | (exfalso;omega) | (congr 2;omega)
    · have hk:k=i'-1:=by omega
      subst hk
      refine⟨k3,fun q hq hq2=> ?_,fun q hq hq2=> ?_,fun q r q1 q2 q3=> ?_⟩
      · rw [k4 q hq,if_neg (by omega),if_neg (by omega)]
      · rw [k4 q (by omega)]
        repeat' split
        · exact⟨q+1,by omega,by omega,rfl⟩
        · exact⟨a',by omega,by omega,rfl⟩
        · exact⟨q,by omega,by omega,rfl⟩
      · rw [k4 q (by omega),k4 r (by omega)]
        by_cases c1:a'≤q∧q<i'-1
        · rw [if_pos c1]
          by_cases c2:a'≤r∧r<i'-1
          · rw [if_pos c2];exact hB _ _ (by omega) (by omega) (by omega)
          · rw [if_neg c2]
            by_cases c3:r=i'-1
            · rw [if_pos c3];exact le_of_lt (g4 _ (by omega) (by omega))
            · rw [if_neg c3];exact hB _ _ (by omega) (by omega) (by omega)
        · rw [if_neg c1,if_neg (by omega:¬(a'≤r∧r<i'-1))]
          by_cases c3:q=i'-1
          · rw [if_pos c3]
            by_cases c4:r=i'-1
            · rw [if_pos c4];exact le_refl _
            · rw [if_neg c4];exact tu (g5 r (by omega) (by omega))
          · rw [if_neg c3,if_neg (by omega)];exact hB _ _ (by omega) (by omega) (by omega)
  ·
    have hm:b=m+1:=by omega
    subst hm
    refine aA (fun(y:Int×Int×Int×List aj×Unit)=>y.1=m∧y.2.2.2.1=d∧a≤y.2.1∧y.2.1≤y.2.2.1∧y.2.2.1≤m∧(∀q,a≤q→q<y.2.1→¬dO ((d).getD (m).toNat default).atoms ((d).getD (q).toNat default).atoms<0)∧(∀q,y.2.2.1≤q→q<m→dO ((d).getD (m).toNat default).atoms ((d).getD (q).toNat default).atoms<0)) (fun y=>(y.2.2.1-y.2.1).toNat)
      ⟨rfl,rfl,by simp,by simp;omega,by simp,fun q g1 g2=>by dsimp only at g2;omega,fun q g1 g2=>by dsimp only at g1;omega⟩ ?_
    rintro⟨(m':Int),(i:Int),(j:Int),(d':List aj),⟨⟩⟩ hI
    dsimp only at hI ⊢
    obtain⟨rfl,rfl,g1,g2,g3,g4,g5⟩:=hI
    simp (disch:=omega) only [RR,half,hp _ _ (hs.at _),hf _ _ (hs.at _)]
    refine⟨fun g6=>⟨by omega,by omega,by omega,by omega,by omega,by omega,by omega,by omega,by omega,fun g7=>⟨⟨by omega,by omega,by omega,fun q k1 k2=> ?_,g5⟩,by omega⟩,fun g7=>⟨⟨by omega,by omega,by omega,g4,fun q k1 k2=> ?_⟩,by omega⟩⟩,fun g6=> ?_⟩
    · intro g8
      have:=hA q ((i+j)/2) k1 (by omega) (by omega)
      apply g7
      have h7:=kC g8 this
      exact h7
    · exact kC g7 (hA ((i+j)/2) q (by omega) (by omega) k2)
    have hij:i=j:=by omega
    subst hij
    refine aA (fun(y:Int×Int×List aj×Unit)=>y.1=i∧i≤y.2.1∧y.2.1≤m'∧Sm d' y.2.2.1∧(∀k,0≤k→((y.2.2.1).getD (k).toNat default)=if y.2.1<k∧k≤m' then((d').getD (k-1).toNat default)else if k=y.2.1 then((d').getD (m').toNat default)else((d').getD (k).toNat default))) (fun y=>(y.2.1-i).toNat)
      ⟨rfl,by simp;omega,by simp,Sm.refl _,fun k hk=>by dsimp only;rw [if_neg (by omega)];split;(· congr 2);(· rfl)⟩ ?_
    rintro⟨(i':Int),(k:Int),(e:List aj),⟨⟩⟩ hI
    dsimp only at hI ⊢
    obtain⟨rfl,k1,k2,k3,k4⟩:=hI
    have hle:=k3.1
    simp (disch:=omega) only [RR,List.length_set]
    have e1:(e.set k.toNat ((e).getD (k-1).toNat default)).set (k-1).toNat ((e).getD (k).toNat default)=swp e k (k-1):=rfl
    rw [e1]
    refine⟨fun g7=>⟨by omega,by omega,by omega,by omega,by omega,by omega,by omega,by omega,by omega,by omega,by omega,by omega,by omega,by omega,by omega,by omega,⟨by omega,by omega,k3.trans (Mq (by omega) (by omega) (by omega) (by omega)),fun q hq=> ?_⟩,by omega⟩,fun g7=> ?_⟩
    · rw [wQ (by omega) (by omega) (by omega) (by omega) hq,k4 _ (by omega),k4 _ (by omega),k4 _ hq]
      repeat' split
      all_goals first | rfl | (exfalso;omega) | (congr 2;omega)
    · have hk:k=i':=by omega
      subst hk
      refine⟨k3,fun q hq hq2=> ?_,fun q hq hq2=> ?_,fun q r q1 q2 q3=> ?_⟩
      · rw [k4 q hq,if_neg (by omega),if_neg (by omega)]
      · rw [k4 q (by omega)]
        repeat' split
        · exact⟨q-1,by omega,by omega,rfl⟩
        · exact⟨m',by omega,by omega,rfl⟩
        · exact⟨q,by omega,by omega,rfl⟩
      · rw [k4 q (by omega),k4 r (by omega)]
        by_cases c1:k<q∧q≤m'
        · rw [if_pos c1,if_pos (by omega)];exact hA _ _ (by omega) (by omega) (by omega)
        · rw [if_neg c1]
          by_cases c3:q=k
          · rw [if_pos c3]
            by_cases c2:k<r∧r≤m'
            · rw [if_pos c2];exact le_of_lt (g5 _ (by omega) (by omega))
            · rw [if_neg c2,if_pos (by omega)];exact le_refl _
          · rw [if_neg c3]
            by_cases c2:k<r∧r≤m'
            · rw [if_pos c2];exact hA _ _ (by omega) (by omega) (by omega)
            · rw [if_neg c2]
              by_cases c4:r=k
              · rw [if_pos c4];exact tu (g4 _ (by omega) (by omega))
              · rw [if_neg c4];exact hA _ _ (by omega) (by omega) (by omega)
  ·
    simp (disch:=omega) only [RR,half]
    refine⟨by omega,fun h7=> ?_,fun h7=> ?_⟩
    · refine aA (fun(y:Int×Int×Int×Int×Int×Int×Int×Int×List aj×Unit)=>y.1=a∧y.2.1=m∧y.2.2.1=b∧y.2.2.2.1=(a+b)/2∧y.2.2.2.2.1=(a+b)/2+m∧y.2.2.2.2.2.2.2.1=(a+b)/2+m-1∧y.2.2.2.2.2.2.2.2.1=d∧(a+b)/2+m-b≤y.2.2.2.2.2.1∧y.2.2.2.2.2.1≤y.2.2.2.2.2.2.1∧y.2.2.2.2.2.2.1≤(a+b)/2
          ∧(∀q,(a+b)/2+m-b≤q→q<y.2.2.2.2.2.1→¬dO ((d).getD ((a+b)/2+m-1-q).toNat default).atoms ((d).getD (q).toNat default).atoms<0)∧(∀q,y.2.2.2.2.2.2.1≤q→q< (a+b)/2→dO ((d).getD ((a+b)/2+m-1-q).toNat default).atoms ((d).getD (q).toNat default).atoms<0)) (fun y=>(y.2.2.2.2.2.2.1-y.2.2.2.2.2.1).toNat)
        ⟨rfl,rfl,rfl,rfl,rfl,rfl,rfl,by simp,by simp;omega,by simp,fun q g1 g2=>by dsimp only at g2;omega,fun q g1 g2=>by dsimp only at g1;omega⟩ ?_
      rintro⟨(a':Int),(m':Int),(b':Int),(mid:Int),(n:Int),(i:Int),(j:Int),(r:Int),(d':List aj),⟨⟩⟩ hI
      dsimp only at hI ⊢
      obtain⟨rfl,rfl,rfl,hmid,hn,hr,rfl,g1,g2,g3,g4,g5⟩:=hI
      rw [←hmid]at g1 g3 g4 g5 h7
      simp (disch:=omega) only [RR,half,hp _ _ (hs.at _),hf _ _ (hs.at _)]
      refine⟨fun g6=>⟨by omega,by omega,by omega,by omega,by omega,by omega,by omega,by omega,by omega,fun g7=>⟨⟨hmid,hn,hr,by omega,by omega,by omega,fun q k1 k2=> ?_,by rw [←hmid];exact g5⟩,by omega⟩,fun g7=>⟨⟨hmid,hn,hr,by omega,by omega,by omega,by rw [←hmid];exact g4,fun q k1 k2=> ?_⟩,by omega⟩⟩,fun g6=> ?_⟩
      · rw [←hmid]at k1 ⊢
        intro g8
        apply g7
        rw [hr,←hmid]
        exact dS (hB _ _ (by omega) (by omega) (by omega)) (kC g8 (hA _ _ (by omega) (by omega) (by omega)))
      · rw [←hmid]at k2 ⊢
        rw [hr,←hmid]at g7
        exact dS (hB _ _ (by omega) (by omega) (by omega)) (kC g7 (hA _ _ (by omega) (by omega) (by omega)))
      · have hij:i=j:=by omega
        subst hij
        refine QK hp2 hf2 K hp3 hf3 a' m' b' mid i (n-i) d' ⟨hs,h1,h2,h3,h4,hA,hB⟩ hK hmid (by omega) (by omega) (by omega) (by omega) (by omega) (by omega) (by omega) ?_ ?_
        · by_cases c:i=mid+m'-b'
          · first | exact Or.inl (by omega) | exact Or.inr (Or.inl (by omega))
          · refine Or.inr (Or.inr ?_)
            have:=g4 (i-1) (by omega) (by omega)
            rw [show mid+m'-1- (i-1)=n-i by omega]at this
            exact tu this
        · by_cases c:i=mid
          · first | exact Or.inl (by omega) | exact Or.inr (Or.inl (by omega))
          · refine Or.inr (Or.inr ?_)
            have:=g5 i (by omega) (by omega)
            rw [show mid+m'-1-i=n-i-1 by omega]at this
            exact le_of_lt this
    · refine aA (fun(y:Int×Int×Int×Int×Int×Int×Int×Int×List aj×Unit)=>y.1=a∧y.2.1=m∧y.2.2.1=b∧y.2.2.2.1=(a+b)/2∧y.2.2.2.2.1=(a+b)/2+m∧y.2.2.2.2.2.2.2.1=(a+b)/2+m-1∧y.2.2.2.2.2.2.2.2.1=d∧a≤y.2.2.2.2.2.1∧y.2.2.2.2.2.1≤y.2.2.2.2.2.2.1∧y.2.2.2.2.2.2.1≤m
          ∧(∀q,a≤q→q<y.2.2.2.2.2.1→¬dO ((d).getD ((a+b)/2+m-1-q).toNat default).atoms ((d).getD (q).toNat default).atoms<0)∧(∀q,y.2.2.2.2.2.2.1≤q→q<m→dO ((d).getD ((a+b)/2+m-1-q).toNat default).atoms ((d).getD (q).toNat default).atoms<0)) (fun y=>(y.2.2.2.2.2.2.1-y.2.2.2.2.2.1).toNat)
        ⟨rfl,rfl,rfl,rfl,rfl,rfl,rfl,by simp,by simp;omega,by simp,fun q g1 g2=>by dsimp only at g2;omega,fun q g1 g2=>by dsimp only at g1;omega⟩ ?_
      rintro⟨(a':Int),(m':Int),(b':Int),(mid:Int),(n:Int),(i:Int),(j:Int),(r:Int),(d':List aj),⟨⟩⟩ hI
      dsimp only at hI ⊢
      obtain⟨rfl,rfl,rfl,hmid,hn,hr,rfl,g1,g2,g3,g4,g5⟩:=hI
      rw [←hmid]at g4 g5 h7
      simp (disch:=omega) only [RR,half,hp _ _ (hs.at _),hf _ _ (hs.at _)]
      refine⟨fun g6=>⟨by omega,by omega,by omega,by omega,by omega,by omega,by omega,by omega,by omega,fun g7=>⟨⟨hmid,hn,hr,by omega,by omega,by omega,fun q k1 k2=> ?_,by rw [←hmid];exact g5⟩,by omega⟩,fun g7=>⟨⟨hmid,hn,hr,by omega,by omega,by omega,by rw [←hmid];exact g4,fun q k1 k2=> ?_⟩,by omega⟩⟩,fun g6=> ?_⟩
      · rw [←hmid]
        intro g8
        apply g7
        rw [hr,←hmid]
        exact dS (hB _ _ (by omega) (by omega) (by omega)) (kC g8 (hA _ _ (by omega) (by omega) (by omega)))
      · rw [←hmid]
        rw [hr,←hmid]at g7
        exact dS (hB _ _ (by omega) (by omega) (by omega)) (kC g7 (hA _ _ (by omega) (by omega) (by omega)))
      · have hij:i=j:=by omega
        subst hij
        refine QK hp2 hf2 K hp3 hf3 a' m' b' mid i (n-i) d' ⟨hs,h1,h2,h3,h4,hA,hB⟩ hK hmid (by omega) (by omega) (by omega) (by omega) (by omega) (by omega) (by omega) ?_ ?_
        · by_cases c:i=a'
          · first | exact Or.inl (by omega) | exact Or.inr (Or.inl (by omega))
          · refine Or.inr (Or.inr ?_)
            have:=g4 (i-1) (by omega) (by omega)
            rw [show mid+m'-1- (i-1)=n-i by omega]at this
            exact tu this
        · by_cases c:i=m'
          · first | exact Or.inl (by omega) | exact Or.inr (Or.inl (by omega))
          · refine Or.inr (Or.inr ?_)
            have:=g5 i (by omega) (by omega)
            rw [show mid+m'-1-i=n-i-1 by omega]at this
            exact le_of_lt this
end Go.TX.F
namespace Go.TX.F
open Go Go.AE Go.TX
theorem xG {s a x:Int} (h:s ∣ a) (h1:a<x) (h2:x<a+s):¬s ∣ x:=fun h3=>by
  have:=Int.le_of_dvd (by omega) (Int.dvd_sub h3 h);omega
theorem mY.adj {d:List aj} {a b:Int} (h:∀p,a≤p→p+1<b→le ((d).getD (p).toNat default) ((d).getD (p+1).toNat default)):mY d a b:=by
  intro p q h1 h2 h3
  obtain⟨n,hn⟩:∃n:Nat,q=p+n:=⟨(q-p).toNat,by omega⟩
  subst hn
  clear h2
  induction n with
  | zero=>rw [show p+((0:Nat):Int)=p by omega];exact le_refl _
  | succ n ih=>
    have:=h (p+n) (by omega) (by omega)
    rw [show p+((n+1:Nat):Int)=p+n+1 by omega]
    exact(ih (by omega)).trans this
theorem mY.at1 {d:List aj} {a b p:Int} (h:mY d a b) (h1:a≤p) (h2:p+1<b):le ((d).getD (p).toNat default) ((d).getD (p+1).toNat default):=h p (p+1) h1 (by omega) h2
def Bl (d:List aj) (s n:Int):Prop:=∀p,0≤p→p+1<n→¬s ∣ p+1→le ((d).getD (p).toNat default) ((d).getD (p+1).toNat default)
theorem ZU {p:Int×Int×List aj×Unit→Bool} {f:Int×Int×List aj×Unit→List aj×Unit}
    (hp:∀(a b:Int) (d:List aj),Sh d→0≤a→a≤b→b≤d.length→p (a,b,d,())=true) (hf:∀(a b:Int) (d:List aj),Sh d→0≤a→a≤b→b≤d.length→Sm d (f (a,b,d,())).1∧Out d (f (a,b,d,())).1 a b∧mY (f (a,b,d,())).1 a b)
    {p3:Int×Int×Int×List aj×Unit→Bool} {f3:Int×Int×Int×List aj×Unit→List aj×Unit}
    (hp3:∀(a m b:Int) (d:List aj),Dh a m b d→p3 (a,m,b,d,())=true) (hf3:∀(a m b:Int) (d:List aj),Dh a m b d→Mrg d (f3 (a,m,b,d,())).1 a b)
    (n:Int) (d:List aj) (hd:Sh d) (hn:n=d.length):
    I4 (std 0) p f p3 f3 (n,d,()) (fun y=>Sm d y.1∧mY y.1 0 n):=by
  have hlen:=hd.1
  dsimp only [I4,Alg.cl,Alg.bd,Alg.l1,Tup.q,Tup.o]
  simp (disch:=omega) only [RR]
  refine aA (fun(y:Int×Int×Int×Int×List aj×Unit)=>y.1=n∧y.2.1=20∧0≤y.2.2.1∧y.2.2.1≤n∧(20:Int) ∣ y.2.2.1∧y.2.2.2.1=y.2.2.1+20∧Sm d y.2.2.2.2.1∧Bl y.2.2.2.2.1 20 y.2.2.1) (fun y=>(n+20-y.2.2.2.1).toNat)
    ⟨rfl,rfl,by simp,by simp;omega,⟨0,by simp⟩,rfl,Sm.refl _,fun p h1 h2=>by dsimp only at h2;omega⟩ ?_
  rintro⟨(n':Int),(s:Int),(a:Int),(b:Int),(e:List aj),⟨⟩⟩ hI
  dsimp only at hI ⊢
  obtain⟨rfl,rfl,h1,h2,h3,rfl,h5,h6⟩:=hI
  have hle:=h5.1
  have hs:=h5.sh hd
  simp (disch:=omega) only [RR]
  have bl:∀a c (e e':List aj),0≤a→(20:Int) ∣ a→c≤a+20→Bl e 20 a→Out e e' a c→mY e' a c→Bl e' 20 c:=by
    intro a c e e' c0 c1 c2 c3 c4 c5 q q1 q2 q3
    by_cases k1:q+1<a
    · rw [c4 q q1 (by omega),c4 (q+1) (by omega) (by omega)];exact c3 q q1 k1 q3
    · exact c5.at1 (by omega) q2
  refine⟨fun h7=> ?_,fun h7=> ?_⟩
  · obtain⟨t1,t2,t3⟩:=hf a (a+20) e hs h1 (by omega) (by omega)
    exact⟨hp a (a+20) e hs h1 (by omega) (by omega),⟨by omega,by omega,by omega,h5.trans t1,bl a (a+20) _ _ h1 h3 (by omega) h6 t2 t3⟩,by omega⟩
  obtain⟨t1,t2,t3⟩:=hf a n' e hs h1 (by omega) (by omega)
  refine⟨hp a n' e hs h1 (by omega) (by omega),?_⟩
  have t4:=bl a n' _ _ h1 h3 (by omega) h6 t2 t3
  generalize (f (a,n',e,())).1=e2 at t1 t2 t3 t4 ⊢
  have u1:=h5.trans t1
  clear t1 t2 t3 h5 h6
  refine aA (fun(y:Int×Int×List aj×Unit)=>y.1=n'∧0<y.2.1∧(y.2.1≤20∨y.2.1≤2*n')∧Sm d y.2.2.1∧Bl y.2.2.1 y.2.1 n') (fun y=>(n'-y.2.1).toNat)
    ⟨rfl,by simp,Or.inl (by simp),u1,t4⟩ ?_
  rintro⟨(n:Int),(s:Int),(e3:List aj),⟨⟩⟩ hI
  dsimp only at hI ⊢
  obtain⟨rfl,g1,g2,g3,g4⟩:=hI
  simp (disch:=omega) only [RR]
  refine⟨fun g5=> ?_,fun g5=>⟨g3,mY.adj fun q q1 q2=>g4 q q1 q2 (xG (a:=0) ⟨0,by simp⟩ (by omega) (by omega))⟩⟩
  refine aA (fun(y:Int×Int×Int×Int×List aj×Unit)=>y.1=n∧y.2.1=s∧0≤y.2.2.1∧y.2.2.1≤n∧(2*s) ∣ y.2.2.1∧y.2.2.2.1=y.2.2.1+2*s∧Sm d y.2.2.2.2.1
      ∧∀p,0≤p→p+1<n→¬(2*s) ∣ p+1→(p+1<y.2.2.1∨¬s ∣ p+1)→le ((y.2.2.2.2.1).getD (p).toNat default) ((y.2.2.2.2.1).getD (p+1).toNat default)) (fun y=>(n+2*s-y.2.2.2.1).toNat)
    ⟨rfl,rfl,by simp,by simp;omega,⟨0,by simp⟩,by simp,g3,fun q q1 q2 q3 q4=>g4 q q1 q2 (by dsimp only at q4;rcases q4 with q4 | q4;(· omega);(· exact q4))⟩ ?_
  rintro⟨(n':Int),(s':Int),(a:Int),(b:Int),(e4:List aj),⟨⟩⟩ hI
  dsimp only at hI ⊢
  obtain⟨rfl,rfl,k1,k2,k3,rfl,k5,k6⟩:=hI
  have hle:=k5.1
  have hs:=k5.sh hd
  have ks:s' ∣ a:=Int.dvd_trans ⟨2,by omega⟩ k3
  simp (disch:=omega) only [RR]
  have blk:∀x,x≤n'→a+s'<x→x≤a+2*s'→Dh a (a+s') x e4:=fun x x1 x2 x3=>
    ⟨hs,k1,by omega,x2,by omega,mY.adj fun q q1 q2=>by
      refine k6 q (by omega) (by omega) (xG k3 (by omega) (by omega)) (Or.inr (xG ks (by omega) (by omega))),
      mY.adj fun q q1 q2=>by
      refine k6 q (by omega) (by omega) (xG k3 (by omega) (by omega)) (Or.inr (xG (Int.dvd_add ks (Int.dvd_refl s')) (by omega) (by omega)))⟩
  have stp:∀x e5,x≤n'→(x=a+2*s'∨x=n')→x≤a+2*s'→Mrg e4 e5 a x→∀p,0≤p→p+1<n'→¬(2*s') ∣ p+1→(p+1<x∨¬s' ∣ p+1)→le ((e5).getD (p).toNat default) ((e5).getD (p+1).toNat default):=by
    intro x e5 x1 x2 x3 m1 q q1 q2 q3 q4
    by_cases c1:q+1<a
    · rw [m1.out q q1 (by omega),m1.out (q+1) (by omega) (by omega)];exact k6 q q1 q2 q3 (Or.inl c1)
    · by_cases c2:q+1=a
      · rw [c2]at q3;exact absurd k3 q3
      · by_cases c3:q+1<x
        · exact m1.srt.at1 (by omega) c3
        · by_cases c4:q+1=x
          · exfalso
            rcases x2 with x2 | x2
            · rw [c4,x2]at q3;exact q3 (Int.dvd_add k3 (Int.dvd_refl _))
            · omega
          · rw [m1.out q q1 (by omega),m1.out (q+1) (by omega) (by omega)]
            refine k6 q q1 q2 q3 (Or.inr ?_)
            rcases q4 with q4 | q4
            · omega
            · exact q4
  refine⟨fun k7=> ?_,fun k7=>⟨fun k8=> ?_,fun k8=> ?_⟩⟩
  · have pre:=blk (a+2*s') k7 (by omega) (by omega)
    have m1:=hf3 _ _ _ _ pre
    exact⟨hp3 _ _ _ _ pre,⟨by omega,by omega,Int.dvd_add k3 (Int.dvd_refl _),k5.trans m1.sm,stp _ _ k7 (Or.inl rfl) (by omega) m1⟩,by omega⟩
  · have pre:=blk n' (by omega) k8 (by omega)
    have m1:=hf3 _ _ _ _ pre
    refine⟨hp3 _ _ _ _ pre,⟨by omega,Or.inr (by omega),k5.trans m1.sm,fun q q1 q2 q3=> ?_⟩,by omega⟩
    exact stp _ _ (by omega) (Or.inr rfl) (by omega) m1 q q1 q2 (by rw [Int.mul_comm];exact q3) (Or.inl q2)
  · refine⟨⟨by omega,Or.inr (by omega),k5,fun q q1 q2 q3=> ?_⟩,by omega⟩
    rw [Int.mul_comm]at q3
    by_cases c1:q+1<a
    · exact k6 q q1 q2 q3 (Or.inl c1)
    · by_cases c2:q+1=a
      · rw [c2]at q3;exact absurd k3 q3
      · exact k6 q q1 q2 q3 (Or.inr (xG ks (by omega) (by omega)))
theorem ZV {p:Int×List aj×Unit→Bool} {f:Int×List aj×Unit→List aj×Unit} (hp:∀(n:Int) (d:List aj),Sh d→n=d.length→p (n,d,())=true)
    (hf:∀(n:Int) (d:List aj),Sh d→n=d.length→Sm d (f (n,d,())).1∧mY (f (n,d,())).1 0 n) (d:List aj) (hd:Sh d):
    I5 (std 0) p f (d,()) (fun y=>Sm d y.1∧mY y.1 0 d.length):=by
  have:=hf _ d hd rfl
  dsimp only [I5,Alg.cl,Alg.bd,Alg.l1,Tup.q,Tup.o]
  exact⟨hp _ d hd rfl,this⟩
end Go.TX.F
namespace Go.TX.F
open Go Go.AE Go.TX
def cf (l:List aj) (k:List Int):Int:=(l.map fun m=>if m.atoms=k then m.bK else 0).sum
theorem lM (k:List Int):cf [] k=0:=rfl
theorem dA (m:aj) (l:List aj) (k:List Int):cf (m::l) k=(if m.atoms=k then m.bK else 0)+cf l k:=by simp [cf]
theorem dG (a b:List aj) (k:List Int):cf (a++b) k=cf a k+cf b k:=by simp [cf]
theorem jm {k:List Int}:∀ {l:List aj},(∀m∈l,m.atoms≠k)→cf l k=0
  | [],_=>rfl
  | m::l,h=>by rw [dA,if_neg (h m (by simp)),jm (fun m hm=>h m (by simp [hm]))];rfl
theorem Sm.cf {a b:List aj} (h:Sm a b) (k:List Int):cf b k=cf a k:=h.sum _
def lt (a b:aj):Prop:=dO a.atoms b.atoms<0
theorem lt.ne {a b:aj} (h:lt a b):a.atoms≠b.atoms:=fun e=>by unfold lt at h;rw [e,ku.2 rfl]at h;omega
structure Nf (o:List aj):Prop where
  ss:o.Pairwise lt
  co:∀m∈o,1≤m.bK∧m.bK≤65535
theorem VA:∀ {o1 o2:List aj},Nf o1→Nf o2→(∀k,cf o1 k=cf o2 k)→o1=o2
  | [],[],_,_,_=>rfl
  | [],m::o,_,h2,h=>by
    have:=h m.atoms
    rw [dA,if_pos rfl,jm (fun m' hm'=>((List.rel_of_pairwise_cons h2.ss hm').ne).symm),lM]at this
    have:=(h2.co m (by simp));omega
  | m::o,[],h1,_,h=>by
    have:=h m.atoms
    rw [dA,if_pos rfl,jm (fun m' hm'=>((List.rel_of_pairwise_cons h1.ss hm').ne).symm),lM]at this
    have:=(h1.co m (by simp));omega
  | m1::o1,m2::o2,h1,h2,h=>by
    have c1:=h1.co m1 (by simp)
    have c2:=h2.co m2 (by simp)
    have z1:cf o1 m1.atoms=0:=jm fun m' hm'=>((List.rel_of_pairwise_cons h1.ss hm').ne).symm
    have z2:cf o2 m2.atoms=0:=jm fun m' hm'=>((List.rel_of_pairwise_cons h2.ss hm').ne).symm
    have tr:∀ {a b c:aj},lt a b→lt b c→lt a c:=fun g1 g2=>dS (le_of_lt g1) g2
    have e:m1.atoms=m2.atoms:=by
      by_cases g1:lt m1 m2
      · have:=h m1.atoms
        rw [dA,if_pos rfl,z1,dA,if_neg (fun e=>g1.ne e.symm),jm (fun m' hm'=>((tr g1 (List.rel_of_pairwise_cons h2.ss hm')).ne).symm)]at this
        omega
      · by_cases g2:lt m2 m1
        · have:=h m2.atoms
          rw [dA,if_neg (fun e=>g2.ne e.symm),jm (fun m' hm'=>((tr g2 (List.rel_of_pairwise_cons h1.ss hm')).ne).symm),dA,if_pos rfl,z2]at this
          omega
        · unfold lt at g1 g2
          rw [tq]at g2
          exact ku.1 (by omega)
    have ec:m1.bK=m2.bK:=by
      have:=h m1.atoms
      rw [dA,if_pos rfl,z1,dA,if_pos e.symm,e,z2]at this;omega
    have em:m1=m2:=by cases m1;cases m2;simp_all
    subst em
    refine congrArg _ (VA ⟨h1.ss.tail,fun m hm=>h1.co m (by simp [hm])⟩ ⟨h2.ss.tail,fun m hm=>h2.co m (by simp [hm])⟩ (fun k=>by
      have:=h k;rw [dA,dA]at this;omega))
noncomputable def nf (l:List aj):List aj:= @dite _ (∃o,Nf o∧∀k,cf o k=cf l k%65536) (Classical.propDecidable _) (fun h=>Classical.choose h) (fun _=> [])
theorem VB {l o:List aj} (h:Nf o) (h2:∀k,cf o k=cf l k%65536):nf l=o:=by
  have he:∃o,Nf o∧∀k,cf o k=cf l k%65536:=⟨o,h,h2⟩
  unfold nf;rw [dif_pos he]
  have:=Classical.choose_spec he
  exact VA this.1 h (fun k=>(this.2 k).trans (h2 k).symm)
noncomputable def rR (l:List aj):Bool×List aj:=(bp (aN (nf l)),if bp (aN (nf l))then nf l else [])
def Cb (l:List aj):Prop:=∀m∈l,0≤m.bK∧m.bK≤65535
theorem af5 {p1:List Int×List Int×Unit→Bool} {f1:List Int×List Int×Unit→Int×Unit} (hp1:∀a b,a.length<1000000000→p1 (a,b,())=true) (hf1:∀a b,a.length<1000000000→f1 (a,b,())=(dO a b,()))
    {p2:List aj×Unit→Bool} {f2:List aj×Unit→Bool×Unit} (hp2:∀a,Sh a→p2 (a,())=true) (hf2:∀a,Sh a→f2 (a,())=(bp (aN a),()))
    {p3:Int×Unit→Bool} {f3:Int×Unit→Int×Unit} (hp3:∀a,p3 (a,())=true) (hf3:∀a,f3 (a,())=(a%65536,()))
    {p4:List Int×Unit→Bool} {f4:List Int×Unit→List Int×Unit} (hp4:∀a,a.length≤1073741824→p4 (a,())=true) (hf4:∀a,a.length≤1073741824→f4 (a,())=(a,()))
    {p5:List aj×Unit→Bool} {f5:List aj×Unit→List aj×Unit} (hp5:∀d,Sh d→p5 (d,())=true) (hf5:∀d,Sh d→Sm d (f5 (d,())).1∧mY (f5 (d,())).1 0 d.length)
    (l:List aj) (hl:Sh l) (hc:Cb l):Qx (std 0) p1 f1 p2 f2 p3 f3 p4 f4 p5 f5 (l,()) (fun y=>y.1=(rR l).1∧y.2.2.1=(rR l).2):=by
  obtain⟨s1,s2⟩:=hf5 l hl
  dsimp only [Qx,Alg.cl,Alg.bd,Alg.l1,Tup.q,Tup.o]
  simp (disch:=omega) only [RR,hp5 l hl]
  generalize (f5 (l,())).1=d at s1 s2 ⊢
  have hle:=s1.1
  have hs:=s1.sh hl
  have hlen:=hs.1
  have hcd:Cb d:=fun m hm=>hc m (s1.mem hm)
  refine aA (fun(y:Int×List aj×List aj×Unit)=>0≤y.1∧y.1≤d.length∧y.2.1=d∧Nf y.2.2.1∧y.2.2.1.length≤y.1∧(∀k,cf y.2.2.1 k=cf (d.take y.1.toNat) k%65536)∧(∀m∈y.2.2.1,m∈y.2.2.1→m.atoms.length<1000000000)
      ∧(y.1<d.length→(∀m∈y.2.2.1,lt m ((d).getD (y.1).toNat default))∧(∀m∈d.take y.1.toNat,lt m ((d).getD (y.1).toNat default)))) (fun y=>(d.length-y.1).toNat)
    ⟨by simp,by simp,rfl,⟨List.Pairwise.nil,fun m hm=>absurd hm (by simp)⟩,by simp,fun k=>by simp [cf],fun m hm=>absurd hm (by simp),fun _=>⟨fun m hm=>absurd hm (by simp),fun m hm=>absurd hm (by simp)⟩⟩ ?_
  rintro⟨(i:Int),(d':List aj),(o:List aj),⟨⟩⟩ hI
  dsimp only at hI ⊢
  obtain⟨h1,h2,rfl,h4,h5,h6,h7,h8⟩:=hI
  have ho:Sh o:=⟨by omega,fun m hm=>h7 m hm hm⟩
  simp (disch:=omega) only [RR,hp2 o ho,hf2 o ho]
  refine⟨fun h9=>⟨by omega,by omega,by omega,by omega,?_⟩,fun h9=> ?_⟩
  · obtain⟨g1,g2⟩:=h8 h9
    have z:cf (d'.take i.toNat) ((d').getD (i).toNat default).atoms=0:=jm fun m hm=>(g2 m hm).ne
    refine aA (fun(y:Int×Int×List aj×aj×List aj×Unit)=>i≤y.1∧y.1≤d'.length∧y.2.2.1=d'∧y.2.2.2.1=((d').getD (i).toNat default)∧y.2.2.2.2.1=o∧y.2.1=cf (d'.take y.1.toNat) ((d').getD (i).toNat default).atoms%65536
        ∧(∀k,k≠((d').getD (i).toNat default).atoms→cf (d'.take y.1.toNat) k=cf (d'.take i.toNat) k)∧(∀m∈d'.take y.1.toNat,lt m ((d').getD (i).toNat default)∨m.atoms=((d').getD (i).toNat default).atoms)) (fun y=>(d'.length-y.1).toNat)
      ⟨by simp,by simp;omega,rfl,rfl,rfl,by rw [z];rfl,fun k _=>rfl,fun m hm=>Or.inl (g2 m hm)⟩ ?_
    rintro⟨(j:Int),(c:Int),(d'':List aj),(fi:aj),(o':List aj),⟨⟩⟩ hI
    dsimp only at hI ⊢
    obtain⟨k1,k2,rfl,rfl,rfl,k6,k7,k8⟩:=hI
    have hc0:0≤c∧c<65536:=by omega
    have hcj:j<d''.length→0≤((d'').getD (j).toNat default).bK∧((d'').getD (j).toNat default).bK≤65535:=fun h=>hcd _ (dN (by omega) h)
    simp (disch:=omega) only [RR,hp1 _ _ (hs.at _),hf1 _ _ (hs.at _),hp3,hf3,hp4 _ (Nat.le_trans (Nat.le_of_lt (hs.at _)) (by omega)),hf4 _ (Nat.le_trans (Nat.le_of_lt (hs.at _)) (by omega))]
    refine⟨by omega,by omega,by omega,by omega,fun⟨m1,m2⟩=> ?_,fun m1=>⟨fun m2=>⟨?_,?_,?_⟩,fun m2=>⟨?_,?_⟩⟩⟩
    · have e:=ku.1 m2
      have:=hcj m1
      rw [w64 (by omega) (by omega)]
      have ts:d''.take (j+1).toNat=d''.take j.toNat++ [((d'').getD (j).toNat default)]:=(dP (by omega) m1 rfl).symm
      refine⟨by omega,by omega,by omega,by omega,⟨by omega,by omega,?_,fun k hk=> ?_,fun m hm=> ?_⟩,by omega⟩
      · rw [ts,dG,dA,if_pos e.symm,lM,k6];omega
      · rw [ts,dG,dA,if_neg (fun h=>hk (by rw [e,h])),lM,k7 k hk];omega
      · rw [ts,List.mem_append,List.mem_singleton]at hm
        rcases hm with hm | hm
        · exact k8 m hm
        · right;rw [hm,e]
    all_goals
      have hb:j<d''.length→lt ((d'').getD (i).toNat default) ((d'').getD (j).toNat default):=fun hj=>by
        rw [decide_eq_true hj,Bool.true_and,decide_eq_false_iff_not]at m1
        have:=s2 i j h1 k1 (by omega)
        unfold le at this;unfold lt;omega
      have hij:i<j:=by
        by_cases hj:j<d''.length
        · by_cases e:i=j
          · have:=(hb hj).ne;rw [e]at this;exact absurd rfl this
          · omega
        · omega
    · simp only [List.length_append,List.length_cons,List.length_nil];omega
    · have co:∀k,cf (o'++ [⟨c,((d'').getD (i).toNat default).atoms⟩]) k=cf (d''.take j.toNat) k%65536:=fun k=>by
        rw [dG,dA,lM]
        dsimp only
        by_cases hk:((d'').getD (i).toNat default).atoms=k
        · subst hk
          rw [if_pos rfl,jm (fun m hm=>(g1 m hm).ne),k6];omega
        · rw [if_neg hk,k7 k (fun e=>hk e.symm),h6 k];omega
      refine⟨by omega,by omega,⟨?_,?_⟩,?_,co,?_,fun hj=>⟨?_,?_⟩⟩
      · rw [List.pairwise_append]
        exact⟨h4.ss,List.pairwise_singleton _ _,fun a ha b hb=>by rw [List.mem_singleton]at hb;subst hb;exact g1 a ha⟩
      · intro m hm
        rw [List.mem_append,List.mem_singleton]at hm
        rcases hm with hm | rfl
        · exact h4.co m hm
        · dsimp only;omega
      · simp only [List.length_append,List.length_cons,List.length_nil];omega
      · intro m hm _
        rw [List.mem_append,List.mem_singleton]at hm
        rcases hm with hm | rfl
        · exact h7 m hm hm
        · exact hs.at _
      · intro m hm
        rw [List.mem_append,List.mem_singleton]at hm
        rcases hm with hm | rfl
        · exact dS (le_of_lt (g1 m hm)) (hb hj)
        · exact hb hj
      · intro m hm
        rcases k8 m hm with k | k
        · exact dS (le_of_lt k) (hb hj)
        · have:=hb hj;unfold lt at this ⊢;rw [k];exact this
    · omega
    · refine⟨by omega,by omega,h4,by omega,fun k=> ?_,h7,fun hj=>⟨?_,?_⟩⟩
      · by_cases hk:((d'').getD (i).toNat default).atoms=k
        · subst hk
          rw [jm (fun m hm=>(g1 m hm).ne)];omega
        · rw [k7 k (fun e=>hk e.symm),h6 k]
      · intro m hm
        exact dS (le_of_lt (g1 m hm)) (hb hj)
      · intro m hm
        rcases k8 m hm with k | k
        · exact dS (le_of_lt k) (hb hj)
        · have:=hb hj;unfold lt at this ⊢;rw [k];exact this
    · omega
  · have e:nf l=o:=VB h4 (fun k=>by rw [h6 k,List.take_of_length_le (by omega),s1.cf k])
    unfold rR
    rw [e]
    refine⟨fun h=> ?_,fun h=> ?_⟩
    · rw [h];exact⟨rfl,by simp⟩
    · rw [h];exact⟨rfl,by simp⟩
end Go.TX.F
namespace Go.TX.F
open Go Go.AE Go.TX
theorem ZW (n:Int) (h1:0≤n) (h2:n≤1073741824):I6 (std 0) (n,()) (fun y=>y=([],())):=by
  dsimp only [I6,Alg.cl,Alg.bd,Alg.l1,Tup.q,Tup.o]
  simp (disch:=omega) only [RR]
  refine⟨fun h=>by omega,fun _ h=>⟨by omega,by omega,by rw [List.length_replicate];omega,by omega,by omega,by omega,by omega,by omega,?_⟩⟩
  rfl
theorem af6 {p:Int×Unit→Bool} {f:Int×Unit→List aj×Unit} (hp:∀n:Int,0≤n→n≤1073741824→p (n,())=true) (hf:∀n:Int,0≤n→n≤1073741824→f (n,())=([],()))
    (a b:List aj) (ha:a.length≤100000000) (hb:b.length≤100000000):Qy (std 0) p f ([a,b],()) (fun y=>y=(a++b,())):=by
  dsimp only [Qy,Alg.cl,Alg.bd,Alg.l1,Tup.q,Tup.o]
  refine aA (fun(y:List (List aj)×Int×List (List aj)×Int×Int×Unit)=>y.1=[a,b]∧y.2.2.1=[a,b]∧y.2.2.2.1=2∧((y.2.2.2.2.1=0∧y.2.1=0)∨(y.2.2.2.2.1=1∧y.2.1=a.length)∨(y.2.2.2.2.1=2∧y.2.1=a.length+b.length))) (fun y=>(2-y.2.2.2.2.1).toNat)
    ⟨rfl,rfl,rfl,Or.inl ⟨rfl,rfl⟩⟩ ?_
  rintro⟨(l:List (List aj)),(s:Int),(l2:List (List aj)),(n:Int),(i:Int),⟨⟩⟩ hI
  dsimp only at hI ⊢
  obtain⟨rfl,rfl,rfl,h⟩:=hI
  simp (disch:=omega) only [RR]
  have g0: [a,b].getD (Int.toNat 0) default=a:=rfl
  have g1: [a,b].getD (Int.toNat 1) default=b:=rfl
  have gl:([a,b].length:Int)=2:=rfl
  refine⟨fun hi=> ?_,fun hi=> ?_⟩
  · rcases h with⟨rfl,rfl⟩ | ⟨rfl,rfl⟩ | ⟨rfl,rfl⟩
    · rw [g0,w64 (by omega) (by omega)]
      exact⟨by omega,by omega,fun h=>by omega,fun h=>⟨Or.inr (Or.inl ⟨by omega,by omega⟩),by omega⟩⟩
    · rw [g1,w64 (by omega) (by omega)]
      exact⟨by omega,by omega,fun h=>by omega,fun h=>⟨Or.inr (Or.inr ⟨by omega,by omega⟩),by omega⟩⟩
    · omega
  · have hs:0≤s∧s≤200000000:=by omega
    refine⟨hp s (by omega) (by omega),?_⟩
    rw [hf s (by omega) (by omega)]
    refine aA (fun(y:List (List aj)×Int×Int×List aj×Unit)=>y.1=[a,b]∧y.2.1=2∧((y.2.2.1=0∧y.2.2.2.1=[])∨(y.2.2.1=1∧y.2.2.2.1=a)∨(y.2.2.1=2∧y.2.2.2.1=a++b))) (fun y=>(2-y.2.2.1).toNat)
      ⟨rfl,rfl,Or.inl ⟨rfl,rfl⟩⟩ ?_
    rintro⟨(l:List (List aj)),(n:Int),(j:Int),(o:List aj),⟨⟩⟩ hI
    dsimp only at hI ⊢
    obtain⟨rfl,rfl,h3⟩:=hI
    simp (disch:=omega) only [RR]
    refine⟨fun hj=> ?_,fun hj=> ?_⟩
    · rcases h3 with⟨rfl,rfl⟩ | ⟨rfl,rfl⟩ | ⟨rfl,rfl⟩
      · rw [g0]
        exact⟨by omega,by omega,by simp only [List.length_nil];omega,Or.inr (Or.inl ⟨by omega,rfl⟩),by omega⟩
      · rw [g1]
        exact⟨by omega,by omega,by omega,Or.inr (Or.inr ⟨by omega,rfl⟩),by omega⟩
      · omega
    · rcases h3 with⟨rfl,rfl⟩ | ⟨rfl,rfl⟩ | ⟨rfl,rfl⟩
      · omega
      · omega
      · rfl
theorem ZX (n:Int) (h1:0≤n) (h2:n≤1073741824):I7 (std 0) (n,()) (fun y=>y=([],())):=by
  dsimp only [I7,Alg.cl,Alg.bd,Alg.l1,Tup.q,Tup.o]
  simp (disch:=omega) only [RR]
  refine⟨fun h=>by omega,fun _ h=>⟨by omega,by omega,by rw [List.length_replicate];omega,by omega,by omega,by omega,by omega,by omega,?_⟩⟩
  rfl
theorem af7 {p:Int×Unit→Bool} {f:Int×Unit→List Int×Unit} (hp:∀n:Int,0≤n→n≤1073741824→p (n,())=true) (hf:∀n:Int,0≤n→n≤1073741824→f (n,())=([],()))
    (a b:List Int) (ha:a.length≤100000000) (hb:b.length≤100000000):QA (std 0) p f ([a,b],()) (fun y=>y=(a++b,())):=by
  dsimp only [QA,Alg.cl,Alg.bd,Alg.l1,Tup.q,Tup.o]
  refine aA (fun(y:List (List Int)×Int×List (List Int)×Int×Int×Unit)=>y.1=[a,b]∧y.2.2.1=[a,b]∧y.2.2.2.1=2∧((y.2.2.2.2.1=0∧y.2.1=0)∨(y.2.2.2.2.1=1∧y.2.1=a.length)∨(y.2.2.2.2.1=2∧y.2.1=a.length+b.length))) (fun y=>(2-y.2.2.2.2.1).toNat)
    ⟨rfl,rfl,rfl,Or.inl ⟨rfl,rfl⟩⟩ ?_
  rintro⟨(l:List (List Int)),(s:Int),(l2:List (List Int)),(n:Int),(i:Int),⟨⟩⟩ hI
  dsimp only at hI ⊢
  obtain⟨rfl,rfl,rfl,h⟩:=hI
  simp (disch:=omega) only [RR]
  have g0: [a,b].getD (Int.toNat 0) default=a:=rfl
  have g1: [a,b].getD (Int.toNat 1) default=b:=rfl
  have gl:([a,b].length:Int)=2:=rfl
  refine⟨fun hi=> ?_,fun hi=> ?_⟩
  · rcases h with⟨rfl,rfl⟩ | ⟨rfl,rfl⟩ | ⟨rfl,rfl⟩
    · rw [g0,w64 (by omega) (by omega)]
      exact⟨by omega,by omega,fun h=>by omega,fun h=>⟨Or.inr (Or.inl ⟨by omega,by omega⟩),by omega⟩⟩
    · rw [g1,w64 (by omega) (by omega)]
      exact⟨by omega,by omega,fun h=>by omega,fun h=>⟨Or.inr (Or.inr ⟨by omega,by omega⟩),by omega⟩⟩
    · omega
  · have hs:0≤s∧s≤200000000:=by omega
    refine⟨hp s (by omega) (by omega),?_⟩
    rw [hf s (by omega) (by omega)]
    refine aA (fun(y:List (List Int)×Int×Int×List Int×Unit)=>y.1=[a,b]∧y.2.1=2∧((y.2.2.1=0∧y.2.2.2.1=[])∨(y.2.2.1=1∧y.2.2.2.1=a)∨(y.2.2.1=2∧y.2.2.2.1=a++b))) (fun y=>(2-y.2.2.1).toNat)
      ⟨rfl,rfl,Or.inl ⟨rfl,rfl⟩⟩ ?_
    rintro⟨(l:List (List Int)),(n:Int),(j:Int),(o:List Int),⟨⟩⟩ hI
    dsimp only at hI ⊢
    obtain⟨rfl,rfl,h3⟩:=hI
    simp (disch:=omega) only [RR]
    refine⟨fun hj=> ?_,fun hj=> ?_⟩
    · rcases h3 with⟨rfl,rfl⟩ | ⟨rfl,rfl⟩ | ⟨rfl,rfl⟩
      · rw [g0]
        exact⟨by omega,by omega,by simp only [List.length_nil];omega,Or.inr (Or.inl ⟨by omega,rfl⟩),by omega⟩
      · rw [g1]
        exact⟨by omega,by omega,by omega,Or.inr (Or.inr ⟨by omega,rfl⟩),by omega⟩
      · omega
    · rcases h3 with⟨rfl,rfl⟩ | ⟨rfl,rfl⟩ | ⟨rfl,rfl⟩
      · omega
      · omega
      · rfl
theorem mOk.le {m:aj} (h:mOk m):m.atoms.length≤4:=h.2.1
theorem aN.at {p:List aj} (h:aN p) {m:aj} (hm:m∈p):mOk m:=by
  obtain⟨i,hi,rfl⟩:=List.getElem_of_mem hm
  have:=(h.1 i (by omega) (by omega)).1
  rw [show(i:Int).toNat=i from rfl,getD_lt hi]at this;exact this
theorem aN.len {p:List aj} (h:aN p):p.length≤12:=h.2.1
noncomputable def mZ (a b:List aj):Bool×List aj:=if bp (aN a)&&bp (aN b)then rR (a++b)else(false,[])
theorem af8 {p1:List aj×Unit→Bool} {f1:List aj×Unit→Bool×Unit} (hp1:∀a,Sh a→p1 (a,())=true) (hf1:∀a,Sh a→f1 (a,())=(bp (aN a),()))
    {p2:List aj×Unit→Bool} {f2:List aj×Unit→Bool×List aj×List aj×Unit} (hp2:∀a,Sh a→Cb a→p2 (a,())=true) (hf2:∀a,Sh a→Cb a→(f2 (a,())).1=(rR a).1∧(f2 (a,())).2.2.1=(rR a).2)
    {p3:List (List aj)×Unit→Bool} {f3:List (List aj)×Unit→List aj×Unit} (hp3:∀a b:List aj,a.length≤100000000→b.length≤100000000→p3 ([a,b],())=true) (hf3:∀a b:List aj,a.length≤100000000→b.length≤100000000→f3 ([a,b],())=(a++b,()))
    (a b:List aj) (ha:Sh a) (hb:Sh b):Qz (std 0) p1 f1 p2 f2 p3 f3 (a,b,()) (fun y=>y=((mZ a b).1,(mZ a b).2,())):=by
  dsimp only [Qz,Alg.cl,Alg.bd,Alg.l1,Tup.q,Tup.o]
  simp (disch:=omega) only [RR,hp1 a ha,hf1 a ha,hp1 b hb,hf1 b hb,bq,om]
  unfold mZ
  refine⟨fun h=> ?_,fun⟨h1,h2⟩=> ?_⟩
  · rw [if_neg]
    rw [Bool.and_eq_true,bq,bq];rintro⟨g1,g2⟩
    rcases h with h | h
    · exact h g1
    · exact h g2
  · have l1:=h1.len
    have l2:=h2.len
    rw [hp3 a b (by omega) (by omega),hf3 a b (by omega) (by omega)]
    have hs:Sh (a++b):=⟨by rw [List.length_append];omega,fun m hm=>by
      rw [List.mem_append]at hm
      rcases hm with hm | hm
      · exact ha.2 m hm
      · exact hb.2 m hm⟩
    have hc:Cb (a++b):=fun m hm=>by
      rw [List.mem_append]at hm
      rcases hm with hm | hm
      · have:=(h1.at hm).1;omega
      · have:=(h2.at hm).1;omega
    obtain⟨g1,g2⟩:=hf2 _ hs hc
    refine⟨rfl,hp2 _ hs hc,?_⟩
    rw [if_pos (by rw [fJ h1,fJ h2];rfl),g1,g2]
def mQ (l:List Int):List Int:=l.mergeSort fun x y=>decide (x≤y)
theorem KI (l:List Int):(mQ l).length=l.length:=List.length_mergeSort l
def mulM (m n:aj):aj:=⟨m.bK*n.bK%65536,mQ (m.atoms++n.atoms)⟩
def prods (a b:List aj):List aj:=a.flatMap fun m=>b.map (mulM m)
theorem Jj (a b:List aj) (m:aj):prods (a++ [m]) b=prods a b++b.map (mulM m):=by simp [prods]
noncomputable def l8 (a b:List aj):Bool×List aj:=if bp (aN a)&&bp (aN b)then rR (prods a b)else(false,[])
theorem Mr {a b:Int} (h1:0≤a) (h2:a≤65535) (h3:0≤b) (h4:b≤65535):0≤a*b∧a*b≤65535*65535:=⟨Int.mul_nonneg h1 h3,Int.mul_le_mul h2 h4 h3 (by omega)⟩
theorem af9 {p1:List aj×Unit→Bool} {f1:List aj×Unit→Bool×Unit} (hp1:∀a,Sh a→p1 (a,())=true) (hf1:∀a,Sh a→f1 (a,())=(bp (aN a),()))
    {p0:Int×Unit→Bool} {f0:Int×Unit→Int×Unit} (hp0:∀a,p0 (a,())=true) (hf0:∀a,f0 (a,())=(a%65536,()))
    {p2:List aj×Unit→Bool} {f2:List aj×Unit→Bool×List aj×List aj×Unit} (hp2:∀a,Sh a→Cb a→p2 (a,())=true) (hf2:∀a,Sh a→Cb a→(f2 (a,())).1=(rR a).1∧(f2 (a,())).2.2.1=(rR a).2)
    {p3:List (List Int)×Unit→Bool} {f3:List (List Int)×Unit→List Int×Unit} (hp3:∀a b:List Int,a.length≤100000000→b.length≤100000000→p3 ([a,b],())=true) (hf3:∀a b:List Int,a.length≤100000000→b.length≤100000000→f3 ([a,b],())=(a++b,()))
    {p4:List Int×Unit→Bool} {f4:List Int×Unit→List Int×Unit} (hp4:∀a:List Int,a.length≤8→p4 (a,())=true) (hf4:∀a:List Int,a.length≤8→f4 (a,())=(mQ a,()))
    (a b:List aj) (ha:Sh a) (hb:Sh b):QB (std 0) p1 f1 p0 f0 p2 f2 p3 f3 p4 f4 (a,b,()) (fun y=>y=((l8 a b).1,(l8 a b).2,())):=by
  dsimp only [QB,Alg.cl,Alg.bd,Alg.l1,Tup.q,Tup.o]
  simp (disch:=omega) only [RR,hp1 a ha,hf1 a ha,hp1 b hb,hf1 b hb,bq,om]
  unfold l8
  refine⟨fun h=> ?_,fun⟨h1,h2⟩=> ?_⟩
  · rw [if_neg]
    rw [Bool.and_eq_true,bq,bq];rintro⟨g1,g2⟩
    rcases h with h | h
    · exact h g1
    · exact h g2
  have l1:=h1.len
  have l2:=h2.len
  rw [if_pos (by rw [fJ h1,fJ h2];rfl)]
  have mm:∀i j:Int,0≤i→i<a.length→0≤j→j<b.length→mOk ((a).getD (i).toNat default)∧mOk ((b).getD (j).toNat default):=fun i j i1 i2 j1 j2=>⟨h1.at (dN i1 i2),h2.at (dN j1 j2)⟩
  refine aA (fun(y:List aj×Int×Int×List aj×List aj×Unit)=>y.1=a∧y.2.1=a.length∧0≤y.2.2.1∧y.2.2.1≤a.length∧y.2.2.2.1=b∧y.2.2.2.2.1=prods (a.take y.2.2.1.toNat) b∧y.2.2.2.2.1.length≤12*y.2.2.1∧Sh y.2.2.2.2.1∧Cb y.2.2.2.2.1) (fun y=>(a.length-y.2.2.1).toNat)
    ⟨rfl,rfl,by simp,by simp,rfl,rfl,by simp,⟨by simp,fun m hm=>absurd hm (by simp)⟩,fun m hm=>absurd hm (by simp)⟩ ?_
  rintro⟨(a':List aj),(n:Int),(i:Int),(b':List aj),(o:List aj),⟨⟩⟩ hI
  dsimp only at hI ⊢
  obtain⟨rfl,rfl,h3,h4,rfl,h5,h6,h7,h8⟩:=hI
  simp (disch:=omega) only [RR]
  refine⟨fun h9=>⟨by omega,by omega,?_⟩,fun h9=> ?_⟩
  · refine aA (fun(y:List aj×Int×Int×List aj×Int×Int×List aj×List aj×aj×Unit)=>y.1=a'∧y.2.1=a'.length∧y.2.2.1=i∧y.2.2.2.1=b'∧y.2.2.2.2.1=b'.length∧0≤y.2.2.2.2.2.1∧y.2.2.2.2.2.1≤b'.length∧y.2.2.2.2.2.2.1=b'∧y.2.2.2.2.2.2.2.2.1=((a').getD (i).toNat default)
        ∧y.2.2.2.2.2.2.2.1=o++(b'.take y.2.2.2.2.2.1.toNat).map (mulM ((a').getD (i).toNat default))∧Sh y.2.2.2.2.2.2.2.1∧Cb y.2.2.2.2.2.2.2.1) (fun y=>(b'.length-y.2.2.2.2.2.1).toNat)
      ⟨rfl,rfl,rfl,rfl,rfl,by simp,by simp,rfl,rfl,by simp,h7,h8⟩ ?_
    rintro⟨(a'':List aj),(n:Int),(i':Int),(b'':List aj),(nb:Int),(j:Int),(b3:List aj),(o':List aj),(m:aj),⟨⟩⟩ hI
    dsimp only at hI ⊢
    obtain⟨rfl,rfl,rfl,rfl,rfl,k1,k2,rfl,rfl,k3,k4,k5⟩:=hI
    have lo:(o'.length:Int)≤12*i'+j:=by
      rw [k3,List.length_append,List.length_map];have:=List.length_take_le j.toNat b3;omega
    by_cases hj:j<b3.length
    · obtain⟨m1,m2⟩:=mm i' j h3 h9 k1 hj
      have e1:=m1.le
      have e2:=m2.le
      have la:(((a'').getD (i').toNat default).atoms++((b3).getD (j).toNat default).atoms).length≤8:=by rw [List.length_append];omega
      have hm:=Mr (show 0≤((a'').getD (i').toNat default).bK by have:=m1.1;omega) (by have:=m1.1;omega) (show 0≤((b3).getD (j).toNat default).bK by have:=m2.1;omega) (by have:=m2.1;omega)
      simp (disch:=omega) only [RR,hp3 ((a'').getD (i').toNat default).atoms ((b3).getD (j).toNat default).atoms (by omega) (by omega),hf3 ((a'').getD (i').toNat default).atoms ((b3).getD (j).toNat default).atoms (by omega) (by omega),hp4 _ la,hf4 _ la,hp0,hf0]
      refine⟨fun _=>⟨by omega,by omega,by simp only [List.length_cons,List.length_nil];omega,⟨by omega,by omega,?_,⟨?_,?_⟩,?_⟩,by omega⟩,fun h=>by omega⟩
      · rw [←dP (d:=default) k1 hj rfl,List.map_append,k3,List.append_assoc];rfl
      · rw [List.length_append];simp only [List.length_cons,List.length_nil];omega
      · intro m hm
        rw [List.mem_append,List.mem_singleton]at hm
        rcases hm with hm | rfl
        · exact k4.2 m hm
        · dsimp only;rw [KI];omega
      · intro m hm
        rw [List.mem_append,List.mem_singleton]at hm
        rcases hm with hm | rfl
        · exact k5 m hm
        · dsimp only;omega
    · simp (disch:=omega) only [RR]
      refine⟨fun h=>absurd h hj,fun _=>⟨⟨by omega,by omega,?_,by omega,k4,k5⟩,by omega⟩⟩
      rw [←dP (d:=default) h3 h9 rfl,Jj,←h5,k3,List.take_of_length_le (by omega)]
  · obtain⟨g1,g2⟩:=hf2 _ h7 h8
    refine⟨hp2 _ h7 h8,?_⟩
    rw [g1,g2,h5,List.take_of_length_le (by omega)]
noncomputable def jr (a:List aj) (n:Int):List aj:=if bp (aN a)&&inB n 0 65535 then(l8 a (dJ n)).2 else []
theorem KJ (n:Int):Sh (dJ n):=by
  unfold dJ;split
  · exact⟨by simp,fun m hm=>by rw [List.mem_singleton]at hm;subst hm;simp⟩
  · exact⟨by simp,fun m hm=>absurd hm (by simp)⟩
theorem aga {p1:List aj×Unit→Bool} {f1:List aj×Unit→Bool×Unit} (hp1:∀a,Sh a→p1 (a,())=true) (hf1:∀a,Sh a→f1 (a,())=(bp (aN a),()))
    {p2:Int×Unit→Bool} {f2:Int×Unit→List aj×Unit} (hp2:∀n,p2 (n,())=true) (hf2:∀n,f2 (n,())=(dJ n,()))
    {p3:Int×Unit→Bool} {f3:Int×Unit→Bool×Unit} (hp3:∀a,p3 (a,())=true) (hf3:∀a,f3 (a,())=(inB a 0 65535,()))
    {p4:List aj×List aj×Unit→Bool} {f4:List aj×List aj×Unit→Bool×List aj×Unit} (hp4:∀a b,Sh a→Sh b→p4 (a,b,())=true) (hf4:∀a b,Sh a→Sh b→f4 (a,b,())=((l8 a b).1,(l8 a b).2,()))
    (a:List aj) (n:Int) (ha:Sh a):QC (std 0) p1 f1 p2 f2 p3 f3 p4 f4 (a,n,()) (fun y=>y=(jr a n,())):=by
  dsimp only [QC,Alg.cl,Alg.bd,Alg.l1,Tup.q,Tup.o]
  simp (disch:=omega) only [RR,hp1 a ha,hf1 a ha,hp2,hf2,hp3,hf3,hp4 a _ ha (KJ n),hf4 a _ ha (KJ n)]
  unfold jr
  refine⟨fun h=> ?_,fun⟨h1,h2⟩=> ?_⟩
  · rw [if_neg];rw [Bool.and_eq_true];rintro⟨g1,g2⟩
    rcases h with h | h
    · rw [g1]at h;cases h
    · rw [g2]at h;cases h
  · rw [h1,h2];rfl
end Go.TX.F
namespace Go.TX.F
open Go Go.AE Go.TX
noncomputable def Jk (op:Int) (x y:List aj):List aj×Bool:=
  if(dQ x).2&& (dQ y).2 then(dJ (wdo op (dQ x).1 (dQ y).1),true)
  else if gW x y=0∧op=4 then(x,true)
  else if gW x y=0 then([],true)
  else if(dQ x).2 then
    (if op=4∧(dQ x).1=0 then([],true)else if(op=4∧(dQ x).1=65535)∨(op=5∧(dQ x).1=0)then(y,true)else([],false))
  else if(dQ y).2 then
    (if op=4∧(dQ y).1=0 then([],true)else if(op=4∧(dQ y).1=65535)∨(op=5∧(dQ y).1=0)then(x,true)else([],false))
  else([],false)
noncomputable def jv (op:Int) (x y:List aj):List aj×Bool:=
  if op=1 then((mZ x y).2,(mZ x y).1)else if op=2 then((mZ x (jr y 65535)).2,(mZ x (jr y 65535)).1)else if op=3 then((l8 x y).2,(l8 x y).1)else Jk op x y
theorem aN.sh {l:List aj}:aN l→Sh l:=fun h=>⟨by have:=h.len;omega,fun m hm=>by have:=(h.at hm).le;omega⟩
theorem aeW (l:List aj):Sh (rR l).2:=by
  unfold rR
  by_cases h:aN (nf l)
  · rw [fJ h];exact h.sh
  · rw [iY h];exact⟨by simp,fun m hm=>absurd hm (by simp)⟩
theorem jw:Sh []:=⟨by simp,fun m hm=>absurd hm (by simp)⟩
theorem aeX (a b:List aj):Sh (l8 a b).2:=by unfold l8;split;exact aeW _;exact jw
theorem xH (a:List aj) (n:Int):Sh (jr a n):=by unfold jr;split;exact aeX _ _;exact jw
theorem agb {p1:List aj×List aj×Unit→Bool} {f1:List aj×List aj×Unit→Bool×Unit} (hp1:∀a b,Sh a→p1 (a,b,())=true) (hf1:∀a b,Sh a→f1 (a,b,())=(decide (gW a b=0),()))
    {p2:Int×Unit→Bool} {f2:Int×Unit→List aj×Unit} (hp2:∀n,p2 (n,())=true) (hf2:∀n,f2 (n,())=(dJ n,()))
    {p3:Int×Int×Int×Unit→Bool} {f3:Int×Int×Int×Unit→Int×Unit} (hp3:∀op a b,p3 (op,a,b,())=true) (hf3:∀op a b,f3 (op,a,b,())=(wdo op a b,()))
    {p4:List aj×List aj×Unit→Bool} {f4:List aj×List aj×Unit→Bool×List aj×Unit} (hp4:∀a b,Sh a→Sh b→p4 (a,b,())=true) (hf4:∀a b,Sh a→Sh b→f4 (a,b,())=((mZ a b).1,(mZ a b).2,()))
    {p5:List aj×List aj×Unit→Bool} {f5:List aj×List aj×Unit→Bool×List aj×Unit} (hp5:∀a b,Sh a→Sh b→p5 (a,b,())=true) (hf5:∀a b,Sh a→Sh b→f5 (a,b,())=((l8 a b).1,(l8 a b).2,()))
    {p6:List aj×Int×Unit→Bool} {f6:List aj×Int×Unit→List aj×Unit} (hp6:∀a n,Sh a→p6 (a,n,())=true) (hf6:∀a n,Sh a→f6 (a,n,())=(jr a n,()))
    {p7:List aj×Unit→Bool} {f7:List aj×Unit→Int×Bool×Unit} (hp7:∀a,Sh a→p7 (a,())=true) (hf7:∀a,Sh a→f7 (a,())=((dQ a).1,(dQ a).2,()))
    (op:Int) (x y:List aj) (hx:Sh x) (hy:Sh y):QF (std 0) p1 f1 p2 f2 p3 f3 p4 f4 p5 f5 p6 f6 p7 f7 (op,x,y,()) (fun z=>z=((jv op x y).1,(jv op x y).2,())):=by
  dsimp only [QF,Alg.cl,Alg.bd,Alg.l1,Tup.q,Tup.o]
  simp (disch:=omega) only [RR,hp1 x y hx,hf1 x y hx,hp2,hf2,hp3,hf3,hp4 x y hx hy,hf4 x y hx hy,hp4 x _ hx (xH y 65535),hf4 x _ hx (xH y 65535),hp5 x y hx hy,hf5 x y hx hy,hp6 y _ hy,hf6 y _ hy,hp7 x hx,hf7 x hx,hp7 y hy,hf7 y hy]
  unfold jv
  refine⟨fun h=>by rw [if_pos h],fun h=>⟨fun h1=>by rw [if_neg h,if_pos h1],fun h1=>⟨fun h2=>by rw [if_neg h,if_neg h1,if_pos h2],fun h2=> ?_⟩⟩⟩
  rw [if_neg h,if_neg h1,if_neg h2]
  unfold Jk
  generalize dQ x=nx
  generalize dQ y=ny
  obtain⟨n,bn⟩:=nx
  obtain⟨m,bm⟩:=ny
  dsimp only
  by_cases e:gW x y=0<;>by_cases o4:op=4<;>cases bn<;>cases bm<;>simp [e,o4]
  · by_cases c:m=0<;>by_cases c2:m=65535<;>simp [c,c2]
  · by_cases c:n=0<;>by_cases c2:n=65535<;>simp [c,c2]
  · by_cases c:op=5<;>by_cases c2:m=0<;>simp [c,c2]
  · by_cases c:op=5<;>by_cases c2:n=0<;>simp [c,c2]
noncomputable def tDo (t:List Atom) (op:Int) (x y:List aj):List Atom×List aj:=
  if(jv op x y).2 then(t,(jv op x y).1)else
  if op≠2∧0<gW x y then(if(bD t ⟨4,op,y,x⟩).2<0 then([],[])else((bD t ⟨4,op,y,x⟩).1,fG (bD t ⟨4,op,y,x⟩).2))
  else(if(bD t ⟨4,op,x,y⟩).2<0 then([],[])else((bD t ⟨4,op,x,y⟩).1,fG (bD t ⟨4,op,x,y⟩).2))
noncomputable def tOk (t:List Atom) (op:Int) (x y:List aj):Bool:=(jv op x y).2 || !decide ((if op≠2∧0<gW x y then(bD t ⟨4,op,y,x⟩).2 else(bD t ⟨4,op,x,y⟩).2)<0)
theorem agc {p1:List aj×List aj×Unit→Bool} {f1:List aj×List aj×Unit→Int×Unit} (hp1:∀a b,Sh a→p1 (a,b,())=true) (hf1:∀a b,Sh a→f1 (a,b,())=(gW a b,()))
    {p2:Int×List aj×List aj×Unit→Bool} {f2:Int×List aj×List aj×Unit→List aj×Bool×Unit} (hp2:∀op x y,Sh x→Sh y→p2 (op,x,y,())=true) (hf2:∀op x y,Sh x→Sh y→f2 (op,x,y,())=((jv op x y).1,(jv op x y).2,()))
    {p3:List Atom×Atom×Unit→Bool} {f3:List Atom×Atom×Unit→List Atom×Int×Unit} (hp3:∀t a,t.length<1000000000→ShA a→p3 (t,a,())=true) (hf3:∀t a,t.length<1000000000→ShA a→f3 (t,a,())=((bD t a).1,(bD t a).2,()))
    {p4:Int×Unit→Bool} {f4:Int×Unit→List aj×Unit} (hp4:∀n,p4 (n,())=true) (hf4:∀n,f4 (n,())=(fG n,()))
    (t:List Atom) (op:Int) (x y:List aj) (ht:t.length<1000000000) (hx:Sh x) (hy:Sh y):QG (std 0) p1 f1 p2 f2 p3 f3 p4 f4 (t,op,x,y,()) (fun z=>z.1=(tDo t op x y).1∧z.2.1=(tDo t op x y).2∧z.2.2.1=tOk t op x y):=by
  have s1:ShA ⟨4,op,x,y⟩:=⟨hx,hy⟩
  have s2:ShA ⟨4,op,y,x⟩:=⟨hy,hx⟩
  dsimp only [QG,Alg.cl,Alg.bd,Alg.l1,Tup.q,Tup.o]
  simp (disch:=omega) only [RR,hp1 x y hx,hf1 x y hx,hp2 op x y hx hy,hf2 op x y hx hy,hp3 t _ ht s1,hf3 t _ ht s1,hp3 t _ ht s2,hf3 t _ ht s2,hp4,hf4]
  unfold tDo tOk
  refine⟨fun h=>by rw [if_pos h,h];exact⟨rfl,rfl,rfl⟩,fun h=> ?_⟩
  rw [if_neg (by rw [h];simp),h,Bool.false_or]
  generalize bD t ⟨4,op,y,x⟩=r1
  generalize bD t ⟨4,op,x,y⟩=r2
  generalize gW x y=o
  by_cases c1:op=2<;>by_cases c2:0<o<;>by_cases c3:r1.2<0<;>by_cases c4:r2.2<0<;>simp [c1,c2,c3,c4]
noncomputable def vP (t:List Atom) (op:Int) (x y:List aj):List Atom×List aj:=
  @ite _ (aI t∧(1≤op∧op≤5)∧aN x∧aN y∧aR x t.length∧aR y t.length) (Classical.propDecidable _) (tDo t op x y) ([],[])
theorem ZY (n:Int):Sh (fG n):=by
  unfold fG;split
  · exact⟨by simp,fun m hm=>by rw [List.mem_singleton]at hm;subst hm;simp⟩
  · exact jw
theorem agd {p1:Int×Unit→Bool} {f1:Int×Unit→Bool×Unit} (hp1:∀a,p1 (a,())=true) (hf1:∀a,f1 (a,())=(inB a 0 65535,())):PY (std 0) p1 f1 () (fun z=>z=(true,())):=by
  dsimp only [PY,Alg.cl,Alg.bd,Alg.l1,Tup.q,Tup.o]
  simp (disch:=omega) only [RR,hp1,hf1]
  rfl
end Go.TX.F
namespace Go.TX.F
open Go Go.AE Go.TX
theorem Z0 {a b:Int}:or2 a b=0↔a=0∧b=0:=by unfold or2;split<;>omega
theorem KL {a b:aj}:Mj a b=0↔a=b:=by
  unfold Mj;rw [Z0,ku,jD]
  constructor
  · rintro⟨h1,h2⟩;cases a;cases b;simp_all
  · rintro rfl;exact⟨rfl,rfl⟩
theorem KM:∀ {a b:List aj},a.length=b.length→Dc a b=0→a=b
  | [],[],_,_=>rfl | [],_::_,h,_=>by simp at h
  | _::_,[],h,_=>by simp at h
  | a::az,b::bs,hl,h=>by
    simp only [Dc]at h
    split at h
    · exact absurd h (by assumption)
    · rename_i h1
      rw [KL.1 (Classical.not_not.1 h1),KM (by simpa using hl) h]
theorem KN:∀a:List aj,Dc a a=0
  | []=>rfl
  | a::az=>by simp only [Dc,KL.2 rfl];simp [KN az]
theorem Dj {a b:List aj}:gW a b=0↔a=b:=by
  unfold gW
  constructor
  · intro h
    split at h
    · exact absurd h (by assumption)
    · rename_i h1
      have:=jD.1 (Classical.not_not.1 h1)
      exact KM (by omega) h
  · rintro rfl;rw [if_neg (by rw [jD.2 rfl];simp),KN]
theorem nM {a b:Atom}:oM a b=true↔a=b:=by
  unfold oM
  rw [Bool.and_eq_true,Bool.and_eq_true,Bool.and_eq_true,decide_eq_true_eq,decide_eq_true_eq,decide_eq_true_eq,decide_eq_true_eq,Dj,Dj]
  constructor
  · rintro⟨⟨⟨h1,h2⟩,h3⟩,h4⟩;cases a;cases b;simp_all
  · rintro rfl;exact⟨⟨⟨rfl,rfl⟩,rfl⟩,rfl⟩
theorem oN {α:Type} {d:α} {l:List α} {G:α→Prop}:All l.length (fun i=>G (l.getD i.toNat d))↔∀m∈l,G m:=by
  constructor
  · intro h m hm
    obtain⟨i,hi,rfl⟩:=List.getElem_of_mem hm
    have:=h i (by omega) (by omega)
    dsimp only at this
    rw [show(i:Int).toNat=i from rfl,getD_lt hi]at this;exact this
  · intro h i h1 h2
    exact h _ (dN h1 h2)
theorem dD {p:List aj} {n:Int}:aR p n↔∀m∈p,∀k∈m.atoms,k<n:=by
  unfold aR Mi
  rw [oN (d:=default) (G:=fun m:aj=>All m.atoms.length (fun i=>¬n≤m.atoms.getD i.toNat default))]
  refine forall_congr' fun m=>forall_congr' fun _=> ?_
  rw [oN (d:=default) (G:=fun k:Int=>¬n≤k)]
  exact forall_congr' fun k=>forall_congr' fun _=>by omega
theorem dI {α:Type} {d:α} {R:α→α→Prop} (tr:∀ {a b c},R a b→R b c→R a c) {l:List α}:l.Pairwise R↔∀i:Int,0<i→i<l.length→R (l.getD (i-1).toNat d) (l.getD i.toNat d):=by
  rw [List.pairwise_iff_getElem]
  constructor
  · intro h i h1 h2
    rw [getD_lt (by omega),getD_lt (by omega)]
    exact h _ _ (by omega) (by omega) (by omega)
  · intro h i j hi hj hij
    obtain⟨n,rfl⟩:∃n,j=i+1+n:=⟨j-i-1,by omega⟩
    clear hij
    induction n with
    | zero=>
      have:=h (i+1:Nat) (by omega) (by omega)
      rw [show(((i+1:Nat):Int)-1).toNat=i by omega,show(((i+1:Nat):Int)).toNat=i+1 by omega,getD_lt hi,getD_lt (by omega)]at this
      exact this
    | succ n ih=>
      have h1:=ih (by omega)
      have:=h (i+1+n+1:Nat) (by omega) (by omega)
      rw [show(((i+1+n+1:Nat):Int)-1).toNat=i+1+n by omega,show(((i+1+n+1:Nat):Int)).toNat=i+1+n+1 by omega,getD_lt (by omega),getD_lt (by omega)]at this
      exact tr h1 this
theorem Ms {l:List Int}:Srt l↔l.Pairwise (· ≤ ·):=by
  rw [dI (d:=default) (R:=fun a b:Int=>a≤b) (fun h1 h2=>Int.le_trans h1 h2)]
  unfold Srt
  constructor
  · intro h i h1 h2
    have:=h (i-1) (by omega) (by omega)
    dsimp only at this
    rw [show i-1+1=i by omega]at this;exact this
  · intro h i h1 h2
    have:=h (i+1) (by omega) (by omega)
    rw [show i+1-1=i by omega]at this;exact this
theorem fD {a b c:aj} (h1:lt a b) (h2:lt b c):lt a c:=dS (le_of_lt h1) h2
def aok (l:List Int):Prop:=l.Pairwise (· ≤ ·)∧∀k∈l,0≤k∧k≤199
theorem gX {p:List aj}:aN p↔Nf p∧p.length≤12∧∀m∈p,m.atoms.length≤4∧aok m.atoms:=by
  constructor
  · rintro⟨h1,h2,h3,h4⟩
    have h1':∀m∈p,mOk m:=oN (d:=default) (G:=mOk).1 (fun i g1 g2=>(h1 i g1 g2).1)
    have h4':∀m∈p,¬(0<m.atoms.length∧m.atoms.getD 0 default<0):=oN (d:=default) (G:=fun m:aj=>¬(0<m.atoms.length∧m.atoms.getD 0 default<0)).1 h4
    refine⟨⟨(dI (d:=default) (R:=lt) fD).2 fun i g1 g2=>(h1 i (by omega) g2).2 g1,fun m hm=>(h1' m hm).1⟩,h2,fun m hm=>⟨(h1' m hm).2.1,Ms.1 (h1' m hm).2.2,fun k hk=>⟨?_,by have:=dD.1 h3 m hm k hk;omega⟩⟩⟩
    have hs:=Ms.1 (h1' m hm).2.2
    have hn:=h4' m hm
    cases ha:m.atoms with
    | nil=>rw [ha]at hk;exact absurd hk (by simp)
    | cons b l=>
      rw [ha]at hk hs hn
      simp at hn
      rcases List.mem_cons.1 hk with rfl | hk
      · exact hn
      · have:=List.rel_of_pairwise_cons hs hk;omega
  · rintro⟨h1,h2,h3⟩
    refine⟨fun i g1 g2=>⟨⟨h1.co _ (dN g1 g2),(h3 _ (dN g1 g2)).1,Ms.2 (h3 _ (dN g1 g2)).2.1⟩,fun g3=>(dI (d:=default) (R:=lt) fD).1 h1.ss i g3 g2⟩,h2,dD.2 fun m hm k hk=>by have:=((h3 m hm).2.2 k hk);omega,?_⟩
    refine oN (d:=default) (G:=fun m:aj=>¬(0<m.atoms.length∧m.atoms.getD 0 default<0)).2 fun m hm=> ?_
    rintro⟨g1,g2⟩
    have:=(h3 m hm).2.2 _ (dN (i:=0) (d:=default) (xs:=m.atoms) (by omega) (by omega))
    rw [show Int.toNat 0=0 from rfl]at this;omega
theorem Z4 {l:List aj} {k:List Int} (h:cf l k≠0):∃m∈l,m.atoms=k:=Classical.byContradiction fun h2=>h (jm fun m hm e=>h2 ⟨m,hm,e⟩)
theorem Nf.cf {o:List aj} (h:Nf o) {m:aj} (hm:m∈o):cf o m.atoms=m.bK:=by
  induction o with
  | nil=>exact absurd hm (by simp)
  | cons a o ih=>
    rw [dA]
    rcases List.mem_cons.1 hm with rfl | hm
    · rw [if_pos rfl,jm (fun m' hm'=>((List.rel_of_pairwise_cons h.ss hm').ne).symm)];omega
    · rw [if_neg (List.rel_of_pairwise_cons h.ss hm).ne,ih ⟨h.ss.tail,fun m hm=>h.co m (by simp [hm])⟩ hm];omega
theorem Nf.from {o l:List aj} (h:Nf o) (h2:∀k,F.cf o k=F.cf l k%65536) {m:aj} (hm:m∈o):∃m'∈l,m'.atoms=m.atoms:=by
  refine Z4 fun e=> ?_
  have:=h2 m.atoms
  rw [h.cf hm,e]at this
  have:=h.co m hm;omega
theorem Nf.bnd {o:List aj} (h:Nf o) (k:List Int):0≤F.cf o k∧F.cf o k≤65535:=by
  by_cases e:F.cf o k=0
  · omega
  · obtain⟨m,hm,rfl⟩:=Z4 e
    rw [h.cf hm];have:=h.co m hm;omega
theorem aeY {l o:List aj} (h:Nf o) (h2:∀k,F.cf o k=F.cf l k%65536) (h3:∀m∈l,aok m.atoms):
    rR l=(decide (o.length≤12∧∀m∈o,m.atoms.length≤4),if o.length≤12∧∀m∈o,m.atoms.length≤4 then o else []):=by
  unfold rR
  rw [VB h h2]
  by_cases c:o.length≤12∧∀m∈o,m.atoms.length≤4
  · have:aN o:=gX.2 ⟨h,c.1,fun m hm=>⟨c.2 m hm,by obtain⟨m',g1,g2⟩:=h.from h2 hm;rw [←g2];exact h3 m' g1⟩⟩
    rw [fJ this,decide_eq_true c,if_pos rfl,if_pos c]
  · have:¬aN o:=fun g=>c ⟨(gX.1 g).2.1,fun m hm=>((gX.1 g).2.2 m hm).1⟩
    rw [iY this,decide_eq_false c,if_neg (by simp),if_neg c]
end Go.TX.F
namespace Go.TX.F
open Go Go.AE Go.TX
theorem Z5 (a b c:Int):F7 (std 0) (a,b,c,()) (fun y=>y=(inB a b c,())):=by
  dsimp only [F7,Alg.cl,Alg.bd,Alg.l1,Tup.q,Tup.o]
  simp (disch:=omega) only [RR]
  rfl
theorem Z6 (a:Int):Gt (std 0) (a,()) (fun y=>y=(inB a 0 65535,())):=by
  dsimp only [Gt,Alg.cl,Alg.bd,Alg.l1,Tup.q,Tup.o]
  simp (disch:=omega) only [RR]
  refine congrArg (fun b=>(b,())) ?_
  rw [Bool.eq_iff_iff,dz,Bool.and_eq_true,decide_eq_true_eq,decide_eq_true_eq];omega
theorem Z7 {p1:Int×Int×Int×Unit→Bool} {f1:Int×Int×Int×Unit→Bool×Unit} (hp1:∀a b c,p1 (a,b,c,())=true) (hf1:∀a b c,f1 (a,b,c,())=(inB a b c,())) (a:Int):
    F8 (std 0) p1 f1 (a,()) (fun y=>y=(dJ a,())):=by
  dsimp only [F8,Alg.cl,Alg.bd,Alg.l1,Tup.q,Tup.o]
  simp (disch:=omega) only [RR,hp1,hf1,dz,nD]
  unfold dJ
  exact⟨fun h=>by rw [if_neg (by omega)],fun h=>by rw [if_pos (by omega)]⟩
theorem Z8 {p1:Int×Int×Int×Unit→Bool} {f1:Int×Int×Int×Unit→Bool×Unit} (hp1:∀a b c,p1 (a,b,c,())=true) (hf1:∀a b c,f1 (a,b,c,())=(inB a b c,())) (a:Int):
    Gp (std 0) p1 f1 (a,()) (fun y=>y=(fG a,())):=by
  dsimp only [Gp,Alg.cl,Alg.bd,Alg.l1,Tup.q,Tup.o]
  simp (disch:=omega) only [RR,hp1,hf1,dz,nD]
  unfold fG
  exact⟨fun h=>by rw [if_neg (by omega)],fun h=>by rw [if_pos (by omega)]⟩
theorem Z9 (a:Int):a.tmod 65536=if 0≤a then a%65536 else- (-a%65536):=by
  split
  · rw [Int.tmod_eq_emod_of_nonneg (by omega)]
  · have:=Int.neg_tmod (-a) 65536
    rw [Int.neg_neg]at this;rw [this,Int.tmod_eq_emod_of_nonneg (by omega)]
theorem aac (a:Int):Gh (std 0) (a,()) (fun y=>y=(a%65536,())):=by
  dsimp only [Gh,Alg.cl,Alg.bd,Alg.l1,Tup.q,Tup.o]
  simp only [ZF]
  by_cases h:0≤a
  · rw [show a.tmod 65536=a%65536 by rw [Z9,if_pos h]]
    simp (disch:=omega) only [RR]
    refine⟨by omega,fun h2=> ?_⟩
    exfalso;omega
  · rw [show a.tmod 65536= - (-a%65536) by rw [Z9,if_neg h]]
    simp (disch:=omega) only [RR]
    refine⟨by omega,fun h2=> ?_,fun h2=> ?_⟩
    · rw [show-(-a%65536)+65536=a%65536 by omega]
    · rw [show-(-a%65536)=a%65536 by omega]
theorem aad (a b:List Int) (ha:a.length<1000000000):Gc (std 0) (a,b,()) (fun y=>y=(dO a b,())):=by
  dsimp only [Gc,Alg.cl,Alg.bd,Alg.l1,Tup.q,Tup.o]
  simp (disch:=omega) only [RR]
  refine⟨fun h=>⟨fun h1=> ?_,fun h1=> ?_⟩,fun h=> ?_⟩
  · rw [show dO a b= -1 by(have e:gP a.length b.length= -1:=by unfold gP;rw [if_pos h1]);unfold dO or2;rw [e];rfl]
  · rw [show dO a b=1 by(have e:gP a.length b.length=1:=by unfold gP;rw [if_neg h1,if_pos (by omega)]);unfold dO or2;rw [e];rfl]
  have hl:a.length=b.length:=by omega
  have e0:dO a b=lK a b:=by unfold dO or2;rw [jD.2 (by omega),if_neg (by simp)]
  refine aA (fun(y:List Int×List Int×Int×Unit)=>y.1=a∧y.2.1=b∧0≤y.2.2.1∧y.2.2.1≤a.length∧dO a b=lK (a.drop y.2.2.1.toNat) (b.drop y.2.2.1.toNat)) (fun y=>(a.length-y.2.2.1).toNat) ⟨rfl,rfl,by simp,by simp,by simpa using e0⟩ ?_
  rintro⟨(l1:List Int),(l2:List Int),(i:Int),⟨⟩⟩ hI
  dsimp only at hI ⊢
  obtain⟨rfl,rfl,h1,h2,h3⟩:=hI
  simp (disch:=omega) only [RR]
  refine⟨fun h4=> ?_,fun h4=> ?_⟩
  · have e:=Db l1 l2 i.toNat (by omega) (by omega)
    rw [getD_lt (by omega),getD_lt (by omega)]
    refine⟨by omega,by omega,by omega,by omega,fun h5=> ?_,fun h5=>⟨by omega,by omega,by omega,by omega,fun h6=> ?_,fun h6=>⟨⟨by omega,by omega,?_⟩,by omega⟩⟩⟩
    · rw [h3,e,show gP l1[i.toNat] l2[i.toNat]= -1 by unfold gP;rw [if_pos h5]];rfl
    · rw [h3,e,show gP l1[i.toNat] l2[i.toNat]=1 by unfold gP;rw [if_neg h5,if_pos h6]];rfl
    · rw [h3,e,show gP l1[i.toNat] l2[i.toNat]=0 by unfold gP;rw [if_neg h5,if_neg h6],show(i+1).toNat=i.toNat+1 by omega];rfl
  · rw [h3,List.drop_eq_nil_of_le (by omega),List.drop_eq_nil_of_le (by omega)];rfl
theorem aae {p1:Int×Int×Int×Unit→Bool} {f1:Int×Int×Int×Unit→Bool×Unit} (hp1:∀a b c,p1 (a,b,c,())=true) (hf1:∀a b c,f1 (a,b,c,())=(inB a b c,())) (m:aj) (hm:m.atoms.length<1000000000):
    Gb (std 0) p1 f1 (m,()) (fun y=>y=(bp ((1≤m.bK∧m.bK≤65535)∧m.atoms.length≤4∧aok m.atoms),())):=by
  dsimp only [Gb,Alg.cl,Alg.bd,Alg.l1,Tup.q,Tup.o]
  simp (disch:=omega) only [RR,hp1,hf1,dz,nD]
  refine⟨fun h=> ?_,fun⟨h1,h2⟩=> ?_⟩
  · rw [iY];rintro⟨g1,g2,g3⟩;omega
  refine aA (fun(y:Int×aj×Unit)=>y.2.1=m∧0≤y.1∧y.1≤m.atoms.length∧All y.1 (fun i=>(0≤m.atoms.getD i.toNat default∧m.atoms.getD i.toNat default≤199)∧(0<i→m.atoms.getD (i-1).toNat default≤m.atoms.getD i.toNat default))) (fun y=>(m.atoms.length-y.1).toNat) ⟨rfl,by simp,by simp,All.zero⟩ ?_
  rintro⟨(i:Int),(m':aj),⟨⟩⟩ hI
  dsimp only at hI ⊢
  obtain⟨rfl,h3,h4,h5⟩:=hI
  simp (disch:=omega) only [RR,hp1,hf1,dz,nD]
  refine⟨fun h6=>⟨by omega,by omega,by by_cases c:0<i;(· right;omega);(· left;simp [c]),by by_cases c:0<i;(· right;omega);(· left;simp [c]),by omega,by omega,fun h7=> ?_,fun h7=>⟨⟨by omega,by omega,h5.snoc ⟨h7.1,fun c=> ?_⟩⟩,by omega⟩⟩,fun h6=> ?_⟩
  · rw [iY];rintro⟨g1,g2,g3,g4⟩
    rcases h7 with h7 | ⟨h7,h8⟩
    · exact h7 (g4 _ (dN h3 h6))
    · have:=(dI (d:=default) (R:=fun a b:Int=>a≤b) (fun h1 h2=>Int.le_trans h1 h2)).1 g3 i h7 h6;omega
  · have:=h7.2;rw [decide_eq_true c,Bool.true_and,decide_eq_false_iff_not]at this;omega
  · have h8:=h5.le (by omega:(m'.atoms.length:Int)≤i)
    rw [fJ]
    refine⟨by omega,by omega,(dI (d:=default) (R:=fun a b:Int=>a≤b) (fun h1 h2=>Int.le_trans h1 h2)).2 fun j j1 j2=>(h8 j (by omega) j2).2 j1,oN (d:=default) (G:=fun k:Int=>0≤k∧k≤199).1 fun j j1 j2=>(h8 j j1 j2).1⟩
theorem aaf {p1:aj×Unit→Bool} {f1:aj×Unit→Bool×Unit} (hp1:∀m:aj,m.atoms.length<1000000000→p1 (m,())=true) (hf1:∀m:aj,m.atoms.length<1000000000→f1 (m,())=(bp ((1≤m.bK∧m.bK≤65535)∧m.atoms.length≤4∧aok m.atoms),()))
    {p4:List Int×List Int×Unit→Bool} {f4:List Int×List Int×Unit→Int×Unit} (hp4:∀a b,a.length<1000000000→p4 (a,b,())=true) (hf4:∀a b,a.length<1000000000→f4 (a,b,())=(dO a b,()))
    (a:List aj) (ha:Sh a):Gd (std 0) p1 f1 p4 f4 (a,()) (fun y=>y=(bp (aN a),())):=by
  have hlen:=ha.1
  dsimp only [Gd,Alg.cl,Alg.bd,Alg.l1,Tup.q,Tup.o]
  simp (disch:=omega) only [RR]
  refine⟨fun h=> ?_,fun h=> ?_⟩
  · rw [iY (fun h2=>by have:=h2.len;omega)]
  refine aA (fun(y:Int×List aj×Unit)=>y.2.1=a∧0≤y.1∧y.1≤a.length∧All y.1 (fun i=>((1≤((a).getD (i).toNat default).bK∧((a).getD (i).toNat default).bK≤65535)∧((a).getD (i).toNat default).atoms.length≤4∧aok ((a).getD (i).toNat default).atoms)∧(0<i→lt ((a).getD (i-1).toNat default) ((a).getD (i).toNat default)))) (fun y=>(a.length-y.1).toNat) ⟨rfl,by simp,by simp,All.zero⟩ ?_
  rintro⟨(i:Int),(l':List aj),⟨⟩⟩ hI
  dsimp only at hI ⊢
  obtain⟨rfl,h1,h2,h3⟩:=hI
  simp (disch:=omega) only [RR,hp1 _ (ha.at _),hf1 _ (ha.at _),hp4 _ _ (ha.at _),hf4 _ _ (ha.at _),bq,om]
  refine⟨fun h4=>⟨by omega,by omega,by by_cases c:0<i;(· right;omega);(· left;simp [c]),by by_cases c:0<i;(· right;omega);(· left;simp [c]),by omega,by omega,fun h5=> ?_,fun h5=>⟨⟨by omega,by omega,h3.snoc ⟨h5.1,fun c=> ?_⟩⟩,by omega⟩⟩,fun h4=> ?_⟩
  · rw [iY (fun h=> ?_)]
    obtain⟨g1,g2,g3⟩:=gX.1 h
    rcases h5 with h5 | ⟨h5,h6⟩
    · exact h5 ⟨g1.co _ (dN h1 h4),g3 _ (dN h1 h4)⟩
    · have:=(dI (d:=default) (R:=lt) fD).1 g1.ss i h5 h4
      unfold lt at this;omega
  · have:=h5.2;rw [decide_eq_true c,Bool.true_and,decide_eq_false_iff_not]at this;unfold lt;omega
  · have h8:=h3.le (by omega:(l'.length:Int)≤i)
    rw [fJ]
    have h9:=oN (d:=default) (G:=fun m:aj=>(1≤m.bK∧m.bK≤65535)∧m.atoms.length≤4∧aok m.atoms).1 fun j j1 j2=>(h8 j j1 j2).1
    exact gX.2 ⟨⟨(dI (d:=default) (R:=lt) fD).2 fun j j1 j2=>(h8 j (by omega) j2).2 j1,fun m hm=>(h9 m hm).1⟩,by omega,fun m hm=>(h9 m hm).2⟩
end Go.TX.F
namespace Go.TX.F
open Go Go.AE Go.TX
theorem aag (a:List aj) (n:Int) (ha:Sh a):GK (std 0) (a,n,()) (fun y=>y=(bp (aR a n),())):=by
  have hlen:=ha.1
  dsimp only [GK,Alg.cl,Alg.bd,Alg.l1,Tup.q,Tup.o]
  simp (disch:=omega) only [RR]
  refine aA (fun(y:Int×Int×List aj×Unit)=>y.1=n∧y.2.2.1=a∧0≤y.2.1∧y.2.1≤a.length∧All y.2.1 (fun i=>Mi n ((a).getD (i).toNat default))) (fun y=>(a.length-y.2.1).toNat) ⟨rfl,rfl,by simp,by simp,All.zero⟩ ?_
  rintro⟨(n':Int),(i:Int),(l:List aj),⟨⟩⟩ hI
  dsimp only at hI ⊢
  obtain⟨rfl,rfl,h1,h2,h3⟩:=hI
  simp (disch:=omega) only [RR]
  refine⟨fun h4=> ?_,fun h4=> ?_⟩
  · have h5:=ha.at i.toNat
    refine aA (fun(y:Int×Int×Int×List aj×Unit)=>y.1=n'∧y.2.1=i∧y.2.2.2.1=l∧0≤y.2.2.1∧y.2.2.1≤((l).getD (i).toNat default).atoms.length∧All y.2.2.1 (fun j=>¬n'≤((l).getD (i).toNat default).atoms.getD j.toNat default)) (fun y=>(((l).getD (i).toNat default).atoms.length-y.2.2.1).toNat) ⟨rfl,rfl,rfl,by simp,by simp,All.zero⟩ ?_
    rintro⟨(n'':Int),(i':Int),(j:Int),(l':List aj),⟨⟩⟩ hI
    dsimp only at hI ⊢
    obtain⟨rfl,rfl,rfl,g1,g2,g3⟩:=hI
    simp (disch:=omega) only [RR]
    refine⟨by omega,by omega,fun g4=>⟨by omega,by omega,by omega,by omega,fun g5=> ?_,fun g5=>⟨⟨by omega,by omega,g3.snoc g5⟩,by omega⟩⟩,fun g4=>⟨⟨by omega,by omega,h3.snoc (g3.le (by omega))⟩,by omega⟩⟩
    rw [iY (fun h=>h i' h1 h4 j g1 g4 g5)]
  · rw [fJ (show aR l n' from h3.le (by omega))]
theorem aah {p4:List Int×List Int×Unit→Bool} {f4:List Int×List Int×Unit→Int×Unit} (hp4:∀a b,a.length<1000000000→p4 (a,b,())=true) (hf4:∀a b,a.length<1000000000→f4 (a,b,())=(dO a b,()))
    (a b:List aj) (ha:Sh a):Gy (std 0) p4 f4 (a,b,()) (fun y=>y=(gW a b,())):=by
  have hlen:=ha.1
  dsimp only [Gy,Alg.cl,Alg.bd,Alg.l1,Tup.q,Tup.o]
  simp (disch:=omega) only [RR]
  refine⟨fun h=>⟨fun h1=> ?_,fun h1=> ?_⟩,fun h=> ?_⟩
  · rw [show gW a b= -1 by(have e:gP a.length b.length= -1:=by unfold gP;rw [if_pos h1]);unfold gW;rw [e];rfl]
  · rw [show gW a b=1 by(have e:gP a.length b.length=1:=by unfold gP;rw [if_neg h1,if_pos (by omega)]);unfold gW;rw [e];rfl]
  have hl:a.length=b.length:=by omega
  have e0:gW a b=Dc a b:=by unfold gW;rw [jD.2 (by omega),if_neg (by simp)]
  refine aA (fun(y:Int×List aj×List aj×Unit)=>y.2.1=a∧y.2.2.1=b∧0≤y.1∧y.1≤a.length∧gW a b=Dc (a.drop y.1.toNat) (b.drop y.1.toNat)) (fun y=>(a.length-y.1).toNat) ⟨rfl,rfl,by simp,by simp,by simpa using e0⟩ ?_
  rintro⟨(i:Int),(l:List aj),(l':List aj),⟨⟩⟩ hI
  dsimp only at hI ⊢
  obtain⟨rfl,rfl,h1,h2,h3⟩:=hI
  simp (disch:=omega) only [RR,hp4 _ _ (ha.at _),hf4 _ _ (ha.at _)]
  refine⟨fun h4=> ?_,fun h4=> ?_⟩
  · have e:=Df l l' i.toNat (by omega) (by omega)
    rw [getD_lt (by omega),getD_lt (by omega)]
    generalize hu:l[i.toNat]=u at e ⊢
    generalize hv:l'[i.toNat]=v at e ⊢
    have em:Mj u v=if dO u.atoms v.atoms≠0 then dO u.atoms v.atoms else gP u.bK v.bK:=rfl
    refine⟨by omega,by omega,by omega,by omega,fun h5=> ?_,fun h5=>⟨by omega,by omega,by omega,by omega,fun h6=>⟨by omega,by omega,by omega,by omega,fun h7=> ?_,fun h7=> ?_⟩,fun h6=>⟨⟨by omega,by omega,?_⟩,by omega⟩⟩⟩
    · rw [if_pos h5]at em
      rw [h3,e,em,if_pos h5]
    · rw [if_neg (by simpa using h5),show gP u.bK v.bK= -1 by unfold gP;rw [if_pos h7]]at em
      rw [h3,e,em];rfl
    · rw [if_neg (by simpa using h5),show gP u.bK v.bK=1 by unfold gP;rw [if_neg h7,if_pos (by omega)]]at em
      rw [h3,e,em];rfl
    · rw [if_neg (by simpa using h5),jD.2 h6]at em
      rw [h3,e,em,show(i+1).toNat=i.toNat+1 by omega];rfl
  · rw [h3,List.drop_eq_nil_of_le (by omega)];rfl
theorem aai (a:Atom):GJ (std 0) (a,()) (fun y=>y=(bp (a.x=[]∧a.y=[]),())):=by
  dsimp only [GJ,Alg.cl,Alg.bd,Alg.l1,Tup.q,Tup.o]
  simp (disch:=omega) only [RR]
  refine congrArg (fun b=>(b,())) ?_
  rw [Bool.eq_iff_iff,bq,Bool.and_eq_true,decide_eq_true_eq,decide_eq_true_eq]
  constructor
  · rintro⟨h1,h2⟩;exact⟨List.eq_nil_of_length_eq_zero (by omega),List.eq_nil_of_length_eq_zero (by omega)⟩
  · rintro⟨h1,h2⟩;rw [h1,h2];exact⟨rfl,rfl⟩
theorem aaj {p1:Int×Int×Int×Unit→Bool} {f1:Int×Int×Int×Unit→Bool×Unit} (hp1:∀a b c,p1 (a,b,c,())=true) (hf1:∀a b c,f1 (a,b,c,())=(inB a b c,()))
    {p4:List aj×Unit→Bool} {f4:List aj×Unit→Bool×Unit} (hp4:∀a,Sh a→p4 (a,())=true) (hf4:∀a,Sh a→f4 (a,())=(bp (aN a),()))
    {p3:List aj×Int×Unit→Bool} {f3:List aj×Int×Unit→Bool×Unit} (hp3:∀a n,Sh a→p3 (a,n,())=true) (hf3:∀a n,Sh a→f3 (a,n,())=(bp (aR a n),()))
    {p5:Atom×Unit→Bool} {f5:Atom×Unit→Bool×Unit} (hp5:∀a,p5 (a,())=true) (hf5:∀a,f5 (a,())=(bp (a.x=[]∧a.y=[]),())) (a:Atom) (n:Int) (ha:ShA a):
    GL (std 0) p1 f1 p4 f4 p3 f3 p5 f5 (a,n,()) (fun y=>y=(bp (fO a n),())):=by
  obtain⟨hx,hy⟩:=ha
  dsimp only [GL,Alg.cl,Alg.bd,Alg.l1,Tup.q,Tup.o]
  simp (disch:=omega) only [RR,hp1,hf1,hp5,hf5,hp3 a.x n hx,hf3 a.x n hx,hp3 a.y n hy,hf3 a.y n hy,hp4 a.x hx,hf4 a.x hx,hp4 a.y hy,hf4 a.y hy]
  unfold fO
  have E:∀(b:Bool) (P:Prop),(b=true↔P)→(b,())=(bp P,()):=fun b P h=>by
    rw [show b=bp P from Bool.eq_iff_iff.2 (h.trans bq.symm)]
  have T:∀ {P:Prop},¬P→(false,())=(bp P,()):=fun h=>by rw [iY h]
  refine⟨fun h=>E _ _ ?_,fun h=>⟨fun h1=>⟨fun _=>E _ _ ?_,fun h'=>absurd h1 h'⟩,fun h1=>⟨fun h2=>E _ _ ?_,fun h2=>⟨fun h3=>E _ _ ?_,fun h3=>T ?_⟩⟩⟩⟩
  · rw [if_neg (by omega),Bool.and_eq_true,dz,bq]
    constructor
    · rintro⟨g1,g2⟩;exact⟨g2,Or.inl ⟨h,g1⟩⟩
    · rintro⟨g2,⟨_,g1⟩ | ⟨g3,g1⟩⟩
      · exact⟨g1,g2⟩
      · omega
  · rw [if_neg (by omega),Bool.and_eq_true,dz,bq]
    constructor
    · rintro⟨g1,g2⟩;exact⟨g2,Or.inr ⟨Or.inl h1,g1⟩⟩
    · rintro⟨g2,⟨_,g1⟩ | ⟨g3,g1⟩⟩
      · omega
      · exact⟨g1,g2⟩
  · rw [if_neg (by omega),Bool.and_eq_true,dz,bq]
    constructor
    · rintro⟨g1,g2⟩;exact⟨g2,Or.inr ⟨Or.inr h2,g1⟩⟩
    · rintro⟨g2,⟨_,g1⟩ | ⟨g3,g1⟩⟩
      · omega
      · exact⟨g1,g2⟩
  · rw [if_pos h3]
    simp only [Bool.and_eq_true,dz,bq,and_assoc]
  · rw [if_neg h3]
    rintro⟨_,⟨g,_⟩ | ⟨g,_⟩⟩<;>omega
theorem aak {p1:List aj×List aj×Unit→Bool} {f1:List aj×List aj×Unit→Int×Unit} (hp1:∀a b,Sh a→p1 (a,b,())=true) (hf1:∀a b,Sh a→f1 (a,b,())=(gW a b,())) (a b:Atom) (ha:ShA a):
    GU (std 0) p1 f1 (a,b,()) (fun y=>y=(oM a b,())):=by
  dsimp only [GU,Alg.cl,Alg.bd,Alg.l1,Tup.q,Tup.o]
  simp (disch:=omega) only [RR,hp1 a.x b.x ha.1,hf1 a.x b.x ha.1,hp1 a.y b.y ha.2,hf1 a.y b.y ha.2]
  rfl
theorem aal (G:Int→Prop):∀n:Nat,∃r,Idx n G r
  | 0=>⟨-1,Or.inl ⟨rfl,All.zero⟩⟩
  | n+1=>by
    obtain⟨r,h⟩:=aal G n
    rcases h with⟨h1,h2⟩ | ⟨h1,h2,h3,h4⟩
    · by_cases g:G n
      · exact⟨n,Or.inr ⟨by omega,by omega,g,h2⟩⟩
      · exact⟨-1,Or.inl ⟨rfl,by have:=h2.snoc g;exact this.le (by omega)⟩⟩
    · exact⟨r,Or.inr ⟨h1,by omega,h3,h4⟩⟩
theorem Tk (G:Int→Prop) (n:Nat):Idx n G (idxOf n G):=by
  obtain⟨r,h⟩:=aal G n
  rw [←h.eq];exact h
theorem l9 (t:List Atom) (a:Atom):Idx t.length (fun i=>a=t.getD i.toNat default) (sZ t a):=by
  have:=Tk (fun i=>oM a (t.getD i.toNat default)=true) t.length
  simp only [nM]at this
  unfold sZ;simp only [nM];exact this
theorem mg {t:List Atom}:aI t↔All t.length (fun i=>fO (t.getD i.toNat default) i∧All i (fun j=>¬t.getD i.toNat default=t.getD j.toNat default))∧t.length≤200:=by
  unfold aI
  refine and_congr ⟨fun h i h1 h2=>⟨(h i h1 h2).1,?_⟩,fun h i h1 h2=>⟨(h i h1 h2).1,?_⟩⟩ Iff.rfl
  · have:=l9 t (t.getD i.toNat default)
    rw [(h i h1 h2).2]at this
    rcases this with⟨g1,_⟩ | ⟨_,_,_,g⟩
    · omega
    · exact g
  · exact((l9 t (t.getD i.toNat default)).uniq (Or.inr ⟨h1,h2,rfl,(h i h1 h2).2⟩))
theorem aam {p1:Atom×Int×Unit→Bool} {f1:Atom×Int×Unit→Bool×Unit} (hp1:∀a n,ShA a→p1 (a,n,())=true) (hf1:∀a n,ShA a→f1 (a,n,())=(bp (fO a n),()))
    {p2:Atom×Atom×Unit→Bool} {f2:Atom×Atom×Unit→Bool×Unit} (hp2:∀a b,ShA a→p2 (a,b,())=true) (hf2:∀a b,ShA a→f2 (a,b,())=(oM a b,())) (a:List Atom) (ha:ShT a):
    GV (std 0) p1 f1 p2 f2 (a,()) (fun y=>y=(bp (aI a),())):=by
  have hlen:=ha.1
  dsimp only [GV,Alg.cl,Alg.bd,Alg.l1,Tup.q,Tup.o]
  simp (disch:=omega) only [RR]
  refine⟨fun h=> ?_,fun h=> ?_⟩
  · rw [iY (fun h2=>by have:=h2.2;omega)]
  refine aA (fun(y:Int×List Atom×Unit)=>y.2.1=a∧0≤y.1∧y.1≤a.length∧All y.1 (fun i=>fO ((a).getD (i).toNat default) i∧All i (fun j=>¬((a).getD (i).toNat default)=((a).getD (j).toNat default)))) (fun y=>(a.length-y.1).toNat) ⟨rfl,by simp,by simp,All.zero⟩ ?_
  rintro⟨(i:Int),(l:List Atom),⟨⟩⟩ hI
  dsimp only at hI ⊢
  obtain⟨rfl,h1,h2,h3⟩:=hI
  simp (disch:=omega) only [RR,hp1 _ _ (ha.at _),hf1 _ _ (ha.at _),bq,om]
  refine⟨fun h4=>⟨by omega,by omega,fun h5=> ?_,fun h5=> ?_⟩,fun h4=> ?_⟩
  · rw [iY (fun h=>h5 (h.1 i h1 h4).1)]
  · refine aA (fun(y:Int×Int×List Atom×Unit)=>y.1=i∧y.2.2.1=l∧0≤y.2.1∧y.2.1≤i∧All y.2.1 (fun j=>¬((l).getD (i).toNat default)=((l).getD (j).toNat default))) (fun y=>(i-y.2.1).toNat) ⟨rfl,rfl,by simp,by simp;omega,All.zero⟩ ?_
    rintro⟨(i':Int),(j:Int),(l':List Atom),⟨⟩⟩ hI
    dsimp only at hI ⊢
    obtain⟨rfl,rfl,g1,g2,g3⟩:=hI
    simp (disch:=omega) only [RR,hp2 _ _ (ha.at _),hf2 _ _ (ha.at _)]
    refine⟨fun g4=>⟨by omega,by omega,by omega,by omega,fun g5=> ?_,fun g5=>⟨⟨by omega,by omega,g3.snoc ?_⟩,by omega⟩⟩,fun g4=>⟨⟨by omega,by omega,h3.snoc ⟨h5,g3.le (by omega)⟩⟩,by omega⟩⟩
    · rw [iY (fun h=>((mg.1 h).1 i' h1 h4).2 j g1 g4 (nM.1 g5).symm)]
    · intro e;rw [nM.2 e.symm]at g5;cases g5
  · rw [fJ (mg.2 ⟨h3.le (by omega),by omega⟩)]
theorem aan {p4:List aj×Unit→Bool} {f4:List aj×Unit→Bool×Unit} (hp4:∀a,Sh a→p4 (a,())=true) (hf4:∀a,Sh a→f4 (a,())=(bp (aN a),()))
    {p3:List aj×Int×Unit→Bool} {f3:List aj×Int×Unit→Bool×Unit} (hp3:∀a n,Sh a→p3 (a,n,())=true) (hf3:∀a n,Sh a→f3 (a,n,())=(bp (aR a n),()))
    (x y:List aj) (n:Int) (hx:Sh x) (hy:Sh y):Jb (std 0) p4 f4 p3 f3 (x,y,n,()) (fun z=>z=(bp (aN x∧aN y∧aR x n∧aR y n),())):=by
  dsimp only [Jb,Alg.cl,Alg.bd,Alg.l1,Tup.q,Tup.o]
  simp (disch:=omega) only [RR,hp3 x n hx,hf3 x n hx,hp3 y n hy,hf3 y n hy,hp4 x hx,hf4 x hx,hp4 y hy,hf4 y hy]
  refine congrArg (fun b=>(b,())) ?_
  rw [Bool.eq_iff_iff,bq]
  simp only [Bool.and_eq_true,bq,and_assoc]
theorem aao {p1:Int×Unit→Bool} {f1:Int×Unit→Bool×Unit} (hp1:∀a,p1 (a,())=true) (hf1:∀a,f1 (a,())=(inB a 0 65535,()))
    {p2:Int×Unit→Bool} {f2:Int×Unit→Int×Unit} (hp2:∀a,p2 (a,())=true) (hf2:∀a,f2 (a,())=(a%65536,())) (op a b:Int):
    G6 (std 0) p2 f2 p1 f1 (op,a,b,()) (fun y=>y=(wdo op a b,())):=by
  dsimp only [G6,Alg.cl,Alg.bd,Alg.l1,Tup.q,Tup.o]
  simp (disch:=omega) only [RR,hp1,hf1,hp2,hf2,Ti,Tj,dz,nD]
  by_cases ha:(0≤a∧a≤65535)∧(0≤b∧b≤65535)
  · have hm:0≤a*b∧a*b≤65535*65535:=⟨Int.mul_nonneg ha.1.1 ha.2.1,Int.mul_le_mul ha.1.2 ha.2.2 ha.2.1 (by omega)⟩
    rw [w64 (x:=a+b) (by omega) (by omega),w64 (x:=a-b) (by omega) (by omega),w64 (x:=a*b) (by omega) (by omega)]
    unfold wdo
    rw [if_pos ha]
    refine⟨fun h=>absurd h (by omega),fun _=>⟨fun h=> ?_,fun h=>⟨fun h1=> ?_,fun h1=>⟨fun h2=> ?_,fun h2=>⟨fun h3=> ?_,fun h3=>⟨fun h4=> ?_,fun h4=> ?_⟩⟩⟩⟩⟩⟩<;>(subst_vars;first | rfl | simp only [if_true,if_false, *])
  · refine⟨fun h=> ?_,fun h=>absurd h ?_⟩
    · unfold wdo;rw [if_neg ha]
    · exact ha
theorem aap {p1:List aj×Unit→Bool} {f1:List aj×Unit→Bool×Unit} (hp1:∀a,Sh a→p1 (a,())=true) (hf1:∀a,Sh a→f1 (a,())=(bp (aN a),())) (a:List aj) (ha:Sh a):
    Gx (std 0) p1 f1 (a,()) (fun y=>y=((dQ a).1,(dQ a).2,())):=by
  dsimp only [Gx,Alg.cl,Alg.bd,Alg.l1,Tup.q,Tup.o]
  simp (disch:=omega) only [RR,hp1 a ha,hf1 a ha]
  unfold dQ
  have z:Int.toNat 0=0:=rfl
  rw [z]
  refine⟨fun h=> ?_,fun h=>⟨fun h1=> ?_,fun h1=>⟨by omega,by omega,fun h2=> ?_,fun h2=>⟨by omega,by omega,?_⟩⟩⟩⟩
  · rw [if_neg (by simpa using h)]
  · rw [if_pos h,if_pos (by omega)]
  · rw [if_pos h,if_neg (by omega),if_neg (by omega)]
  · rw [if_pos h,if_neg (by omega),if_pos (by omega)]
theorem aaq (a:List aj) (ha:Sh a):Gj (std 0) (a,()) (fun y=>y=(a,())):=by
  have hlen:=ha.1
  dsimp only [Gj,Alg.cl,Alg.bd,Alg.l1,Tup.q,Tup.o]
  simp (disch:=omega) only [RR]
  refine aA (fun(y:List aj×Int×List aj×Unit)=>y.1=a∧y.2.2.1=a.take y.2.1.toNat∧0≤y.2.1∧y.2.1≤a.length) (fun y=>(a.length-y.2.1).toNat) ⟨rfl,by simp,by simp,by simp⟩ ?_
  rintro⟨(l:List aj),(i:Int),(o:List aj),⟨⟩⟩ hI
  dsimp only at hI ⊢
  obtain⟨rfl,rfl,h1,h2⟩:=hI
  have h3:=ha.at i.toNat
  have h4:=List.length_take_le' i.toNat l
  simp (disch:=omega) only [RR]
  simp only [List.length_nil,List.nil_append,List.length_cons]
  refine⟨fun h4=>⟨by omega,by omega,by omega,by omega,Or.inr (by omega),by omega,by omega,⟨dP h1 h4 rfl,by omega,by omega⟩,by omega⟩,fun h4=>by rw [List.take_of_length_le (by omega)]⟩
end Go.TX.F
namespace Go.TX.F
open Go Go.AE Go.TX
def Jl (l:List aj):Prop:=l.length≤12∧∀m∈l,m.atoms.length≤4
theorem aar {p1:List aj×Unit→Bool} {f1:List aj×Unit→List aj×Unit} (hp1:∀a,Sh a→p1 (a,())=true) (hf1:∀a,Sh a→f1 (a,())=(a,())) (a:List aj) (ha:Sh a):
    Gm (std 0) p1 f1 (a,()) (fun y=>y=(bp (Jl a),if bp (Jl a)then a else [],())):=by
  have hlen:=ha.1
  dsimp only [Gm,Alg.cl,Alg.bd,Alg.l1,Tup.q,Tup.o]
  simp (disch:=omega) only [RR]
  refine⟨fun h=> ?_,fun h=> ?_⟩
  · rw [iY (fun h2=>by have:=h2.1;omega)];rfl
  refine aA (fun(y:List aj×Int×Unit)=>y.1=a∧0≤y.2.1∧y.2.1≤a.length∧All y.2.1 (fun i=>((a).getD (i).toNat default).atoms.length≤4)) (fun y=>(a.length-y.2.1).toNat) ⟨rfl,by simp,by simp,All.zero⟩ ?_
  rintro⟨(l:List aj),(i:Int),⟨⟩⟩ hI
  dsimp only at hI ⊢
  obtain⟨rfl,h1,h2,h3⟩:=hI
  simp (disch:=omega) only [RR,hp1 l ha,hf1 l ha]
  refine⟨fun h4=>⟨by omega,by omega,fun h5=> ?_,fun h5=>⟨⟨by omega,by omega,h3.snoc (by omega)⟩,by omega⟩⟩,fun h4=> ?_⟩
  · rw [iY (fun h=>by have:=h.2 _ (dN (d:=default) h1 h4);omega)];rfl
  · rw [fJ (show Jl l from⟨by omega,oN (d:=default) (G:=fun m:aj=>m.atoms.length≤4).1 (h3.le (by omega))⟩)];rfl
theorem aas {p1:List aj×Unit→Bool} {f1:List aj×Unit→List aj×Unit} (hp1:∀a,Sh a→p1 (a,())=true) (hf1:∀a,Sh a→f1 (a,())=(a,())) (a:Atom) (ha:ShA a):
    GX (std 0) p1 f1 (a,()) (fun y=>y=(a.kind,a.k,a.x,a.y,())):=by
  dsimp only [GX,Alg.cl,Alg.bd,Alg.l1,Tup.q,Tup.o]
  simp (disch:=omega) only [RR,hp1 a.x ha.1,hf1 a.x ha.1,hp1 a.y ha.2,hf1 a.y ha.2]
theorem aat {p1:Atom×Unit→Bool} {f1:Atom×Unit→Int×Int×List aj×List aj×Unit} (hp1:∀a,ShA a→p1 (a,())=true) (hf1:∀a,ShA a→f1 (a,())=(a.kind,a.k,a.x,a.y,())) (a:List Atom) (ha:ShT a):
    GY (std 0) p1 f1 (a,()) (fun y=>y=(a,())):=by
  have hlen:=ha.1
  dsimp only [GY,Alg.cl,Alg.bd,Alg.l1,Tup.q,Tup.o]
  simp (disch:=omega) only [RR]
  refine aA (fun(y:Int×List Atom×List Atom×Unit)=>y.2.1=a∧y.2.2.1=a.take y.1.toNat∧0≤y.1∧y.1≤a.length) (fun y=>(a.length-y.1).toNat) ⟨rfl,by simp,by simp,by simp⟩ ?_
  rintro⟨(i:Int),(l:List Atom),(o:List Atom),⟨⟩⟩ hI
  dsimp only at hI ⊢
  obtain⟨rfl,rfl,h1,h2⟩:=hI
  simp (disch:=omega) only [RR,hp1 _ (ha.at _),hf1 _ (ha.at _)]
  have h5:=List.length_take_le' i.toNat l
  refine⟨fun h4=>⟨by omega,by omega,?_,⟨dP h1 h4 rfl,by omega,by omega⟩,by omega⟩,fun h4=>by rw [List.take_of_length_le (by omega)]⟩
  simp only [List.length_cons,List.length_nil];omega
theorem xI {p:List aj} {n m:Int} (h:aR p n) (h2:n≤m):aR p m:=dD.2 fun a ha k hk=>by have:=dD.1 h a ha k hk;omega
theorem aau {a:Atom} {n m:Int} (h:fO a n) (h2:n≤m):fO a m:=by
  unfold fO at h ⊢
  split
  · rename_i h3;rw [if_pos h3]at h;exact⟨h.1,h.2.1,h.2.2.1,xI h.2.2.2.1 h2,xI h.2.2.2.2 h2⟩
  · rename_i h3;rw [if_neg h3]at h;exact h
theorem aav {p1:Atom×Int×Unit→Bool} {f1:Atom×Int×Unit→Bool×Unit} (hp1:∀a n,ShA a→p1 (a,n,())=true) (hf1:∀a n,ShA a→f1 (a,n,())=(bp (fO a n),()))
    {p2:Atom×Atom×Unit→Bool} {f2:Atom×Atom×Unit→Bool×Unit} (hp2:∀a b,ShA a→p2 (a,b,())=true) (hf2:∀a b,ShA a→f2 (a,b,())=(oM a b,()))
    {p3:Atom×Unit→Bool} {f3:Atom×Unit→Int×Int×List aj×List aj×Unit} (hp3:∀a,ShA a→p3 (a,())=true) (hf3:∀a,ShA a→f3 (a,())=(a.kind,a.k,a.x,a.y,()))
    (a:Atom) (t:List Atom) (ha:ShA a) (ht:ShT t) (hok:aI t):GZ (std 0) p1 f1 p2 f2 p3 f3 (a,t,()) (fun y=>y=((bD t a).2,(bD t a).1,())):=by
  have hlen:=ht.1
  dsimp only [GZ,Alg.cl,Alg.bd,Alg.l1,Tup.q,Tup.o]
  simp (disch:=omega) only [RR,hp1 _ _ ha,hf1 _ _ ha,bq,om]
  have hsp:=l9 t a
  refine⟨fun h=> ?_,fun h=> ?_⟩
  · have:sZ t a= -1:=by
      rcases hsp with⟨g,_⟩ | ⟨g1,g2,g3,_⟩
      · exact g
      · exfalso;apply h
        have:=(hok.1 _ g1 g2).1
        rw [←g3]at this;exact aau this (by omega)
    unfold bD
    rw [this,if_neg (by omega),if_pos (Or.inl h)]
  refine aA (fun(y:Int×List Atom×Atom×Unit)=>y.2.1=t∧y.2.2.1=a∧0≤y.1∧y.1≤t.length∧All y.1 (fun i=>¬a=t.getD i.toNat default)) (fun y=>(t.length-y.1).toNat) ⟨rfl,rfl,by simp,by simp,All.zero⟩ ?_
  rintro⟨(i:Int),(l:List Atom),(a':Atom),⟨⟩⟩ hI
  dsimp only at hI ⊢
  obtain⟨rfl,rfl,h1,h2,h3⟩:=hI
  simp (disch:=omega) only [RR,hp2 _ _ (ht.at _),hf2 _ _ (ht.at _),hp3 _ ha,hf3 _ ha]
  refine⟨fun h4=>⟨by omega,by omega,by omega,by omega,fun h5=> ?_,fun h5=>⟨⟨by omega,by omega,h3.snoc ?_⟩,by omega⟩⟩,fun h4=> ?_⟩
  · have e:=(nM.1 h5).symm
    have:sZ l a'=i:=hsp.uniq (Or.inr ⟨h1,h4,e,h3⟩)
    unfold bD;rw [this,if_pos h1]
  · intro e;rw [nM.2 e.symm]at h5;cases h5
  · have:sZ l a'= -1:=hsp.uniq (Or.inl ⟨rfl,h3.le (by omega)⟩)
    unfold bD;rw [this,if_neg (by omega)]
    refine⟨fun h5=> ?_,fun h5=>⟨?_,?_⟩⟩
    · rw [if_pos (Or.inr (by omega))]
    · simp only [List.length_cons,List.length_nil];omega
    · rw [if_neg (by rintro(g | g);exact g h;omega),List.length_append]
      rw [w64 (by simp only [List.length_cons,List.length_nil];omega) (by simp only [List.length_cons,List.length_nil];omega)]
      simp only [List.length_cons,List.length_nil]
      rw [show(((l.length+(0+1):Nat):Int)-1)=l.length by omega]
def DZ (op n:Int) (y:List aj):List aj×Bool:=if op=4∧n=0 then([],true)else if(op=4∧n=65535)∨(op=5∧n=0)then(y,true)else([],false)
theorem aaw {p1:List aj×Unit→Bool} {f1:List aj×Unit→List aj×Unit} (hp1:∀a,Sh a→p1 (a,())=true) (hf1:∀a,Sh a→f1 (a,())=(a,())) (op n:Int) (y:List aj) (hy:Sh y):
    G7 (std 0) p1 f1 (op,n,y,()) (fun z=>z=((DZ op n y).2,(DZ op n y).1,())):=by
  dsimp only [G7,Alg.cl,Alg.bd,Alg.l1,Tup.q,Tup.o]
  simp (disch:=omega) only [RR,hp1 y hy,hf1 y hy]
  unfold DZ
  by_cases c1:op=4<;>by_cases c2:n=0<;>by_cases c3:n=65535<;>by_cases c4:op=5<;>simp [c1,c2,c3,c4]<;>omega
theorem aeZ (op:Int) (x y:List aj):Jk op x y=if(dQ x).2&& (dQ y).2 then(dJ (wdo op (dQ x).1 (dQ y).1),true)
    else if gW x y=0 then(if op=4 then(x,true)else([],true))else if(dQ x).2 then DZ op (dQ x).1 y else if(dQ y).2 then DZ op (dQ y).1 x else([],false):=by
  unfold Jk DZ
  by_cases c1:gW x y=0<;>by_cases c2:op=4<;>simp [c1,c2]
theorem aax {p1:List aj×List aj×Unit→Bool} {f1:List aj×List aj×Unit→Int×Unit} (hp1:∀a b,Sh a→p1 (a,b,())=true) (hf1:∀a b,Sh a→f1 (a,b,())=(gW a b,()))
    {p2:List aj×Unit→Bool} {f2:List aj×Unit→List aj×Unit} (hp2:∀a,Sh a→p2 (a,())=true) (hf2:∀a,Sh a→f2 (a,())=(a,()))
    {p3:Int×Int×Int×Unit→Bool} {f3:Int×Int×Int×Unit→Int×Unit} (hp3:∀op a b,p3 (op,a,b,())=true) (hf3:∀op a b,f3 (op,a,b,())=(wdo op a b,()))
    {p4:Int×Unit→Bool} {f4:Int×Unit→List aj×Unit} (hp4:∀n,p4 (n,())=true) (hf4:∀n,f4 (n,())=(dJ n,()))
    {p7:List aj×Unit→Bool} {f7:List aj×Unit→Int×Bool×Unit} (hp7:∀a,Sh a→p7 (a,())=true) (hf7:∀a,Sh a→f7 (a,())=((dQ a).1,(dQ a).2,()))
    {p8:Int×Int×List aj×Unit→Bool} {f8:Int×Int×List aj×Unit→Bool×List aj×Unit} (hp8:∀op n y,Sh y→p8 (op,n,y,())=true) (hf8:∀op n y,Sh y→f8 (op,n,y,())=((DZ op n y).2,(DZ op n y).1,()))
    (op:Int) (x y:List aj) (hx:Sh x) (hy:Sh y):G8 (std 0) p1 f1 p2 f2 p3 f3 p4 f4 p7 f7 p8 f8 (op,x,y,()) (fun z=>z=((Jk op x y).2,(Jk op x y).1,())):=by
  dsimp only [G8,Alg.cl,Alg.bd,Alg.l1,Tup.q,Tup.o]
  simp (disch:=omega) only [RR,hp1 x y hx,hf1 x y hx,hp2 x hx,hf2 x hx,hp3,hf3,hp4,hf4,hp7 x hx,hf7 x hx,hp7 y hy,hf7 y hy,hp8 op _ y hy,hf8 op _ y hy,hp8 op _ x hx,hf8 op _ x hx]
  rw [aeZ]
  generalize dQ x=nx
  generalize dQ y=ny
  obtain⟨n,bn⟩:=nx
  obtain⟨m,bm⟩:=ny
  dsimp only
  by_cases e:gW x y=0<;>by_cases o4:op=4<;>cases bn<;>cases bm<;>simp [e,o4]
noncomputable def Jm (op:Int) (x y:List aj):List aj×Bool:=
  if op=1 then((mZ x y).2,(mZ x y).1)else if op=2 then((mZ x (jr y 65535)).2,(mZ x (jr y 65535)).1)else if op=3 then((l8 x y).2,(l8 x y).1)else([],false)
theorem aay
    {p5:List aj×List aj×Unit→Bool} {f5:List aj×List aj×Unit→Bool×List aj×Unit} (hp5:∀a b,Sh a→Sh b→p5 (a,b,())=true) (hf5:∀a b,Sh a→Sh b→f5 (a,b,())=((l8 a b).1,(l8 a b).2,()))
    {p4:List aj×List aj×Unit→Bool} {f4:List aj×List aj×Unit→Bool×List aj×Unit} (hp4:∀a b,Sh a→Sh b→p4 (a,b,())=true) (hf4:∀a b,Sh a→Sh b→f4 (a,b,())=((mZ a b).1,(mZ a b).2,()))
    {p6:List aj×Int×Unit→Bool} {f6:List aj×Int×Unit→List aj×Unit} (hp6:∀a n,Sh a→p6 (a,n,())=true) (hf6:∀a n,Sh a→f6 (a,n,())=(jr a n,()))
    (op:Int) (x y:List aj) (hx:Sh x) (hy:Sh y):G5 (std 0) p5 f5 p4 f4 p6 f6 (op,x,y,()) (fun z=>z=((Jm op x y).2,(Jm op x y).1,())):=by
  dsimp only [G5,Alg.cl,Alg.bd,Alg.l1,Tup.q,Tup.o]
  simp (disch:=omega) only [RR,hp4 x y hx hy,hf4 x y hx hy,hp4 x _ hx (xH y 65535),hf4 x _ hx (xH y 65535),hp5 x y hx hy,hf5 x y hx hy,hp6 y _ hy,hf6 y _ hy]
  unfold Jm
  refine⟨fun h=>by rw [if_pos h],fun h=>⟨fun h1=>by rw [if_neg h,if_pos h1],fun h1=>⟨fun h2=>by rw [if_neg h,if_neg h1,if_pos h2],fun h2=>by rw [if_neg h,if_neg h1,if_neg h2]⟩⟩⟩
theorem aaz {p1:Int×Unit→Bool} {f1:Int×Unit→List aj×Unit} (hp1:∀n,p1 (n,())=true) (hf1:∀n,f1 (n,())=(fG n,()))
    {p2:List aj×List aj×Unit→Bool} {f2:List aj×List aj×Unit→Int×Unit} (hp2:∀a b,Sh a→p2 (a,b,())=true) (hf2:∀a b,Sh a→f2 (a,b,())=(gW a b,()))
    {p3:Int×List aj×List aj×Unit→Bool} {f3:Int×List aj×List aj×Unit→Bool×List aj×Unit} (hp3:∀op x y,Sh x→Sh y→p3 (op,x,y,())=true) (hf3:∀op x y,Sh x→Sh y→f3 (op,x,y,())=((Jm op x y).2,(Jm op x y).1,()))
    {p4:Int×List aj×List aj×Unit→Bool} {f4:Int×List aj×List aj×Unit→Bool×List aj×Unit} (hp4:∀op x y,Sh x→Sh y→p4 (op,x,y,())=true) (hf4:∀op x y,Sh x→Sh y→f4 (op,x,y,())=((Jk op x y).2,(Jk op x y).1,()))
    {p5:Atom×List Atom×Unit→Bool} {f5:Atom×List Atom×Unit→Int×List Atom×Unit} (hp5:∀a t,ShA a→ShT t→aI t→p5 (a,t,())=true) (hf5:∀a t,ShA a→ShT t→aI t→f5 (a,t,())=((bD t a).2,(bD t a).1,()))
    (op:Int) (x y:List aj) (t:List Atom) (hop:1≤op∧op≤5) (hx:Sh x) (hy:Sh y) (ht:ShT t) (hok:aI t):G9 (std 0) p1 f1 p2 f2 p3 f3 p4 f4 p5 f5 (op,x,y,t,()) (fun z=>z=((tDo t op x y).1,(tDo t op x y).2,())):=by
  have s1:ShA ⟨4,op,x,y⟩:=⟨hx,hy⟩
  have s2:ShA ⟨4,op,y,x⟩:=⟨hy,hx⟩
  dsimp only [G9,Alg.cl,Alg.bd,Alg.l1,Tup.q,Tup.o]
  simp (disch:=omega) only [RR,hp1,hf1,hp2 x y hx,hf2 x y hx,hp3 op x y hx hy,hf3 op x y hx hy,hp4 op x y hx hy,hf4 op x y hx hy,hp5 _ _ s1 ht hok,hf5 _ _ s1 ht hok,hp5 _ _ s2 ht hok,hf5 _ _ s2 ht hok]
  have e1:(op=4∨op=5)→Jk op x y=jv op x y:=fun h=>by unfold jv;rw [if_neg (by omega),if_neg (by omega),if_neg (by omega)]
  have e2:¬(op=4∨op=5)→Jm op x y=jv op x y:=fun h=>by
    unfold jv Jm
    by_cases c1:op=1
    · rw [if_pos c1,if_pos c1]
    · rw [if_neg c1,if_neg c1]
      by_cases c2:op=2
      · rw [if_pos c2,if_pos c2]
      · rw [if_neg c2,if_neg c2,if_pos (by omega),if_pos (by omega)]
  unfold tDo
  by_cases c:op=4∨op=5
  · rw [e1 c]
    generalize bD t ⟨4,op,y,x⟩=r1
    generalize bD t ⟨4,op,x,y⟩=r2
    generalize gW x y=o
    generalize jv op x y=s
    obtain⟨p,b⟩:=s
    have c':¬op=2:=by omega
    cases b<;>by_cases c2:0<o<;>by_cases c3:r1.2<0<;>by_cases c4:r2.2<0<;>simp [c,c',c2,c3,c4]<;>omega
  · rw [e2 c]
    generalize bD t ⟨4,op,y,x⟩=r1
    generalize bD t ⟨4,op,x,y⟩=r2
    generalize gW x y=o
    generalize jv op x y=s
    obtain⟨p,b⟩:=s
    obtain⟨n4,n5⟩:=not_or.1 c
    cases b<;>by_cases c1:op=2<;>by_cases c2:0<o<;>by_cases c3:r1.2<0<;>by_cases c4:r2.2<0<;>simp [n4,n5,c1,c2,c3,c4]
theorem aaA {t:List Atom} {op:Int} {x y:List aj}:(bp (aI t)&&inB op 1 5&&bp (aN x∧aN y∧aR x t.length∧aR y t.length))=true→vP t op x y=tDo t op x y:=fun h=>by
  simp only [Bool.and_eq_true,bq,dz,and_assoc]at h
  unfold vP;rw [if_pos (by simpa only [and_assoc]using h)]
theorem XG {t:List Atom} {op:Int} {x y:List aj}:¬(bp (aI t)&&inB op 1 5&&bp (aN x∧aN y∧aR x t.length∧aR y t.length))=true→vP t op x y=([],[]):=fun h=>by
  simp only [Bool.and_eq_true,bq,dz,and_assoc]at h
  unfold vP;rw [if_neg (by simpa only [and_assoc]using h)]
theorem aaB {p1:Int×Int×Int×Unit→Bool} {f1:Int×Int×Int×Unit→Bool×Unit} (hp1:∀a b c,p1 (a,b,c,())=true) (hf1:∀a b c,f1 (a,b,c,())=(inB a b c,()))
    {p2:List Atom×Unit→Bool} {f2:List Atom×Unit→Bool×Unit} (hp2:∀a,ShT a→p2 (a,())=true) (hf2:∀a,ShT a→f2 (a,())=(bp (aI a),()))
    {p3:List aj×List aj×Int×Unit→Bool} {f3:List aj×List aj×Int×Unit→Bool×Unit} (hp3:∀x y n,Sh x→Sh y→p3 (x,y,n,())=true) (hf3:∀x y n,Sh x→Sh y→f3 (x,y,n,())=(bp (aN x∧aN y∧aR x n∧aR y n),()))
    {p4:Int×List aj×List aj×List Atom×Unit→Bool} {f4:Int×List aj×List aj×List Atom×Unit→List Atom×List aj×Unit} (hp4:∀op x y t,1≤op∧op≤5→Sh x→Sh y→ShT t→aI t→p4 (op,x,y,t,())=true) (hf4:∀op x y t,1≤op∧op≤5→Sh x→Sh y→ShT t→aI t→f4 (op,x,y,t,())=((tDo t op x y).1,(tDo t op x y).2,()))
    {p5:List Atom×Unit→Bool} {f5:List Atom×Unit→List Atom×Unit} (hp5:∀a,ShT a→p5 (a,())=true) (hf5:∀a,ShT a→f5 (a,())=(a,()))
    (t:List Atom) (op:Int) (x y:List aj) (ht:ShT t) (hx:Sh x) (hy:Sh y):Jc (std 0) p1 f1 p2 f2 p3 f3 p4 f4 p5 f5 (t,op,x,y,()) (fun z=>z=((vP t op x y).1,(vP t op x y).2,())):=by
  dsimp only [Jc,Alg.cl,Alg.bd,Alg.l1,Tup.q,Tup.o]
  simp (disch:=omega) only [RR,hp1,hf1,hp2 t ht,hf2 t ht,hp3 x y _ hx hy,hf3 x y _ hx hy,hp5 t ht,hf5 t ht]
  refine⟨fun h=> ?_,fun h=> ?_⟩
  · rw [XG]
    intro g
    simp only [Bool.and_eq_true]at g
    rcases h with(h | h) | h
    · rw [g.1.1]at h;cases h
    · rw [g.1.2]at h;cases h
    · rw [g.2]at h;cases h
  · rw [aaA (by rw [h.1.1,h.1.2,h.2];rfl)]
    have h1:=bq.1 h.1.1
    have h2:=dz.1 h.1.2
    exact⟨hp4 _ _ _ _ h2 hx hy ht h1,by rw [hf4 _ _ _ _ h2 hx hy ht h1]⟩
theorem aaC {p2:List Atom×Unit→Bool} {f2:List Atom×Unit→Bool×Unit} (hp2:∀a,ShT a→p2 (a,())=true) (hf2:∀a,ShT a→f2 (a,())=(bp (aI a),()))
    {p3:Atom×List Atom×Unit→Bool} {f3:Atom×List Atom×Unit→Int×List Atom×Unit} (hp3:∀a t,ShA a→ShT t→aI t→p3 (a,t,())=true) (hf3:∀a t,ShA a→ShT t→aI t→f3 (a,t,())=((bD t a).2,(bD t a).1,()))
    {p5:List Atom×Unit→Bool} {f5:List Atom×Unit→List Atom×Unit} (hp5:∀a,ShT a→p5 (a,())=true) (hf5:∀a,ShT a→f5 (a,())=(a,()))
    (t:List Atom) (a:Atom) (ht:ShT t) (ha:ShA a):Jd (std 0) p2 f2 p3 f3 p5 f5 (t,a,()) (fun z=>z=if bp (aI t)then((bD t a).2,(bD t a).1,())else(-1,[],())):=by
  dsimp only [Jd,Alg.cl,Alg.bd,Alg.l1,Tup.q,Tup.o]
  simp (disch:=omega) only [RR,hp2 t ht,hf2 t ht,hp5 t ht,hf5 t ht]
  refine⟨fun h=> ?_,fun h=> ?_⟩
  · rw [if_neg (by rw [h];simp)]
  · have h1:=bq.1 h
    rw [if_pos h,hf3 _ _ ha ht h1]
    exact⟨hp3 _ _ ha ht h1,rfl⟩
end Go.TX.F
namespace Go.TX.F
open Go Go.AE Go.TX
structure Plus (l:List aj) (m:aj) (o:List aj):Prop where
  nf:Nf o
  cf:∀k,cf o k=F.cf (l++ [m]) k%65536
  len:o.length≤l.length+1
theorem aaD {p1:List Int×List Int×Unit→Bool} {f1:List Int×List Int×Unit→Int×Unit} (hp1:∀a b,a.length<1000000000→p1 (a,b,())=true) (hf1:∀a b,a.length<1000000000→f1 (a,b,())=(dO a b,()))
    {p2:Int×Unit→Bool} {f2:Int×Unit→Int×Unit} (hp2:∀a,p2 (a,())=true) (hf2:∀a,f2 (a,())=(a%65536,()))
    (l:List aj) (m:aj) (hl:l.length<1000000000) (hn:Nf l) (hm:1≤m.bK∧m.bK≤65535) (hma:m.atoms.length<1000000000):Gi (std 0) p1 f1 p2 f2 (l,m,()) (fun y=>Plus l m y.1):=by
  dsimp only [Gi,Alg.cl,Alg.bd,Alg.l1,Tup.q,Tup.o]
  refine aA (fun(y:List aj×Bool×Int×aj×List aj×Unit)=>y.1=l∧y.2.2.2.1=m∧0≤y.2.2.1∧y.2.2.1≤l.length∧
      ((y.2.1=false∧y.2.2.2.2.1=l.take y.2.2.1.toNat∧∀x∈l.take y.2.2.1.toNat,lt x m)∨
       (y.2.1=true∧Nf y.2.2.2.2.1∧(∀k,cf y.2.2.2.2.1 k=cf (l.take y.2.2.1.toNat++ [m]) k%65536)∧(y.2.2.2.2.1.length:Int)≤y.2.2.1+1∧(y.2.2.1<l.length→lt m ((l).getD (y.2.2.1).toNat default)∧∀x∈y.2.2.2.2.1,lt x ((l).getD (y.2.2.1).toNat default))))) (fun y=>(l.length-y.2.2.1).toNat)
    ⟨rfl,rfl,by simp,by simp,Or.inl ⟨rfl,by simp,by simp⟩⟩ ?_
  rintro⟨(l':List aj),(dn:Bool),(i:Int),(m':aj),(o:List aj),⟨⟩⟩ hI
  dsimp only at hI ⊢
  obtain⟨rfl,rfl,h1,h2,h3⟩:=hI
  simp (disch:=omega) only [RR,hp1 _ _ hma,hf1 _ _ hma,hp2,hf2]
  have hss:=hn.ss
  have nx:i+1<l'.length→lt ((l').getD (i).toNat default) ((l').getD (i+1).toNat default):=fun h=>by
    have:=(dI (d:=default) (R:=lt) fD).1 hss (i+1) (by omega) h
    rw [show i+1-1=i by omega]at this;exact this
  have tk:i<l'.length→l'.take (i+1).toNat=l'.take i.toNat++ [((l').getD (i).toNat default)]:=fun h=>(dP h1 h rfl).symm
  have bf:i<l'.length→∀x∈l'.take i.toNat,lt x ((l').getD (i).toNat default):=fun h x hx=>by
    have:=hss
    rw [←List.take_append_drop i.toNat l',List.pairwise_append]at this
    refine this.2.2 x hx _ ?_
    rw [getD_lt (by omega),List.drop_eq_getElem_cons (show i.toNat<l'.length by omega)];exact List.mem_cons_self
  have lt0:=List.length_take_le' i.toNat l'
  have lt1:=List.length_take_le i.toNat l'
  have co:i<l'.length→1≤((l').getD (i).toNat default).bK∧((l').getD (i).toNat default).bK≤65535:=fun h=>hn.co _ (dN h1 h)
  have ntk:Nf (l'.take i.toNat):=⟨List.Pairwise.sublist (List.take_sublist _ _) hss,fun x hx=>hn.co x (List.mem_of_mem_take hx)⟩
  have aaE:∀ {a:List aj} {x:aj},Nf a→(∀y∈a,lt y x)→1≤x.bK∧x.bK≤65535→Nf (a++ [x]):=fun {a x} g1 g2 g3=>⟨by
    rw [List.pairwise_append]
    exact⟨g1.ss,List.pairwise_singleton _ _,fun y hy z hz=>by rw [List.mem_singleton]at hz;subst hz;exact g2 y hy⟩,fun y hy=>by
    rw [List.mem_append,List.mem_singleton]at hy
    rcases hy with hy | rfl
    · exact g1.co y hy
    · exact g3⟩
  have l1:∀(x:List aj) (y:aj),(x++ [y]).length=x.length+1:=fun x y=>by rw [List.length_append];rfl
  have fin:∀o,i=l'.length→Nf o→(∀k,cf o k=cf (l'.take i.toNat++ [m']) k%65536)→(o.length:Int)≤i+1→Plus l' m' o:=fun o e g1 g2 g3=>⟨g1,fun k=>by rw [g2 k,List.take_of_length_le (by omega)],by omega⟩
  by_cases hi:i<l'.length
  · have nx:=nx
    have tk:=tk hi
    have bf:=bf hi
    have co:=co hi
    rw [tk]
    have hv:∀ {P:Prop},P→(∀x,x=((l').getD (i).toNat default)→P)→P:=fun h _=>h
    generalize ((l').getD (i).toNat default)=v at nx tk bf co h3 ⊢
    have cfs:∀k,cf (l'.take i.toNat++ [v]++ [m']) k=cf (l'.take i.toNat) k+(if v.atoms=k then v.bK else 0)+(if m'.atoms=k then m'.bK else 0):=fun k=>by
      rw [dG,dG,dA,dA,lM];simp only [Int.add_zero]
    have cfm:∀k,cf (l'.take i.toNat++ [m']) k=cf (l'.take i.toNat) k+(if m'.atoms=k then m'.bK else 0):=fun k=>by
      rw [dG,dA,lM,Int.add_zero]
    rcases h3 with⟨rfl,rfl,h4⟩ | ⟨rfl,h4,h5,h6,h7⟩
    ·
      simp (disch:=omega) only [RR,decide_true,Bool.not_false,Bool.true_and,decide_eq_true_eq,hi]
      by_cases c1:dO m'.atoms v.atoms<0
      · have c2:¬dO m'.atoms v.atoms=0:=by omega
        simp (disch:=omega) only [RR,c1,c2]
        have n1:=aaE ntk h4 hm
        have b2:∀x∈l'.take i.toNat++ [m'],lt x v:=fun x hx=>by
          rw [List.mem_append,List.mem_singleton]at hx
          rcases hx with hx | rfl
          · exact bf x hx
          · exact c1
        have n2:=aaE n1 b2 co
        refine⟨by omega,by rw [show([m']:List aj).length=1 from rfl];omega,by omega,by rw [l1,show([v]:List aj).length=1 from rfl];omega,⟨by omega,by omega,Or.inr ⟨n2,fun k=> ?_,by rw [l1,l1];omega,fun h=>⟨fD c1 (nx h),fun x hx=> ?_⟩⟩⟩,by omega⟩
        · have e1:=cfs k
          have e2:=n2.bnd k
          have e3:cf (l'.take i.toNat++ [m']++ [v]) k=cf (l'.take i.toNat++ [v]++ [m']) k:=by rw [e1,dG,cfm,dA,lM];omega
          rw [←e3];omega
        · rw [List.mem_append,List.mem_singleton]at hx
          rcases hx with hx | rfl
          · exact fD (b2 x hx) (nx h)
          · exact nx h
      · by_cases c2:dO m'.atoms v.atoms=0
        · have ev:=ku.1 c2
          simp (disch:=omega) only [RR,c1,c2,List.append_nil]
          have zz:cf (l'.take i.toNat) v.atoms=0:=jm fun x hx=>(bf x hx).ne
          refine⟨by omega,fun h=>absurd h (by omega),fun _=>⟨by omega,fun c3=> ?_,fun c3=> ?_⟩⟩
          · have n2:=aaE (x:=⟨(v.bK+m'.bK)%65536,v.atoms⟩) ntk bf ⟨by dsimp only;omega,by dsimp only;omega⟩
            refine⟨by omega,by simp only [List.length_cons,List.length_nil];omega,⟨by omega,by omega,Or.inr ⟨n2,fun k=> ?_,by rw [l1];omega,fun h=>⟨?_,fun x hx=> ?_⟩⟩⟩,by omega⟩
            · have e1:=cfs k
              have e2:=n2.bnd k
              rw [e1]
              rw [dG,dA,lM]at e2 ⊢
              dsimp only at e2 ⊢
              by_cases ek:v.atoms=k
              · rw [if_pos ek]at e2 ⊢
                rw [if_pos ek,if_pos (ev.trans ek)]
                rw [←ek,zz]at e2 ⊢;omega
              · rw [if_neg ek]at e2 ⊢
                rw [if_neg ek,if_neg (fun e=>ek (ev.symm.trans e))];omega
            · have:=nx h;unfold lt at this ⊢;rw [ev];exact this
            · rw [List.mem_append,List.mem_singleton]at hx
              rcases hx with hx | rfl
              · exact fD (bf x hx) (nx h)
              · exact nx h
          · refine⟨⟨by omega,by omega,Or.inr ⟨ntk,fun k=> ?_,by omega,fun h=>⟨?_,fun x hx=>fD (bf x hx) (nx h)⟩⟩⟩,by omega⟩
            · have e1:=cfs k
              have e2:=ntk.bnd k
              rw [e1]
              by_cases ek:v.atoms=k
              · rw [if_pos ek,if_pos (ev.trans ek),←ek,zz];omega
              · rw [if_neg ek,if_neg (fun e=>ek (ev.symm.trans e))];omega
            · have:=nx h;unfold lt at this ⊢;rw [ev];exact this
        · simp (disch:=omega) only [RR,c1,c2]
          refine⟨by omega,by omega,by simp only [List.length_cons,List.length_nil];omega,⟨by omega,by omega,Or.inl (fun x hx=> ?_)⟩,by omega⟩
          rw [List.mem_append,List.mem_singleton]at hx
          rcases hx with hx | rfl
          · exact h4 x hx
          · unfold lt;rw [tq];omega
    · have c3:=(h7 hi).1
      have b2:=(h7 hi).2
      have c1:dO m'.atoms v.atoms<0:=c3
      have c2:¬dO m'.atoms v.atoms=0:=by omega
      simp (disch:=omega) only [RR,decide_true,Bool.not_true,Bool.false_and,decide_eq_true_eq,hi,c2]
      have n2:=aaE h4 b2 co
      refine⟨by omega,fun h=>h.1.elim,by omega,by simp only [List.length_cons,List.length_nil];omega,⟨by omega,by omega,Or.inr ⟨n2,fun k=> ?_,by rw [l1];omega,fun h=>⟨fD c3 (nx h),fun x hx=> ?_⟩⟩⟩,by omega⟩
      · have e1:=cfs k
        have e2:=n2.bnd k
        have e3:=h5 k
        rw [cfm]at e3
        rw [dG,dA,lM]at e2 ⊢
        rw [e1]
        by_cases ek:v.atoms=k
        · rw [if_pos ek]at e2 ⊢;omega
        · rw [if_neg ek]at e2 ⊢;omega
      · rw [List.mem_append,List.mem_singleton]at hx
        rcases hx with hx | rfl
        · exact fD (b2 x hx) (nx h)
        · exact nx h
  · have ei:i=l'.length:=by omega
    rcases h3 with⟨rfl,rfl,h4⟩ | ⟨rfl,h4,h5,h6,h7⟩
    · simp (disch:=omega) only [RR,decide_true,Bool.not_false,Bool.true_and,decide_eq_true_eq,hi]
      have n1:=aaE ntk h4 hm
      refine⟨by simp only [List.length_cons,List.length_nil];omega,fin _ ei n1 (fun k=> ?_) (by rw [l1];omega)⟩
      have e2:=n1.bnd k
      omega
    · simp (disch:=omega) only [RR,decide_true,Bool.not_true,Bool.false_and,decide_eq_true_eq,hi]
      exact fin _ ei h4 h5 h6
end Go.TX.F
namespace Go.TX.F
open Go Go.AE Go.TX
theorem zn {a o:List Int} (h:o.Pairwise (· ≤ ·)) (hp:o.Perm a):o=mQ a:=by
  refine List.Perm.eq_of_pairwise (le:=fun x y:Int=>x≤y) (fun a b _ _ h1 h2=>Int.le_antisymm h1 h2) h ?_ (hp.trans (List.mergeSort_perm a _).symm)
  have:=List.pairwise_mergeSort (le:=fun x y:Int=>decide (x≤y)) (fun a b c h1 h2=>by simp at*;omega) (fun a b=>by simp;omega) a
  exact this.imp (fun h=>by simpa using h)
theorem aaF (a b:List Int) (ha:a.length<100000000) (hb:b.length<100000000) (sa:a.Pairwise (· ≤ ·)) (sb:b.Pairwise (· ≤ ·)):
    Gq (std 0) (a,b,()) (fun y=>y=(mQ (a++b),())):=by
  dsimp only [Gq,Alg.cl,Alg.bd,Alg.l1,Tup.q,Tup.o]
  have sa':=(dI (d:=default) (R:=fun a b:Int=>a≤b) (fun h1 h2=>Int.le_trans h1 h2)).1 sa
  have sb':=(dI (d:=default) (R:=fun a b:Int=>a≤b) (fun h1 h2=>Int.le_trans h1 h2)).1 sb
  let I:List Int→Int→Int→Prop:=fun o i k=>0≤i∧i≤a.length∧0≤k∧k≤b.length∧o.Pairwise (· ≤ ·)∧o.Perm (a.take i.toNat++b.take k.toNat)∧(i<a.length→∀x∈o,x≤((a).getD (i).toNat default))∧(k<b.length→∀x∈o,x≤((b).getD (k).toNat default))
  have sn:∀ {o:List Int} {y:Int},o.Pairwise (· ≤ ·)→(∀x∈o,x≤y)→(o++ [y]).Pairwise (· ≤ ·):=fun {o y} g1 g2=>by
    rw [List.pairwise_append]
    exact⟨g1,List.pairwise_singleton _ _,fun x hx z hz=>by rw [List.mem_singleton]at hz;subst hz;exact g2 x hx⟩
  have il:∀o i k,I o i k→(o.length:Int)=i+k:=fun o i k ⟨h1,h2,h3,h4,_,h5,_⟩=>by
    have:=h5.length_eq;rw [List.length_append,List.length_take,List.length_take]at this;omega
  have stA:∀o i k,I o i k→i<a.length→(k<b.length→((a).getD (i).toNat default)≤((b).getD (k).toNat default))→I (o++ [((a).getD (i).toNat default)]) (i+1) k:=by
    rintro o i k ⟨h1,h2,h3,h4,h5,h6,h7,h8⟩ hi hk
    refine⟨by omega,by omega,h3,h4,sn h5 (h7 hi),?_,fun g x hx=> ?_,fun g x hx=> ?_⟩
    · rw [←dP (d:=default) h1 hi rfl]
      refine(h6.append_right _).trans ?_
      rw [List.append_assoc,List.append_assoc]
      exact(List.perm_append_comm).append_left _
    · have:=sa' (i+1) (by omega) g
      rw [show i+1-1=i by omega]at this
      rw [List.mem_append,List.mem_singleton]at hx
      rcases hx with hx | rfl
      · exact Int.le_trans (h7 hi x hx) this
      · exact this
    · rw [List.mem_append,List.mem_singleton]at hx
      rcases hx with hx | rfl
      · exact h8 g x hx
      · exact hk g
  have stB:∀o i k,I o i k→k<b.length→(i<a.length→((b).getD (k).toNat default)≤((a).getD (i).toNat default))→I (o++ [((b).getD (k).toNat default)]) i (k+1):=by
    rintro o i k ⟨h1,h2,h3,h4,h5,h6,h7,h8⟩ hk hi
    refine⟨h1,h2,by omega,by omega,sn h5 (h8 hk),?_,fun g x hx=> ?_,fun g x hx=> ?_⟩
    · rw [←dP (d:=default) h3 hk rfl,←List.append_assoc]
      exact h6.append_right _
    · rw [List.mem_append,List.mem_singleton]at hx
      rcases hx with hx | rfl
      · exact h7 g x hx
      · exact hi g
    · have:=sb' (k+1) (by omega) g
      rw [show k+1-1=k by omega]at this
      rw [List.mem_append,List.mem_singleton]at hx
      rcases hx with hx | rfl
      · exact Int.le_trans (h8 hk x hx) this
      · exact this
  refine aA (fun(y:List Int×List Int×Int×Int×List Int×Unit)=>y.1=a∧y.2.1=b∧I y.2.2.2.2.1 y.2.2.1 y.2.2.2.1) (fun y=>(b.length-y.2.2.2.1).toNat)
    ⟨rfl,rfl,by simp,by simp,by simp,by simp,List.Pairwise.nil,by simp,fun _ x hx=>absurd hx (by simp),fun _ x hx=>absurd hx (by simp)⟩ ?_
  rintro⟨(a':List Int),(b':List Int),(i:Int),(k:Int),(o:List Int),⟨⟩⟩ hI
  dsimp only at hI ⊢
  obtain⟨rfl,rfl,hI⟩:=hI
  have hb1:=hI.1
  have hb2:=hI.2.1
  have hb3:=hI.2.2.1
  have hb4:=hI.2.2.2.1
  have hol:=il _ _ _ hI
  simp (disch:=omega) only [RR]
  refine⟨fun h9=> ?_,fun h9=> ?_⟩
  · refine aA (fun(y:List Int×List Int×Int×Int×List Int×Unit)=>y.1=a'∧y.2.1=b'∧y.2.2.2.1=k∧I y.2.2.2.2.1 y.2.2.1 k) (fun y=>(a'.length-y.2.2.1).toNat) ⟨rfl,rfl,rfl,hI⟩ ?_
    rintro⟨(a2:List Int),(b2:List Int),(i2:Int),(k2:Int),(o2:List Int),⟨⟩⟩ hI2
    dsimp only at hI2 ⊢
    obtain⟨rfl,rfl,rfl,hI2⟩:=hI2
    have hc1:=hI2.1
    have hc2:=hI2.2.1
    have hol:=il _ _ _ hI2
    simp (disch:=omega) only [RR]
    refine⟨by omega,by omega,by omega,by omega,fun⟨g1,g2⟩=>⟨by omega,g1,by simp only [List.length_cons,List.length_nil];omega,stA _ _ _ hI2 g1 (fun _=>g2),by omega⟩,fun g=>⟨by omega,h9,by simp only [List.length_cons,List.length_nil];omega,stB _ _ _ hI2 h9 (fun g1=> ?_),by omega⟩⟩
    rw [decide_eq_true g1,Bool.true_and,decide_eq_false_iff_not]at g;omega
  · have e1:List.drop i.toNat (List.take ((a'.length:Int)).toNat a')=a'.drop i.toNat:=by rw [List.take_of_length_le (by omega)]
    rw [e1]
    refine⟨by omega,by omega,by omega,by rw [List.length_drop];omega,?_⟩
    obtain⟨h1,h2,h3,h4,h5,h6,h7,h8⟩:=hI
    rw [zn (a:=a'++b') (o:=o++a'.drop i.toNat)]
    · rw [List.pairwise_append]
      refine⟨h5,List.Pairwise.sublist (List.drop_sublist _ _) sa,fun x hx y hy=> ?_⟩
      by_cases hi:i<a'.length
      · refine Int.le_trans (h7 hi x hx) ?_
        rw [List.drop_eq_getElem_cons (show i.toNat<a'.length by omega)]at hy
        have hd:=List.Pairwise.sublist (List.drop_sublist i.toNat _) sa
        rw [List.drop_eq_getElem_cons (show i.toNat<a'.length by omega)]at hd
        rw [getD_lt (show i.toNat<a'.length by omega)]
        rcases List.mem_cons.1 hy with rfl | hy
        · exact Int.le_refl _
        · exact List.rel_of_pairwise_cons hd hy
      · rw [List.drop_eq_nil_of_le (by omega)]at hy;exact absurd hy (by simp)
    · rw [List.take_of_length_le (show b'.length≤k.toNat by omega)]at h6
      refine(h6.append_right _).trans ?_
      rw [List.append_assoc]
      refine((List.perm_append_comm).append_left _).trans ?_
      rw [←List.append_assoc,List.take_append_drop]
end Go.TX.F
namespace Go.TX.F
open Go Go.AE Go.TX
theorem aN.nf {p:List aj} (h:aN p):Nf p:=(gX.1 h).1
theorem aN.aok {p:List aj} (h:aN p) {m:aj} (hm:m∈p):m.atoms.length≤4∧F.aok m.atoms:=(gX.1 h).2.2 m hm
theorem Mt {l o:List aj} (h:Nf o) (h2:∀k,cf o k=cf l k%65536) (h3:∀m∈l,aok m.atoms):(bp (Jl o),if bp (Jl o)then o else [])=((rR l).1,(rR l).2):=by
  rw [aeY h h2 h3]
  by_cases c:Jl o
  · rw [fJ c,if_pos rfl];dsimp only;rw [decide_eq_true (show o.length≤12∧∀m∈o,m.atoms.length≤4 from c),if_pos (show o.length≤12∧∀m∈o,m.atoms.length≤4 from c)]
  · rw [iY c,if_neg (by simp)];dsimp only;rw [decide_eq_false (show¬(o.length≤12∧∀m∈o,m.atoms.length≤4)from c),if_neg (show¬(o.length≤12∧∀m∈o,m.atoms.length≤4)from c)]
theorem aaG {o l:List aj} (h:Nf o) (h2:∀k,cf o k=cf l k%65536) (h3:∀m∈l,m.atoms.length<1000000000) (h4:o.length<1000000000):Sh o:=⟨h4,fun m hm=>by
  obtain⟨m',g1,g2⟩:=h.from h2 hm
  rw [←g2];exact h3 m' g1⟩
theorem aaH {p1:List aj×Unit→Bool} {f1:List aj×Unit→Bool×Unit} (hp1:∀a,Sh a→p1 (a,())=true) (hf1:∀a,Sh a→f1 (a,())=(bp (aN a),()))
    {p2:List aj×aj×Unit→Bool} {f2:List aj×aj×Unit→List aj×Unit}
    (hp2:∀(l:List aj) m,l.length<1000000000→Nf l→1≤m.bK∧m.bK≤65535→m.atoms.length<1000000000→p2 (l,m,())=true) (hf2:∀(l:List aj) m,l.length<1000000000→Nf l→1≤m.bK∧m.bK≤65535→m.atoms.length<1000000000→Plus l m (f2 (l,m,())).1)
    {p3:List aj×Unit→Bool} {f3:List aj×Unit→Bool×List aj×Unit} (hp3:∀a,Sh a→p3 (a,())=true) (hf3:∀a,Sh a→f3 (a,())=(bp (Jl a),if bp (Jl a)then a else [],()))
    (a b:List aj) (ha:Sh a) (hb:Sh b):Gn (std 0) p1 f1 p2 f2 p3 f3 (a,b,()) (fun y=>y=((mZ a b).1,(mZ a b).2,())):=by
  dsimp only [Gn,Alg.cl,Alg.bd,Alg.l1,Tup.q,Tup.o]
  simp (disch:=omega) only [RR,hp1 a ha,hf1 a ha,hp1 b hb,hf1 b hb,bq,om]
  unfold mZ
  refine⟨fun h=> ?_,fun⟨h1,h2⟩=> ?_⟩
  · rw [if_neg]
    rw [Bool.and_eq_true,bq,bq];rintro⟨g1,g2⟩
    rcases h with h | h
    · exact h g1
    · exact h g2
  rw [if_pos (by rw [fJ h1,fJ h2];rfl)]
  have l1:=h1.len
  have l2:=h2.len
  have hl:∀m∈a++b,F.aok m.atoms∧m.atoms.length<1000000000:=fun m hm=>by
    rw [List.mem_append]at hm
    rcases hm with hm | hm
    · exact⟨(h1.aok hm).2,ha.2 m hm⟩
    · exact⟨(h2.aok hm).2,hb.2 m hm⟩
  refine aA (fun(y:List aj×Int×List aj×Unit)=>y.2.2.1=b∧0≤y.2.1∧y.2.1≤b.length∧Nf y.1∧(∀k,cf y.1 k=cf (a++b.take y.2.1.toNat) k%65536)∧(y.1.length:Int)≤12+y.2.1) (fun y=>(b.length-y.2.1).toNat)
    ⟨rfl,by simp,by simp,h1.nf,fun k=>by have:=h1.nf.bnd k;simp only [Int.toNat_zero,List.take_zero,List.append_nil];omega,by simp only;omega⟩ ?_
  rintro⟨(o:List aj),(i:Int),(b':List aj),⟨⟩⟩ hI
  dsimp only at hI ⊢
  obtain⟨rfl,h3,h4,h5,h6,h7⟩:=hI
  have so:Sh o:=aaG h5 h6 (fun m hm=>(hl m (by rw [List.mem_append]at hm ⊢;exact hm.imp id List.mem_of_mem_take)).2) (by omega)
  simp (disch:=omega) only [RR,hp3 o so,hf3 o so]
  refine⟨fun h9=> ?_,fun h9=> ?_⟩
  · have hm:=h2.nf.co _ (dN (d:=default) h3 h9)
    have pl:=hf2 o ((b').getD (i).toNat default) so.1 h5 hm (hb.at _)
    refine⟨by omega,by omega,hp2 o ((b').getD (i).toNat default) so.1 h5 hm (hb.at _),⟨by omega,by omega,pl.nf,fun k=> ?_,by have:=pl.len;omega⟩,by omega⟩
    rw [pl.cf k,dG,h6 k,←dP (d:=default) h3 h9 rfl,←List.append_assoc,dG (a++_)];omega
  · have:=Mt h5 (fun k=>by rw [h6 k,List.take_of_length_le (by omega)]) (fun m hm=>(hl m hm).1)
    exact congrArg (fun z:Bool×List aj=>(z.1,z.2,())) this
theorem aaI {p1:List aj×Unit→Bool} {f1:List aj×Unit→Bool×Unit} (hp1:∀a,Sh a→p1 (a,())=true) (hf1:∀a,Sh a→f1 (a,())=(bp (aN a),()))
    {p0:Int×Unit→Bool} {f0:Int×Unit→Int×Unit} (hp0:∀a,p0 (a,())=true) (hf0:∀a,f0 (a,())=(a%65536,()))
    {p2:List aj×aj×Unit→Bool} {f2:List aj×aj×Unit→List aj×Unit}
    (hp2:∀(l:List aj) m,l.length<1000000000→Nf l→1≤m.bK∧m.bK≤65535→m.atoms.length<1000000000→p2 (l,m,())=true) (hf2:∀(l:List aj) m,l.length<1000000000→Nf l→1≤m.bK∧m.bK≤65535→m.atoms.length<1000000000→Plus l m (f2 (l,m,())).1)
    {p4:List Int×List Int×Unit→Bool} {f4:List Int×List Int×Unit→List Int×Unit}
    (hp4:∀a b:List Int,a.length<100000000→b.length<100000000→a.Pairwise (· ≤ ·)→b.Pairwise (· ≤ ·)→p4 (a,b,())=true) (hf4:∀a b:List Int,a.length<100000000→b.length<100000000→a.Pairwise (· ≤ ·)→b.Pairwise (· ≤ ·)→f4 (a,b,())=(mQ (a++b),()))
    {p3:List aj×Unit→Bool} {f3:List aj×Unit→Bool×List aj×Unit} (hp3:∀a,Sh a→p3 (a,())=true) (hf3:∀a,Sh a→f3 (a,())=(bp (Jl a),if bp (Jl a)then a else [],()))
    (a b:List aj) (ha:Sh a) (hb:Sh b):Gr (std 0) p1 f1 p0 f0 p2 f2 p4 f4 p3 f3 (a,b,()) (fun y=>y=((l8 a b).1,(l8 a b).2,())):=by
  dsimp only [Gr,Alg.cl,Alg.bd,Alg.l1,Tup.q,Tup.o]
  simp (disch:=omega) only [RR,hp1 a ha,hf1 a ha,hp1 b hb,hf1 b hb,bq,om]
  unfold l8
  refine⟨fun h=> ?_,fun⟨h1,h2⟩=> ?_⟩
  · rw [if_neg]
    rw [Bool.and_eq_true,bq,bq];rintro⟨g1,g2⟩
    rcases h with h | h
    · exact h g1
    · exact h g2
  rw [if_pos (by rw [fJ h1,fJ h2];rfl)]
  have l1:=h1.len
  have l2:=h2.len
  have am:∀m∈a,∀n∈b,aok (mulM m n).atoms∧(mulM m n).atoms.length≤8:=fun m hm n hn=>by
    obtain⟨g1,g2⟩:=h1.aok hm
    obtain⟨g3,g4⟩:=h2.aok hn
    refine⟨⟨?_,fun k hk=> ?_⟩,?_⟩
    · have:=List.pairwise_mergeSort (le:=fun x y:Int=>decide (x≤y)) (fun a b c h1 h2=>by simp at*;omega) (fun a b=>by simp;omega) (m.atoms++n.atoms)
      exact this.imp (fun h=>by simpa using h)
    · have:k∈m.atoms++n.atoms:=List.mem_mergeSort.1 hk
      rw [List.mem_append]at this
      rcases this with hk | hk
      · exact g2.2 k hk
      · exact g4.2 k hk
    · show(mQ _).length≤8
      rw [KI,List.length_append];omega
  have pm:∀m∈prods a b,aok m.atoms∧m.atoms.length≤8:=fun m hm=>by
    unfold prods at hm
    rw [List.mem_flatMap]at hm
    obtain⟨x,hx,hm⟩:=hm
    rw [List.mem_map]at hm
    obtain⟨y,hy,rfl⟩:=hm
    exact am x hx y hy
  let J:List aj→Int→Int→Prop:=fun o i k=>Nf o∧(∀t,cf o t=cf (prods (a.take i.toNat) b++(b.take k.toNat).map (mulM ((a).getD (i).toNat default))) t%65536)∧(o.length:Int)≤12*i+k
  refine aA (fun(y:Int×List aj×List aj×List aj×Unit)=>y.2.1=a∧y.2.2.1=b∧0≤y.1∧y.1≤a.length∧J y.2.2.2.1 y.1 0) (fun y=>(a.length-y.1).toNat)
    ⟨rfl,rfl,by simp,by simp,⟨⟨List.Pairwise.nil,fun m hm=>absurd hm (by simp)⟩,fun k=>by simp [cf,prods],by simp⟩⟩ ?_
  rintro⟨(i:Int),(a':List aj),(b':List aj),(o:List aj),⟨⟩⟩ hI
  dsimp only at hI ⊢
  obtain⟨rfl,rfl,h3,h4,hJ⟩:=hI
  have hJ1:=hJ.2.2
  have so:Sh o:=aaG (l:=prods (a'.take i.toNat) b') hJ.1 (fun t=>by rw [hJ.2.1 t];simp) (fun m hm=>by
    have:m∈prods a' b':=by
      unfold prods at hm ⊢
      rw [List.mem_flatMap]at hm ⊢
      obtain⟨x,hx,hm⟩:=hm
      exact⟨x,List.mem_of_mem_take hx,hm⟩
    have:=(pm m this).2;omega) (by omega)
  simp (disch:=omega) only [RR,hp3 o so,hf3 o so]
  refine⟨fun h9=> ?_,fun h9=> ?_⟩
  · refine aA (fun(y:Int×Int×List aj×List aj×List aj×Unit)=>y.1=i∧y.2.2.1=a'∧y.2.2.2.1=b'∧0≤y.2.1∧y.2.1≤b'.length∧J y.2.2.2.2.1 i y.2.1) (fun y=>(b'.length-y.2.1).toNat) ⟨rfl,rfl,rfl,by simp,by simp,hJ⟩ ?_
    rintro⟨(i':Int),(k:Int),(a2:List aj),(b2:List aj),(o2:List aj),⟨⟩⟩ hI
    dsimp only at hI ⊢
    obtain⟨rfl,rfl,rfl,g1,g2,hK⟩:=hI
    have hK1:=hK.2.2
    by_cases g3:k<b2.length
    · have ma:((a2).getD (i').toNat default)∈a2:=dN h3 h9
      have mb:((b2).getD (k).toNat default)∈b2:=dN g1 g3
      have ca:=h1.nf.co _ ma
      have cb:=h2.nf.co _ mb
      obtain⟨q1,q2⟩:=h1.aok ma
      obtain⟨q3,q4⟩:=h2.aok mb
      have hm:=Mr (show 0≤((a2).getD (i').toNat default).bK by omega) (by omega) (show 0≤((b2).getD (k).toNat default).bK by omega) (by omega)
      have am':=(am _ ma _ mb).2
      simp (disch:=omega) only [RR,hp0,hf0,hp4 _ _ (show((a2).getD (i').toNat default).atoms.length<100000000 by omega) (show((b2).getD (k).toNat default).atoms.length<100000000 by omega) q2.1 q4.1,hf4 _ _ (show((a2).getD (i').toNat default).atoms.length<100000000 by omega) (show((b2).getD (k).toNat default).atoms.length<100000000 by omega) q2.1 q4.1]
      have tk:prods (a2.take i'.toNat) b2++(b2.take (k+1).toNat).map (mulM ((a2).getD (i').toNat default))=prods (a2.take i'.toNat) b2++(b2.take k.toNat).map (mulM ((a2).getD (i').toNat default))++ [mulM ((a2).getD (i').toNat default) ((b2).getD (k).toNat default)]:=by
        rw [←dP (d:=default) g1 g3 rfl,List.map_append,List.append_assoc];rfl
      refine⟨fun _=>⟨by omega,by omega,by omega,by omega,fun g4=> ?_,fun g4=>⟨⟨by omega,by omega,hK.1,fun t=> ?_,by omega⟩,by omega⟩⟩,fun h=>absurd g3 h⟩
      · have apn:(⟨((a2).getD (i').toNat default).bK*((b2).getD (k).toNat default).bK%65536,mQ (((a2).getD (i').toNat default).atoms++((b2).getD (k).toNat default).atoms)⟩:aj).atoms.length<1000000000:=by have:(mQ (((a2).getD (i').toNat default).atoms++((b2).getD (k).toNat default).atoms)).length≤8:=am';dsimp only;omega
        have cc:1≤(⟨((a2).getD (i').toNat default).bK*((b2).getD (k).toNat default).bK%65536,mQ (((a2).getD (i').toNat default).atoms++((b2).getD (k).toNat default).atoms)⟩:aj).bK∧(⟨((a2).getD (i').toNat default).bK*((b2).getD (k).toNat default).bK%65536,mQ (((a2).getD (i').toNat default).atoms++((b2).getD (k).toNat default).atoms)⟩:aj).bK≤65535:=by dsimp only;omega
        have pl:=hf2 o2 _ (by omega) hK.1 cc apn
        refine⟨by omega,by omega,by omega,by omega,hp2 o2 _ (by omega) hK.1 cc apn,⟨by omega,by omega,pl.nf,fun t=> ?_,by have:=pl.len;omega⟩,by omega⟩
        rw [pl.cf t,dG,hK.2.1 t,tk,dG (prods _ _++_)]
        show(_+cf [mulM ((a2).getD (i').toNat default) ((b2).getD (k).toNat default)] t)%65536=_
        omega
      · rw [tk,dG,hK.2.1 t]
        have:cf [mulM ((a2).getD (i').toNat default) ((b2).getD (k).toNat default)] t=0:=by
          rw [dA,lM]
          have:(mulM ((a2).getD (i').toNat default) ((b2).getD (k).toNat default)).bK=0:=by show((a2).getD (i').toNat default).bK*((b2).getD (k).toNat default).bK%65536=0;omega
          rw [this];split<;>rfl
        rw [this];omega
    · simp (disch:=omega) only [RR]
      refine⟨fun h=>absurd h g3,fun _=>⟨⟨by omega,by omega,hK.1,fun t=> ?_,by omega⟩,by omega⟩⟩
      rw [hK.2.1 t,List.take_of_length_le (show b2.length≤k.toNat by omega),←Jj,dP (d:=default) h3 h9 rfl];simp
  · have:=Mt hJ.1 (l:=prods a' b') (fun t=>by rw [hJ.2.1 t,List.take_of_length_le (show a'.length≤i.toNat by omega)];simp) (fun m hm=>(pm m hm).1)
    exact congrArg (fun z:Bool×List aj=>(z.1,z.2,())) this
end Go.TX.F
namespace Go.TX.F
open Go Go.AE Go.TX
theorem Jo {m:aj} (n:Int) (h:aok m.atoms):mulM m ⟨n,[]⟩=⟨m.bK*n%65536,m.atoms⟩:=by
  unfold mulM
  rw [←zn (a:=m.atoms++ []) (o:=m.atoms) h.1 (by simp)]
theorem Dk (a:List aj) (n:aj):prods a [n]=a.map (fun m=>mulM m n):=by
  induction a with
  | nil=>rfl
  | cons x a ih=>simp only [prods,List.flatMap_cons,List.map_cons,List.map_nil]at ih ⊢;rw [ih];rfl
theorem QL {t:List Int}:∀ {l:List aj},(∀m∈l,m.bK=0)→cf l t=0
  | [],_=>rfl
  | m::l,h=>by rw [dA,QL (fun m hm=>h m (by simp [hm])),h m (by simp)];split<;>rfl
theorem eH:aN []:=gX.2 ⟨⟨List.Pairwise.nil,fun m hm=>absurd hm (by simp)⟩,by simp,fun m hm=>absurd hm (by simp)⟩
theorem kD (n:Int):aN (dJ n):=by
  unfold dJ;split
  · refine gX.2 ⟨⟨List.pairwise_singleton _ _,fun m hm=> ?_⟩,by simp,fun m hm=> ?_⟩
    · rw [List.mem_singleton]at hm;subst hm;assumption
    · rw [List.mem_singleton]at hm;subst hm;exact⟨by simp,List.Pairwise.nil,fun k hk=>absurd hk (by simp)⟩
  · exact eH
theorem oq (n:Int):aN (fG n):=by
  unfold fG;split
  · refine gX.2 ⟨⟨List.pairwise_singleton _ _,fun m hm=> ?_⟩,by simp,fun m hm=> ?_⟩
    · rw [List.mem_singleton]at hm;subst hm;dsimp only;omega
    · rw [List.mem_singleton]at hm;subst hm;exact⟨by simp,List.pairwise_singleton _ _,fun k hk=>by rw [List.mem_singleton]at hk;omega⟩
  · exact eH
theorem aaJ {p1:List aj×Unit→Bool} {f1:List aj×Unit→Bool×Unit} (hp1:∀a,Sh a→p1 (a,())=true) (hf1:∀a,Sh a→f1 (a,())=(bp (aN a),()))
    {p0:Int×Unit→Bool} {f0:Int×Unit→Int×Unit} (hp0:∀a,p0 (a,())=true) (hf0:∀a,f0 (a,())=(a%65536,()))
    {p4:List aj×Unit→Bool} {f4:List aj×Unit→List aj×Unit} (hp4:∀a,Sh a→p4 (a,())=true) (hf4:∀a,Sh a→f4 (a,())=(a,()))
    {p3:Int×Unit→Bool} {f3:Int×Unit→Bool×Unit} (hp3:∀a,p3 (a,())=true) (hf3:∀a,f3 (a,())=(inB a 0 65535,()))
    (a:List aj) (n:Int) (ha:Sh a):Gu (std 0) p1 f1 p0 f0 p4 f4 p3 f3 (a,n,()) (fun y=>y=(jr a n,())):=by
  dsimp only [Gu,Alg.cl,Alg.bd,Alg.l1,Tup.q,Tup.o]
  simp (disch:=omega) only [RR,hp1 a ha,hf1 a ha,hp3,hf3,bq,om,dz,nD]
  unfold jr
  refine⟨fun h=> ?_,fun⟨h1,h2⟩=> ?_⟩
  · rw [if_neg];rw [Bool.and_eq_true,bq,dz];rintro⟨g1,g2⟩
    rcases h with h | h
    · exact h g1
    · exact h g2
  rw [if_pos (by rw [fJ h1,Bool.true_and,dz];exact h2)]
  have l1:=h1.len
  have hss:=h1.nf.ss
  refine aA (fun(y:Int×Int×List aj×List aj×Unit)=>y.1=n∧y.2.2.1=a∧0≤y.2.1∧y.2.1≤a.length∧Nf y.2.2.2.1∧(y.2.2.2.1.length:Int)≤y.2.1∧(∀t,cf y.2.2.2.1 t=cf ((a.take y.2.1.toNat).map (fun m=>⟨m.bK*n%65536,m.atoms⟩)) t%65536)
      ∧(∀x∈y.2.2.2.1,x.atoms.length≤4∧(y.2.1<a.length→lt x ((a).getD (y.2.1).toNat default)))) (fun y=>(a.length-y.2.1).toNat)
    ⟨rfl,rfl,by simp,by simp,⟨List.Pairwise.nil,fun m hm=>absurd hm (by simp)⟩,by simp,fun t=>by simp [cf],fun x hx=>absurd hx (by simp)⟩ ?_
  rintro⟨(n':Int),(i:Int),(a':List aj),(o:List aj),⟨⟩⟩ hI
  dsimp only at hI ⊢
  obtain⟨rfl,rfl,h3,h4,h5,h6,h7,h8⟩:=hI
  have so:Sh o:=⟨by omega,fun m hm=>by have:=(h8 m hm).1;omega⟩
  by_cases h9:i<a'.length
  · have ma:((a').getD (i).toNat default)∈a':=dN h3 h9
    have ca:=h1.nf.co _ ma
    have qa:=h1.aok ma
    have hm:=Mr (show 0≤((a').getD (i).toNat default).bK by omega) (by omega) h2.1 h2.2
    have nx:i+1<a'.length→lt ((a').getD (i).toNat default) ((a').getD (i+1).toNat default):=fun h=>by
      have:=(dI (d:=default) (R:=lt) fD).1 hss (i+1) (by omega) h
      rw [show i+1-1=i by omega]at this;exact this
    have tk:(a'.take (i+1).toNat).map (fun m:aj=>(⟨m.bK*n'%65536,m.atoms⟩:aj))=(a'.take i.toNat).map (fun m:aj=>(⟨m.bK*n'%65536,m.atoms⟩:aj))++ [⟨((a').getD (i).toNat default).bK*n'%65536,((a').getD (i).toNat default).atoms⟩]:=by
      rw [←dP (d:=default) h3 h9 rfl,List.map_append];rfl
    simp (disch:=omega) only [RR,hp0,hf0]
    refine⟨fun _=>⟨by omega,by omega,fun g=>⟨by omega,by omega,by simp only [List.length_cons,List.length_nil];omega,⟨by omega,by omega,?_,?_,fun t=> ?_,fun x hx=> ?_⟩,by omega⟩,fun g=>⟨⟨by omega,by omega,h5,by omega,fun t=> ?_,fun x hx=>⟨(h8 x hx).1,fun g2=>fD ((h8 x hx).2 h9) (nx g2)⟩⟩,by omega⟩⟩,fun h=>absurd h9 h⟩
    · refine⟨?_,fun x hx=> ?_⟩
      · rw [List.pairwise_append]
        exact⟨h5.ss,List.pairwise_singleton _ _,fun x hx z hz=>by rw [List.mem_singleton]at hz;subst hz;exact(h8 x hx).2 h9⟩
      · rw [List.mem_append,List.mem_singleton]at hx
        rcases hx with hx | rfl
        · exact h5.co x hx
        · dsimp only;omega
    · rw [List.length_append];simp only [List.length_cons,List.length_nil];omega
    · rw [tk,dG,dG,h7 t,dA,lM]
      dsimp only
      by_cases et:((a').getD (i).toNat default).atoms=t
      · rw [if_pos et]
        have z:cf o t=0:=jm fun x hx e=>((h8 x hx).2 h9).ne (e.trans et.symm)
        rw [h7 t]at z;omega
      · rw [if_neg et];omega
    · rw [List.mem_append,List.mem_singleton]at hx
      rcases hx with hx | rfl
      · exact⟨(h8 x hx).1,fun g2=>fD ((h8 x hx).2 h9) (nx g2)⟩
      · exact⟨qa.1,fun g2=>nx g2⟩
    · rw [tk,dG,h7 t,dA,lM]
      dsimp only
      have:((a').getD (i).toNat default).bK*n'%65536=0:=by omega
      rw [this];split<;>omega
  · simp (disch:=omega) only [RR,hp4 o so,hf4 o so]
    refine⟨fun h=>absurd h h9,fun _=> ?_⟩
    have eq:∀t,cf o t=cf (prods a' (dJ n')) t%65536:=fun t=>by
      rw [h7 t,List.take_of_length_le (by omega)]
      unfold dJ
      by_cases hn:1≤n'∧n'≤65535
      · rw [if_pos hn,Dk]
        congr 2
        exact List.map_congr_left fun m hm=>(Jo n' (h1.aok hm).2).symm
      · rw [if_neg hn]
        have hz:n'=0:=by omega
        have hz2:cf (a'.map (fun m=>(⟨m.bK*n'%65536,m.atoms⟩:aj))) t=0:=QL fun m hm=>by
          rw [List.mem_map]at hm
          obtain⟨x,_,rfl⟩:=hm
          dsimp only;rw [hz];simp
        rw [hz2,show prods a' []=[] by simp [prods]];rfl
    have fb:Jl o:=⟨by omega,fun m hm=>(h8 m hm).1⟩
    have:=Mt h5 eq (fun m hm=>by
      unfold dJ at hm
      split at hm
      · rw [Dk,List.mem_map]at hm
        obtain⟨x,hx,rfl⟩:=hm
        rw [Jo n' (h1.aok hx).2];exact(h1.aok hx).2
      · rw [show prods a' []=[] by simp [prods]]at hm;exact absurd hm (by simp))
    unfold l8
    rw [if_pos (by rw [fJ h1,fJ (kD n')];rfl),←congrArg Prod.snd this]
    dsimp only;rw [fJ fb];rfl
theorem aaK (l:List aj):(Nf (nf l)∧∀k,cf (nf l) k=cf l k%65536)∨nf l=[]:=by
  by_cases he:∃o,Nf o∧∀k,cf o k=cf l k%65536
  · obtain⟨o,h1,h2⟩:=he
    rw [VB h1 h2];exact Or.inl ⟨h1,h2⟩
  · right;unfold nf;rw [dif_neg he]
theorem aaL {l:List aj} {n:Int} (h:aR l n):aR (nf l) n:=by
  rcases aaK l with⟨h1,h2⟩ | h1
  · refine dD.2 fun m hm k hk=> ?_
    obtain⟨m',g1,g2⟩:=h1.from h2 hm
    exact dD.1 h m' g1 k (g2▸hk)
  · rw [h1];exact dD.2 fun m hm=>absurd hm (by simp)
theorem jE (n:Int):aR [] n:=dD.2 fun m hm=>absurd hm (by simp)
theorem VD (l:List aj):aN (rR l).2:=by
  unfold rR
  by_cases h:aN (nf l)
  · rw [fJ h];exact h
  · rw [iY h];exact eH
theorem Jp {l:List aj} {n:Int} (h:aR l n):aR (rR l).2 n:=by
  unfold rR
  dsimp only
  split
  · exact aaL h
  · exact jE n
theorem XH {a b:List aj} {n:Int} (h1:aR a n) (h2:aR b n):aR (a++b) n:=dD.2 fun m hm k hk=>by
  rw [List.mem_append]at hm
  rcases hm with hm | hm
  · exact dD.1 h1 m hm k hk
  · exact dD.1 h2 m hm k hk
theorem QM {a b:List aj} {n:Int} (h1:aR a n) (h2:aR b n):aR (prods a b) n:=dD.2 fun m hm k hk=>by
  unfold prods at hm
  rw [List.mem_flatMap]at hm
  obtain⟨x,hx,hm⟩:=hm
  rw [List.mem_map]at hm
  obtain⟨y,hy,rfl⟩:=hm
  have:k∈x.atoms++y.atoms:=List.mem_mergeSort.1 hk
  rw [List.mem_append]at this
  rcases this with hk | hk
  · exact dD.1 h1 x hx k hk
  · exact dD.1 h2 y hy k hk
theorem Mv (a b:List aj):aN (mZ a b).2:=by unfold mZ;split;exact VD _;exact eH
theorem VE (a b:List aj):aN (l8 a b).2:=by unfold l8;split;exact VD _;exact eH
theorem zo {a b:List aj} {n:Int} (h1:aR a n) (h2:aR b n):aR (mZ a b).2 n:=by unfold mZ;split;exact Jp (XH h1 h2);exact jE n
theorem zq {a b:List aj} {n:Int} (h1:aR a n) (h2:aR b n):aR (l8 a b).2 n:=by unfold l8;split;exact Jp (QM h1 h2);exact jE n
theorem mR (c n:Int):aR (dJ c) n:=dD.2 fun m hm k hk=>by
  unfold dJ at hm;split at hm
  · rw [List.mem_singleton]at hm;subst hm;exact absurd hk (by simp)
  · exact absurd hm (by simp)
theorem ou {k n:Int} (h:k<n):aR (fG k) n:=dD.2 fun m hm j hj=>by
  unfold fG at hm;split at hm
  · rw [List.mem_singleton]at hm;subst hm;rw [List.mem_singleton]at hj;omega
  · exact absurd hm (by simp)
theorem aI.sh {t:List Atom} (h:aI t):ShT t:=⟨by have:=h.2;omega,fun a ha=>by
  obtain⟨i,hi,rfl⟩:=List.getElem_of_mem ha
  have:=(h.1 i (by omega) (by omega)).1
  rw [show(i:Int).toNat=i from rfl,getD_lt hi]at this
  unfold fO at this
  split at this
  · exact⟨this.2.1.sh,this.2.2.1.sh⟩
  · rw [ShA,this.1.1,this.1.2];exact⟨jw,jw⟩⟩
theorem vw {t:List Atom} {a:Atom} (h:aI t) (h2:t.length<200):aI (bD t a).1∧t.length≤(bD t a).1.length∧(bD t a).1.length≤t.length+1∧(fO a t.length→0≤(bD t a).2):=by
  have hsp:=l9 t a
  unfold bD
  split
  · rename_i h3;exact⟨h,Nat.le_refl _,Nat.le_succ _,fun _=>h3⟩
  · rename_i h3
    split
    · rename_i h4;exact⟨h,Nat.le_refl _,Nat.le_succ _,fun h5=>by rcases h4 with h4 | h4;exact absurd h5 h4;omega⟩
    · rename_i h4
      have h5:fO a t.length:=Classical.byContradiction fun h5=>h4 (Or.inl h5)
      refine⟨mg.2 ⟨?_,by rw [List.length_append];simp only [List.length_cons,List.length_nil];omega⟩,by rw [List.length_append];exact Nat.le_add_right _ _,by rw [List.length_append];exact Nat.le_refl _,fun _=>by dsimp only;omega⟩
      have hl:((t++ [a]).length:Int)=t.length+1:=by rw [List.length_append];rfl
      have g1:∀i:Int,0≤i→i<t.length→(t++ [a]).getD i.toNat default=t.getD i.toNat default:=fun i i1 i2=>by
        rw [getD_lt (show i.toNat< (t++ [a]).length by omega),getD_lt (show i.toNat<t.length by omega),List.getElem_append_left]
      have g2:(t++ [a]).getD ((t.length:Int)).toNat default=a:=by
        rw [getD_lt (show((t.length:Int)).toNat< (t++ [a]).length by omega)];simp
      rw [hl]
      intro i i1 i2
      dsimp only
      by_cases i3:i<t.length
      · rw [g1 i i1 i3]
        have:=(mg.1 h).1 i i1 i3
        exact⟨this.1,fun j j1 j2=>by dsimp only;rw [g1 j j1 (by omega)];exact this.2 j j1 j2⟩
      · have:i=t.length:=by omega
        subst this
        rw [g2]
        refine⟨h5,fun j j1 j2=> ?_⟩
        dsimp only;rw [g1 j j1 j2]
        rcases hsp with⟨_,g⟩ | ⟨g,_⟩
        · exact g j j1 j2
        · exact absurd g h3
theorem aaM {t:List Atom} {op:Int} {x y:List aj} (h:aI t) (h2:t.length<200) (h3:1≤op∧op≤5) (hx:aN x) (hy:aN y) (ux:aR x t.length) (uy:aR y t.length):
    aI (vP t op x y).1∧t.length≤(vP t op x y).1.length∧(vP t op x y).1.length≤t.length+1:=by
  unfold vP
  rw [if_pos ⟨h,h3,hx,hy,ux,uy⟩]
  unfold tDo
  have d1:fO ⟨4,op,x,y⟩ t.length:=by unfold fO;rw [if_pos rfl];exact⟨h3,hx,hy,ux,uy⟩
  have d2:fO ⟨4,op,y,x⟩ t.length:=by unfold fO;rw [if_pos rfl];exact⟨h3,hy,hx,uy,ux⟩
  have p1:=vw (a:=⟨4,op,x,y⟩) h h2
  have p2:=vw (a:=⟨4,op,y,x⟩) h h2
  have q1:=p1.2.2.2 d1
  have q2:=p2.2.2.2 d2
  split
  · exact⟨h,Nat.le_refl _,Nat.le_succ _⟩
  · split
    · rw [if_neg (by omega)];exact⟨p2.1,p2.2.1,p2.2.2.1⟩
    · rw [if_neg (by omega)];exact⟨p1.1,p1.2.1,p1.2.2.1⟩
end Go.TX.F
namespace Go.TX.F
open Go Go.AE Go.TX
def By (b:List Int):Prop:=∀z∈b,0≤z∧z≤255
structure Bt (b:List Int):Prop where
  len:b.length≤2000
  rng:By b
theorem By.at {b:List Int} (h:By b) (n:Nat):0≤b.getD n default∧b.getD n default≤255:=by
  by_cases h1:n<b.length
  · rw [getD_lt h1];exact h _ (List.getElem_mem _)
  · simp only [List.getD,List.getElem?_eq_none (by omega:b.length≤n)];decide
theorem aaN (b:List Int) (hb:By b) (hl:b.length<1000000000):F5 (std 0) (b,()) (fun y=>Bt y.1∧y.2.1=0):=by
  dsimp only [F5,Alg.cl,Alg.bd,Alg.l1,Tup.q,Tup.o]
  simp (disch:=omega) only [RR]
  refine⟨fun h=>⟨by omega,by omega,by omega,⟨?_,?_⟩⟩,fun h=>⟨by omega,hb⟩⟩
  · rw [List.length_drop,List.length_take];omega
  · intro z hz;exact hb z (List.mem_of_mem_take (List.mem_of_mem_drop hz))
theorem alM {a b:Int} (h1:0≤a) (h2:a<4611686018427387904) (h3:0≤b) (h4:b<4611686018427387904):0≤rZ .xor .i64 a b∧rZ .xor .i64 a b<4611686018427387904:=by
  have e:((2^IntKind.i64.bits:Nat):Int)=18446744073709551616:=by decide
  have e2:rZ .xor .i64 a b=((a.toNat^^^b.toNat:Nat):Int):=by
    unfold rZ;dsimp only
    rw [BitVec.toNat_xor,BitVec.toNat_ofInt,BitVec.toNat_ofInt,e,show a%18446744073709551616=a by omega,show b%18446744073709551616=b by omega]
    have:=Nat.xor_lt_two_pow (show a.toNat<2^62 by omega) (show b.toNat<2^62 by omega)
    rw [w64 (by omega) (by omega)]
  rw [e2]
  have:=Nat.xor_lt_two_pow (show a.toNat<2^62 by omega) (show b.toNat<2^62 by omega)
  omega
theorem AA {a b:Int} (h:0≤a):a.tmod b=a%b:=Int.tmod_eq_emod_of_nonneg h
theorem VF {a b:Int} (h:0≤a):a.tdiv b=a/b:=Int.tdiv_eq_ediv_of_nonneg h
def Pk (n:Int) (b:List Int) (p:Int) (y:Int×List Int×Int×Unit):Prop:=y.2.1=b∧y.2.2.1=p+1∧0≤y.1∧(y.1<n∨y.1=0)
theorem aaO (n:Int) (b:List Int) (p:Int) (hb:Bt b) (h1:0≤p) (h2:p<1000000000):F6 (std 0) (n,b,p,()) (fun y=>Pk n b p y):=by
  have hl:=hb.1
  have cvu:∀k:Nat,IntKind.i64.wrap (b.getD k default)=b.getD k default:=fun k=>by have:=hb.2.at k;exact w64 (by omega) (by omega)
  dsimp only [F6,Alg.cl,Alg.bd,Alg.l1,Tup.q,Tup.o]
  simp (disch:=omega) only [RR,cvu]
  refine⟨fun h=>⟨rfl,rfl,by omega,Or.inr rfl⟩,fun⟨h3,h4⟩=> ?_⟩
  have e1:p+1-1=p:=by omega
  rw [e1]
  refine⟨fun h=>⟨by omega,by omega,by omega,?_⟩,fun h=> ?_⟩
  · have:=hb.2.at p.toNat
    rw [AA this.1]
    exact⟨rfl,rfl,Int.emod_nonneg _ (by omega),Or.inl (Int.emod_lt_of_pos _ (by omega))⟩
  · have hb0:(0:Int)<b.length:=by omega
    have k1:=Int.emod_nonneg p (show(b.length:Int)≠0 by omega)
    have k2:=Int.emod_lt_of_pos p hb0
    have k3:=Int.emod_nonneg (p*7+3) (show(b.length:Int)≠0 by omega)
    have k4:=Int.emod_lt_of_pos (p*7+3) hb0
    have k5:0≤p/b.length:=Int.ediv_nonneg h1 (by omega)
    have k6:p/b.length≤p:=Int.ediv_le_self _ h1
    simp (disch:=omega) only [w64,AA,VF]
    have q1:=hb.2.at (p%b.length).toNat
    have q2:=hb.2.at ((p*7+3)%b.length).toNat
    generalize (b.getD (p%b.length).toNat default)=u at q1 ⊢
    generalize (b.getD ((p*7+3)%b.length).toNat default)=v at q2 ⊢
    generalize p/b.length=w at k5 k6 ⊢
    simp (disch:=omega) only [w64,AA,VF]
    have q:=alM (a:=u*131+v*1117+p*29+w*53) (b:=(u*131+v*1117+p*29+w*53)/64) (by omega) (by omega) (by omega) (by omega)
    rw [Tj]
    generalize rZ .xor .i64 (u*131+v*1117+p*29+w*53) ((u*131+v*1117+p*29+w*53)/64)=g at q ⊢
    rw [AA q.1]
    exact⟨h4,k1,k2,h4,k3,k4,h4,by omega,by omega,rfl,rfl,Int.emod_nonneg _ (by omega),Or.inl (Int.emod_lt_of_pos _ (by omega))⟩
theorem aaP {p1:Int×List Int×Int×Unit→Bool} {f1:Int×List Int×Int×Unit→Int×List Int×Int×Unit} (hp1:∀n b p,Bt b→0≤p→p<1000000000→p1 (n,b,p,())=true) (hf1:∀n b p,Bt b→0≤p→p<1000000000→Pk n b p (f1 (n,b,p,())))
    (n:Int) (b:List Int) (p:Int) (hb:Bt b) (h1:0≤p) (h2:p<1000000000):Ga (std 0) p1 f1 (n,b,p,()) (fun y=>y.2.1=b∧y.2.2.1=p+1):=by
  obtain⟨e1,e2,_⟩:=hf1 n b p hb h1 h2
  dsimp only [Ga,Alg.cl,Alg.bd,Alg.l1,Tup.q,Tup.o]
  simp (disch:=omega) only [RR,hp1 n b p hb h1 h2,e1,e2]
def Wd (b:List Int) (p:Int) (y:Int×List Int×Int×Unit):Prop:=y.2.1=b∧p≤y.2.2.1∧y.2.2.1≤p+3∧(0≤y.1∧y.1≤65535)
theorem aaQ {p1:Int×List Int×Int×Unit→Bool} {f1:Int×List Int×Int×Unit→Int×List Int×Int×Unit} (hp1:∀n b p,Bt b→0≤p→p<1000000000→p1 (n,b,p,())=true) (hf1:∀n b p,Bt b→0≤p→p<1000000000→Pk n b p (f1 (n,b,p,())))
    (b:List Int) (p:Int) (hb:Bt b) (h1:0≤p) (h2:p<900000000):F9 (std 0) p1 f1 (b,p,()) (fun y=>Wd b p y):=by
  obtain⟨e1,e2,e3,e4⟩:=hf1 4 b p hb h1 (by omega)
  have P1:∀n,p1 (n,b,p+1,())=true:=fun n=>hp1 n b (p+1) hb (by omega) (by omega)
  have P2:∀n,p1 (n,b,p+1+1,())=true:=fun n=>hp1 n b (p+1+1) hb (by omega) (by omega)
  obtain⟨a1,a2,a3,a4⟩:=hf1 9 b (p+1) hb (by omega) (by omega)
  obtain⟨b1,b2,b3,b4⟩:=hf1 70 b (p+1) hb (by omega) (by omega)
  obtain⟨c1,c2,c3,c4⟩:=hf1 256 b (p+1) hb (by omega) (by omega)
  obtain⟨d1,d2,d3,d4⟩:=hf1 256 b (p+1+1) hb (by omega) (by omega)
  dsimp only [F9,Alg.cl,Alg.bd,Alg.l1,Tup.q,Tup.o]
  simp (disch:=omega) only [RR,hp1 4 b p hb h1 (by omega),P1,P2,e1,e2,a1,a2,b1,b2,c1,c2,d1,d2,List.length_cons,List.length_nil]
  refine⟨fun _=>⟨by omega,by omega,by omega,by omega,rfl,by dsimp only;omega,by dsimp only;omega,?_⟩,fun _=>⟨fun _=>⟨rfl,by dsimp only;omega,by dsimp only;omega,by dsimp only;omega⟩,fun _=>⟨rfl,by dsimp only;omega,by dsimp only;omega,?_⟩⟩⟩
  · dsimp only
    have:=dN (d:=default) (xs:=[(0:Int),1,2,3,65535,32768,255,256,65534]) a3 (by simp only [List.length_cons,List.length_nil];omega)
    generalize List.getD [(0:Int),1,2,3,65535,32768,255,256,65534] _ default=z at this ⊢
    simp at this;omega
  · dsimp only
    omega
end Go.TX.F
namespace Go.TX.F
open Go Go.AE Go.TX
structure agf (n:Int) (b:List Int) (p:Int) (y:List Int×Int×List aj×Unit):Prop where
  b:y.1=b
  lo:p≤y.2.1
  hi:y.2.1≤p+200
  ok:aN y.2.2.1
  un:aR y.2.2.1 n
theorem aaR {p1:Int×List Int×Int×Unit→Bool} {f1:Int×List Int×Int×Unit→Int×List Int×Int×Unit} (hp1:∀n b p,Bt b→0≤p→p<1000000000→p1 (n,b,p,())=true) (hf1:∀n b p,Bt b→0≤p→p<1000000000→Pk n b p (f1 (n,b,p,())))
    {p2:Int×Unit→Bool} {f2:Int×Unit→List aj×Unit} (hp2:∀n,p2 (n,())=true) (hf2:∀n,f2 (n,())=(fG n,()))
    {p4:List aj×List aj×Unit→Bool} {f4:List aj×List aj×Unit→Bool×List aj×Unit} (hp4:∀a b,Sh a→Sh b→p4 (a,b,())=true) (hf4:∀a b,Sh a→Sh b→f4 (a,b,())=((l8 a b).1,(l8 a b).2,()))
    {p5:List aj×List aj×Unit→Bool} {f5:List aj×List aj×Unit→Bool×List aj×Unit} (hp5:∀a b,Sh a→Sh b→p5 (a,b,())=true) (hf5:∀a b,Sh a→Sh b→f5 (a,b,())=((mZ a b).1,(mZ a b).2,()))
    {p6:Int×Unit→Bool} {f6:Int×Unit→List aj×Unit} (hp6:∀n,p6 (n,())=true) (hf6:∀n,f6 (n,())=(dJ n,()))
    {p3:List Int×Int×Unit→Bool} {f3:List Int×Int×Unit→Int×List Int×Int×Unit} (hp3:∀b p,Bt b→0≤p→p<900000000→p3 (b,p,())=true) (hf3:∀b p,Bt b→0≤p→p<900000000→Wd b p (f3 (b,p,())))
    (n:Int) (b:List Int) (p:Int) (hb:Bt b) (hn:0≤n) (h1:0≤p) (h2:p<500000000):Gs (std 0) p1 f1 p2 f2 p4 f4 p5 f5 p6 f6 p3 f3 (n,b,p,()) (fun y=>agf n b p y):=by
  obtain⟨a1,a2,a3,a4⟩:=hf3 b p hb h1 (by omega)
  generalize hq:(f3 (b,p,())).2.2.1=q at a2 a3
  obtain⟨b1,b2,b3,b4⟩:=hf1 3 b q hb (by omega) (by omega)
  obtain⟨c1,c2,c3,c4⟩:=hf1 6 b (q+1) hb (by omega) (by omega)
  dsimp only [Gs,Alg.cl,Alg.bd,Alg.l1,Tup.q,Tup.o]
  simp (disch:=omega) only [RR,hp3 b p hb h1 (by omega),a1,hq,hp1 3 b q hb (by omega) (by omega),b1,b2,hp1 6 b (q+1) hb (by omega) (by omega),c1,c2,hp6,hf6,List.length_cons,List.length_nil]
  refine⟨by omega,by omega,by omega,by omega,by omega,by omega,by omega,by omega,?_⟩
  have kr:0≤List.getD [(0:Int),1,2,3,6,12] (f1 (6,b,q+1,())).1.toNat default∧List.getD [(0:Int),1,2,3,6,12] (f1 (6,b,q+1,())).1.toNat default≤12:=by
    have:=dN (d:=default) (xs:=[(0:Int),1,2,3,6,12]) c3 (by simp only [List.length_cons,List.length_nil];omega)
    generalize List.getD [(0:Int),1,2,3,6,12] _ default=z at this ⊢
    simp at this;omega
  generalize List.getD [(0:Int),1,2,3,6,12] (f1 (6,b,q+1,())).1.toNat default=k0 at kr ⊢
  generalize List.getD [(0:Int),1,(f3 (b,p,())).1] (f1 (3,b,q,())).1.toNat default=w0
  refine aA (fun(y:Int×Int×List Int×Int×List aj×Unit)=>y.1=n∧0≤y.2.1∧y.2.1≤12∧y.2.2.1=b∧p≤y.2.2.2.1∧y.2.2.2.1+6*y.2.1≤p+100∧aN y.2.2.2.2.1∧aR y.2.2.2.2.1 n) (fun y=>y.2.1.toNat)
    ⟨rfl,by simp;omega,by simp;omega,rfl,by simp;omega,by simp;omega,kD _,mR _ _⟩ ?_
  rintro⟨(n':Int),(k:Int),(b':List Int),(r:Int),(o:List aj),⟨⟩⟩ hI
  dsimp only at hI ⊢
  obtain⟨rfl,k1,k2,rfl,k3,k4,k5,k6⟩:=hI
  obtain⟨d1,d2,d3,d4⟩:=hf3 b' r hb (by omega) (by omega)
  generalize hs:(f3 (b',r,())).2.2.1=s at d2 d3
  obtain⟨e1,e2,e3,e4⟩:=hf1 3 b' s hb (by omega) (by omega)
  have em:=Int.emod_nonneg (f3 (b',r,())).1 (show(65535:Int)≠0 by omega)
  have em2:=Int.emod_lt_of_pos (f3 (b',r,())).1 (show(0:Int)<65535 by omega)
  have tm:=AA (b:=65535) d4.1
  simp (disch:=omega) only [RR,hp3 b' r hb (by omega) (by omega),d1,hs,hp1 3 b' s hb (by omega) (by omega),e1,e2,tm]
  refine⟨fun k7=>⟨by omega,?_⟩,fun k7=>⟨rfl,by dsimp only;omega,by dsimp only;omega,k5,k6⟩⟩
  have m0:([⟨1+(f3 (b',r,())).1%65535,[]⟩]:List aj)=dJ (1+(f3 (b',r,())).1%65535):=by unfold dJ;rw [if_pos (by omega)]
  rw [m0]
  refine aA (fun(y:Int×Int×Int×List Int×Int×List aj×List aj×Unit)=>y.1=n'∧y.2.1=k∧0≤y.2.2.1∧y.2.2.1≤2∧y.2.2.2.1=b'∧r≤y.2.2.2.2.1∧y.2.2.2.2.1+y.2.2.1≤r+6∧y.2.2.2.2.2.1=o∧aN y.2.2.2.2.2.2.1∧aR y.2.2.2.2.2.2.1 n') (fun y=>y.2.2.1.toNat)
    ⟨rfl,rfl,e3,by dsimp only;omega,rfl,by dsimp only;omega,by dsimp only;omega,rfl,kD _,mR _ _⟩ ?_
  rintro⟨(n2:Int),(k':Int),(j:Int),(bb:List Int),(u:Int),(o':List aj),(m:List aj),⟨⟩⟩ hI
  dsimp only at hI ⊢
  obtain⟨rfl,rfl,j1,j2,rfl,j3,j4,rfl,j5,j6⟩:=hI
  obtain⟨g1,g2,g3,g4⟩:=hf1 n2 bb u hb (by omega) (by omega)
  have sA:=(oq (f1 (n2,bb,u,())).1).sh
  simp (disch:=omega) only [RR,hp1 n2 bb u hb (by omega) (by omega),g1,g2,hp2,hf2,hp4 m _ j5.sh sA,hf4 m _ j5.sh sA,hp5 o' m k5.sh j5.sh,hf5 o' m k5.sh j5.sh]
  refine⟨fun⟨i1,i2⟩=>⟨fun i3=>⟨⟨by omega,by omega,by omega,by omega,VE _ _,zq j6 (ou (by omega))⟩,by omega⟩,fun i3=>⟨⟨by omega,by omega,by omega,by omega,j5,j6⟩,by omega⟩⟩,fun i1=>⟨fun i3=>⟨⟨by omega,by omega,by omega,by omega,Mv _ _,zo k6 j6⟩,by omega⟩,fun i3=>⟨⟨by omega,by omega,by omega,by omega,k5,k6⟩,by omega⟩⟩⟩
end Go.TX.F
namespace Go.TX.F
open Go Go.AE Go.TX
def ae0 (n:Int) (t:List Atom):Prop:=(t.length:Int)=n∧All n (fun i=>((t).getD (i).toNat default)=⟨1,i,[],[]⟩)
theorem ae1 {t:List Atom} (h:ae0 4 t):aI t:=by
  obtain⟨h1,h2⟩:=h
  refine mg.2 ⟨?_,by omega⟩
  rw [h1]
  intro i i1 i2
  have e:=h2 i i1 i2
  dsimp only at e ⊢
  rw [e]
  refine⟨?_,fun j j1 j2=> ?_⟩
  · unfold fO;rw [if_neg (by simp)];exact⟨⟨rfl,rfl⟩,Or.inl ⟨rfl,by dsimp only;omega,by dsimp only;omega⟩⟩
  · have e2:=h2 j j1 (by omega)
    dsimp only at e2 ⊢
    rw [e2];intro h;injection h;omega
theorem aaS {p2:Int×Unit→Bool} {f2:Int×Unit→List aj×Unit} (hp2:∀n,p2 (n,())=true) (hf2:∀n,f2 (n,())=(fG n,())):Gw (std 0) p2 f2 () (fun y=>ae0 4 y.1):=by
  dsimp only [Gw,Alg.cl,Alg.bd,Alg.l1,Tup.q,Tup.o]
  simp (disch:=omega) only [RR,hp2,hf2]
  refine aA (fun(y:Int×List (List aj)×List Atom×Unit)=>0≤y.1∧y.1≤4∧(y.2.1.length:Int)=y.1∧ae0 y.1 y.2.2.1) (fun y=>(4-y.1).toNat) ⟨by simp,by simp,by simp,by simp,All.zero⟩ ?_
  rintro⟨(i:Int),(q:List (List aj)),(t:List Atom),⟨⟩⟩ hI
  dsimp only at hI ⊢
  obtain⟨h1,h2,h3,h4,h5⟩:=hI
  simp (disch:=omega) only [RR,hp2,hf2,List.length_cons,List.length_nil]
  refine⟨fun h6=>⟨by omega,by omega,⟨by omega,by omega,by rw [List.length_append];simp only [List.length_cons,List.length_nil];omega,by rw [List.length_append];simp only [List.length_cons,List.length_nil];omega,fun j j1 j2=> ?_⟩,by omega⟩,fun h6=> ?_⟩
  · dsimp only
    have hl:((t++ [(⟨1,i,[],[]⟩:Atom)]).length:Int)=t.length+1:=by rw [List.length_append];rfl
    by_cases c:j<i
    · have:=h5 j j1 c
      dsimp only at this
      rw [getD_lt (show j.toNat<t.length by omega)]at this
      rw [getD_lt (show j.toNat< (t++ [(⟨1,i,[],[]⟩:Atom)]).length by omega),List.getElem_append_left (show j.toNat<t.length by omega)];exact this
    · have:j=i:=by omega
      subst this
      rw [getD_lt (show j.toNat< (t++ [(⟨1,j,[],[]⟩:Atom)]).length by omega),List.getElem_append_right (by omega)]
      simp
  · rw [show i=4 by omega]at h4 h5;exact⟨h4,h5⟩
structure apo (b:List Int) (p n:Int) (y:List Int×Int×List Atom×Unit):Prop where
  b:y.1=b
  lo:p≤y.2.1
  hi:y.2.1≤p+10000
  sh:ShT y.2.2.1
  ne:0<y.2.2.1.length
  le:(y.2.2.1.length:Int)≤n
theorem aaT {p1:Int×List Int×Int×Unit→Bool} {f1:Int×List Int×Int×Unit→Int×List Int×Int×Unit} (hp1:∀n b p,Bt b→0≤p→p<1000000000→p1 (n,b,p,())=true) (hf1:∀n b p,Bt b→0≤p→p<1000000000→Pk n b p (f1 (n,b,p,())))
    {p2:List Atom×Int×List aj×List aj×Unit→Bool} {f2:List Atom×Int×List aj×List aj×Unit→List Atom×List aj×Unit} (hp2:∀t op x y,ShT t→Sh x→Sh y→p2 (t,op,x,y,())=true) (hf2:∀t op x y,ShT t→Sh x→Sh y→f2 (t,op,x,y,())=((vP t op x y).1,(vP t op x y).2,()))
    {p3:Int×List Int×Int×Unit→Bool} {f3:Int×List Int×Int×Unit→List Int×Int×List aj×Unit} (hp3:∀n b p,Bt b→0≤n→0≤p→p<500000000→p3 (n,b,p,())=true) (hf3:∀n b p,Bt b→0≤n→0≤p→p<500000000→agf n b p (f3 (n,b,p,())))
    {p4:Unit→Bool} {f4:Unit→List Atom×List (List aj)×Unit} (hp4:p4 ()=true) (hf4:ae0 4 (f4 ()).1)
    {p5:List Atom×Atom×Unit→Bool} {f5:List Atom×Atom×Unit→Int×List Atom×Unit} (hp5:∀t a,ShT t→ShA a→p5 (t,a,())=true) (hf5:∀t a,ShT t→ShA a→f5 (t,a,())=if bp (aI t)then((bD t a).2,(bD t a).1,())else(-1,[],()))
    (b:List Int) (p:Int) (hb:Bt b) (h1:0≤p) (h2:p<400000000):Je (std 0) p1 f1 p2 f2 p3 f3 p4 f4 p5 f5 (b,p,()) (fun y=>apo b p 12 y):=by
  obtain⟨a1,a2,a3,a4⟩:=hf1 7 b p hb h1 (by omega)
  dsimp only [Je,Alg.cl,Alg.bd,Alg.l1,Tup.q,Tup.o]
  simp (disch:=omega) only [RR,hp4,hp1 7 b p hb h1 (by omega),a1,a2]
  have r4:=hf4.1
  refine aA (fun(y:Int×List Int×Int×List Atom×Unit)=>0≤y.1∧y.1≤6∧y.2.1=b∧p≤y.2.2.1∧y.2.2.1+401*y.1≤p+3000∧aI y.2.2.2.1∧0<y.2.2.2.1.length∧(y.2.2.2.1.length:Int)+y.1≤10) (fun y=>y.1.toNat)
    ⟨a3,by dsimp only;omega,rfl,by dsimp only;omega,by dsimp only;omega,ae1 hf4,by dsimp only;omega,by dsimp only;omega⟩ ?_
  rintro⟨(k:Int),(b':List Int),(q:Int),(t:List Atom),⟨⟩⟩ hI
  dsimp only at hI ⊢
  obtain⟨k1,k2,rfl,k3,k4,k5,k6,k7⟩:=hI
  obtain⟨b1,b2,b3,b4⟩:=hf1 5 b' q hb (by omega) (by omega)
  obtain⟨c1,c2,c3,c4,c5⟩:=hf3 t.length b' (q+1) hb (by omega) (by omega) (by omega)
  generalize hr:(f3 (t.length,b',q+1,())).2.1=r at c2 c3
  obtain⟨d1,d2,d3,d4,d5⟩:=hf3 t.length b' r hb (by omega) (by omega) (by omega)
  obtain⟨e1,e2,e3,e4⟩:=hf1 3 b' q hb (by omega) (by omega)
  obtain⟨g1,g2,g3,g4⟩:=hf1 2 b' (q+1) hb (by omega) (by omega)
  obtain⟨i1,i2,i3,i4⟩:=hf1 3 b' (q+1+1) hb (by omega) (by omega)
  have tok:=aaM (op:=1+(f1 (5,b',q,())).1) k5 (by omega) (by omega) c4 d4 c5 d5
  simp (disch:=omega) only [RR,hp1 5 b' q hb (by omega) (by omega),b1,b2,hp3 t.length b' (q+1) hb (by omega) (by omega) (by omega),c1,hr,hp3 t.length b' r hb (by omega) (by omega) (by omega),d1,hp2 t _ _ _ k5.sh c4.sh d4.sh,hf2 t _ _ _ k5.sh c4.sh d4.sh,
    hp1 3 b' q hb (by omega) (by omega),e1,e2,hp1 2 b' (q+1) hb (by omega) (by omega),g1,g2,hp1 3 b' (q+1+1) hb (by omega) (by omega),i1,i2,hp5 t ⟨_,_,[],[]⟩ k5.sh ⟨jw,jw⟩,hf5 t ⟨_,_,[],[]⟩ k5.sh ⟨jw,jw⟩,fJ k5,List.length_cons,List.length_nil]
  refine⟨fun k8=>⟨⟨by omega,by omega,by omega,by omega,tok.1,by omega,by omega⟩,by omega⟩,fun k8=>⟨fun k9=>⟨by omega,by omega,?_⟩,fun k9=>⟨rfl,by dsimp only;omega,by dsimp only;omega,k5.sh,k6,by dsimp only;omega⟩⟩⟩
  have pok:=vw (a:=⟨List.getD [(2:Int),3] (f1 (2,b',q+1,())).1.toNat default,(f1 (3,b',q+1+1,())).1,[],[]⟩) k5 (by omega)
  exact⟨rfl,by dsimp only;omega,by dsimp only;omega,pok.1.sh,by dsimp only;omega,by dsimp only;omega⟩
theorem aaU {p1:Int×List Int×Int×Unit→Bool} {f1:Int×List Int×Int×Unit→Int×List Int×Int×Unit} (hp1:∀n b p,Bt b→0≤p→p<1000000000→p1 (n,b,p,())=true) (hf1:∀n b p,Bt b→0≤p→p<1000000000→Pk n b p (f1 (n,b,p,())))
    {p2:Int×List Int×Int×Unit→Bool} {f2:Int×List Int×Int×Unit→Bool×List Int×Int×Unit} (hp2:∀n b p,Bt b→0≤p→p<1000000000→p2 (n,b,p,())=true) (hf2:∀n b p,Bt b→0≤p→p<1000000000→(f2 (n,b,p,())).2.1=b∧(f2 (n,b,p,())).2.2.1=p+1)
    {p3:Int×Unit→Bool} {f3:Int×Unit→List aj×Unit} (hp3:∀n,p3 (n,())=true) (hf3:∀n,f3 (n,())=(fG n,()))
    {p4:List Int×Int×Unit→Bool} {f4:List Int×Int×Unit→List Int×Int×List Atom×Unit} (hp4:∀b p,Bt b→0≤p→p<400000000→p4 (b,p,())=true) (hf4:∀b p,Bt b→0≤p→p<400000000→apo b p 12 (f4 (b,p,())))
    (n:Int) (b:List Int) (p:Int) (hb:Bt b) (h1:0≤p) (h2:p<300000000):Jf (std 0) p1 f1 p2 f2 p3 f3 p4 f4 (n,b,p,()) (fun(y:List Int×Int×List Atom×Unit)=>y.1=b∧p≤y.2.1∧y.2.1≤p+20000∧ShT y.2.2.1∧0<y.2.2.1.length):=by
  obtain⟨a1,a2,a3,a4,a5,a6⟩:=hf4 b p hb h1 (by omega)
  generalize hq:(f4 (b,p,())).2.1=q at a2 a3
  generalize ht:(f4 (b,p,())).2.2.1=t at a4 a5 a6
  obtain⟨b1,b2⟩:=hf2 n b q hb (by omega) (by omega)
  obtain⟨c1,c2,c3,c4⟩:=hf1 4 b (q+1) hb (by omega) (by omega)
  obtain⟨d1,d2,d3,d4⟩:=hf1 3 b (q+1+1) hb (by omega) (by omega)
  have cc:∀a:Atom,ShA a→ShT (t++ [a])∧0< (t++ [a]).length:=fun a ha=>⟨⟨by rw [List.length_append];simp only [List.length_cons,List.length_nil];omega,fun x hx=>by
    rw [List.mem_append,List.mem_singleton]at hx
    rcases hx with hx | rfl
    · exact a4.2 x hx
    · exact ha⟩,by simp⟩
  dsimp only [Jf,Alg.cl,Alg.bd,Alg.l1,Tup.q,Tup.o]
  simp (disch:=omega) only [RR,hp4 b p hb h1 (by omega),a1,hq,ht,hp2 n b q hb (by omega) (by omega),b1,b2,hp1 4 b (q+1) hb (by omega) (by omega),c1,c2,hp1 3 b (q+1+1) hb (by omega) (by omega),d1,d2,hp3,hf3,List.length_cons,List.length_nil]
  refine⟨fun _=>⟨fun _=>⟨by omega,by omega,by omega,by omega,by omega,by omega,by omega,cc _ (a4.at _)⟩,fun _=>⟨fun _=>⟨by omega,by omega,by omega,cc _ ⟨ZY 50,jw⟩⟩,fun _=>⟨fun _=>⟨by omega,by omega,by omega,by omega,by omega,by omega,by omega,by omega,?_⟩,fun _=>⟨by omega,by omega,by omega,cc _ ⟨jw,jw⟩⟩⟩⟩⟩,fun _=>⟨by omega,by omega,a4,a5⟩⟩
  refine⟨⟨by rw [List.length_set];omega,fun x hx=> ?_⟩,by rw [List.length_set];omega⟩
  rcases List.mem_or_eq_of_mem_set hx with hx | rfl
  · exact a4.2 x hx
  · exact a4.at (Int.toNat 0)
end Go.TX.F
namespace Go.TX.F
open Go Go.AE Go.TX
theorem VG {l o:List aj} (h:aN o) (h2:∀k,cf o k=cf l k%65536):rR l=(true,o):=by
  unfold rR;rw [VB h.nf h2,fJ h,if_pos rfl]
theorem Tm {x:List aj} (h:aN x):aN (jr x 65535)∧∀k,cf (jr x 65535) k=(65535*cf x k)%65536:=by
  have hc:∀(l:List aj) k,cf (l.map fun m=>(⟨m.bK*65535%65536,m.atoms⟩:aj)) k%65536=(65535*cf l k)%65536:=fun l k=>by
    induction l with
    | nil=>rfl
    | cons m l ih=>rw [List.map_cons,dA,dA];dsimp only;split<;>omega
  have no:Nf (x.map fun m=>(⟨m.bK*65535%65536,m.atoms⟩:aj)):=⟨by
    rw [List.pairwise_map];exact h.nf.ss,fun m hm=>by
    rw [List.mem_map]at hm
    obtain⟨n,hn,rfl⟩:=hm
    have:=h.nf.co n hn
    dsimp only;omega⟩
  have ok:aN (x.map fun m=>(⟨m.bK*65535%65536,m.atoms⟩:aj)):=gX.2 ⟨no,by rw [List.length_map];exact h.len,fun m hm=>by
    rw [List.mem_map]at hm
    obtain⟨n,hn,rfl⟩:=hm
    exact show n.atoms.length≤4∧aok n.atoms from h.aok hn⟩
  have pe:prods x (dJ 65535)=x.map fun m=>(⟨m.bK*65535%65536,m.atoms⟩:aj):=by
    unfold dJ;rw [if_pos (by omega),Dk]
    exact List.map_congr_left fun m hm=>Jo 65535 (h.aok hm).2
  have e:jr x 65535=x.map fun m=>(⟨m.bK*65535%65536,m.atoms⟩:aj):=by
    unfold jr l8
    rw [if_pos (by rw [fJ h];rfl),if_pos (by rw [fJ h,fJ (kD _)];rfl),pe,VG ok (fun k=>by have:=no.bnd k;omega)]
  rw [e]
  exact⟨ok,fun k=>by rw [←hc];have:=no.bnd k;omega⟩
theorem sub_self {x:List aj} (h:aN x):jv 2 x x=([],true):=by
  obtain⟨h1,h2⟩:=Tm h
  unfold jv mZ
  rw [if_neg (by omega),if_pos rfl,if_pos (by rw [fJ h,fJ h1];rfl),VG eH (fun k=>by rw [dG,h2,lM];omega)]
theorem Jq {x:List aj} (h:(dQ x).2=true):aN x∧x=dJ (dQ x).1∧0≤(dQ x).1∧(dQ x).1≤65535:=by
  unfold dQ at h ⊢
  by_cases c:aN x
  · rw [fJ c,if_pos rfl]at h ⊢
    refine⟨c,?_⟩
    by_cases c1:x.length=0
    · rw [if_pos c1];exact⟨by rw [List.eq_nil_of_length_eq_zero c1];rfl,by omega,by omega⟩
    · rw [if_neg c1]at h ⊢
      by_cases c2:x.length=1∧(x.getD 0 default).atoms.length=0
      · rw [if_pos c2]
        match x,c,c2 with
        | [m],c,c2=>
          have hc:=c.nf.co m (by simp)
          have ha:m.atoms=[]:=List.eq_nil_of_length_eq_zero c2.2
          refine⟨?_,by show 0≤m.bK;omega,by show m.bK≤65535;omega⟩
          show [m]=dJ m.bK
          unfold dJ;rw [if_pos hc,←ha]
      · rw [if_neg c2]at h;exact absurd h (by simp)
  · rw [iY c]at h;exact absurd h (by simp)
end Go.TX.F
namespace Go.TX.F
open Go Go.AE Go.TX
end Go.TX.F
