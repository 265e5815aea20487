/- Part 5 of a proof: what the last part needs. No condition. -/
import Derived.Test.YtpijningoklkpaaGreatZd
set_option linter.all false
set_option linter.unusedSectionVars false
set_option linter.unusedVariables false
set_option linter.unusedSimpArgs false
namespace Go.TX.Seat
open Go Go.AE Go.TX Go.TX.F Go.Proofs
set_option maxRecDepth 100000
theorem avc (A:Alg) (RZ:Ct A.ah QO) (R3:Ct A.ah QN) (aW:Ct A.ah cB): @Ru ay.z X E A [] (.v (.v (.seq (.v (.block (.loop ⟨[(1,.p 0 7),(25,.i),(26,.i)],[.s false .blk]⟩ .u))) .u))) El Tryz.f28 [(70,⟨_,RZ⟩),(69,⟨_,R3⟩),(68,⟨_,aW⟩)] (ac3 A.al RZ.pre RZ.fn R3.pre R3.fn aW.pre aW.fn):=fun _=>by kernel_rfl
theorem avd (A:Alg): @Ru ay.z X E A [(6,[od 0 [0],od 1 [5],od 2 [16,17],od 3 [18],od 4 [1],od 5 [5],od 6 [20,21],od 7 [22],od 8 [19,23]])] (.v (.v (.seq (.v (.block (.loop ⟨[(0,.r false .iop),(1,.r false .iop),(12,.i),(13,.i)],[]⟩ .u))) .u))) QS Tryz.f71 [] (ac4 A.al):=fun _=>by kernel_rfl
theorem ave (A:Alg) (R4:Ct A.ah QS): @Ru ay.z X E A [] .u Em Tryz.f29 [(71,⟨_,R4⟩)] (ac5 A.al R4.pre R4.fn):=fun _=>by kernel_rfl
theorem avf (A:Alg): @Ru ay.z X E A [] .u QT Tryz.f176 [] (ac6 A.al):=fun _=>by kernel_rfl
theorem anq (A:Alg) (R5:Ct A.ah QT): @Ru ay.z X E A [] (.v (.seq (.v (.block (.loop ⟨[(0,.r false .i64),(1,.c (.fn 176 [(0,1)])),(7,.i),(8,.i)],[.box (.i)]⟩ .u))) .u)) Ic Tryz.f198 [(176,⟨_,R5⟩)] (V5 A.al R5.pre R5.fn):=fun _=>by kernel_rfl
theorem avg (A:Alg) (J9:Ct A.ah Ic): @Ru ay.z X E A [] .u QU Tryz.f175 [(198,⟨_,J9⟩)] (ac7 A.al J9.pre J9.fn):=fun _=>by kernel_rfl
theorem avh (A:Alg) (R6:Ct A.ah QU): @Ru ay.z X E A [] (.v (.seq (.v (.block (.loop ⟨[(3,.p 0 1),(8,.r false .mono),(9,.i),(10,.i)],[.box (.i)]⟩ .u))) .u)) En Tryz.f147 [(175,⟨_,R6⟩)] (ac8 A.al R6.pre R6.fn):=fun _=>by kernel_rfl
theorem azF (A:Alg): @Ru ay.z X E A [] .u QV Tryz.f182 [] (ak0 A.al):=fun _=>by kernel_rfl
theorem azG (A:Alg) (LZ:Ct A.ah QV): @Ru ay.z X E A [] .u Ie Tryz.f155 [(182,⟨_,LZ⟩)] (ak1 A.al LZ.pre LZ.fn):=fun _=>by kernel_rfl
theorem azH (A:Alg): @Ru ay.z X E A [] (.v (.v (.seq (.v (.block (.loop ⟨[(3,.i),(6,.r false .i64),(7,.i),(8,.i)],[]⟩ .u))) .u))) QW Tryz.f156 [] (ak2 A.al):=fun _=>by kernel_rfl
theorem avi (A:Alg) (AU:Ct A.ah Ie): @Ru ay.z X E A [] (.v (.seq (.v (.block (.loop ⟨[(0,.r false .i64),(1,.r false .i64),(9,.r false .i64),(10,.i),(11,.i)],[]⟩ .u))) .u)) QX Tryz.f183 [(155,⟨_,AU⟩)] (adb A.al AU.pre AU.fn):=fun _=>by kernel_rfl
theorem avj (A:Alg) (L6:Ct A.ah QW) (AU:Ct A.ah Ie) (R7:Ct A.ah QX): @Ru ay.z X E A [] .u o8 Tryz.f157 [(156,⟨_,L6⟩),(155,⟨_,AU⟩),(183,⟨_,R7⟩)] (ade A.al L6.pre L6.fn AU.pre AU.fn R7.pre R7.fn):=fun _=>by kernel_rfl
theorem azI (A:Alg) (LZ:Ct A.ah QV): @Ru ay.z X E A [] .u Ig Tryz.f184 [(182,⟨_,LZ⟩)] (ak5 A.al LZ.pre LZ.fn):=fun _=>by kernel_rfl
theorem anr (A:Alg) (AV:Ct A.ah Ig): @Ru ay.z X E A [(4,[od 0 [0],od 1 [3],od 2 [11,12],od 3 [13],od 4 [0],od 5 [3],od 6 [16],od 7 [15,17],od 8 [18],od 9 [14,19]])] (.v (.seq (.v (.block (.loop ⟨[(0,.r false .i64),(3,.i)],[]⟩ .u))) .u)) Ih Tryz.f159 [(184,⟨_,AV⟩)] (V6 A.al AV.pre AV.fn):=fun _=>by kernel_rfl
theorem avk (A:Alg): @Ru ay.z X E A [] .u QY Tryz.f161 [] (adh A.al):=fun _=>by kernel_rfl
theorem ant (A:Alg) (R8:Ct A.ah QY): @Ru ay.z X E A [] (.v (.seq (.v (.block (.loop ⟨[(0,.r false .mono),(1,.c (.fn 161 [])),(7,.i),(8,.i)],[]⟩ .u))) .u)) Ii Tryz.f185 [(161,⟨_,R8⟩)] (V7 A.al R8.pre R8.fn):=fun _=>by kernel_rfl
theorem avl (A:Alg) (Ka:Ct A.ah Ii): @Ru ay.z X E A [] .u QZ Tryz.f160 [(185,⟨_,Ka⟩)] (adi A.al Ka.pre Ka.fn):=fun _=>by kernel_rfl
theorem avm (A:Alg) (aW:Ct A.ah cB) (y9:Ct A.ah En) (Kc:Ct A.ah Ih) (ko:Ct A.ah o8) (R9:Ct A.ah QZ): @Ru ay.z X E A [(4,[od 0 [4],od 1 [13],od 2 [14],od 3 [15],od 4 [16],od 5 [4,17],od 6 [17,18],od 7 [17,19],od 8 [17,20],od 9 [17,21],od 10 [22],od 11 [4,23],od 12 [23,24],od 13 [23,25],od 14 [23,26],od 15 [23,27],od 16 [28],od 17 [3,29],od 18 [29,30],od 19 [29,31],od 20 [1,32],od 21 [32,33],od 22 [3,32],od 23 [32,35],od 24 [32,34,36],od 25 [32,37],od 26 [32,38],od 27 [4,32],od 28 [32,40],od 29 [32,39,41],od 30 [32,42],od 31 [29,32,43],od 32 [29,44]])] (.v (.seq (.v (.block (.loop ⟨[(1,.p 0 1),(6,.r false .mono),(7,.i),(8,.i)],[.s false .poly]⟩ .u))) .u)) iZ Tryz.f123 [(68,⟨_,aW⟩),(147,⟨_,y9⟩),(159,⟨_,Kc⟩),(157,⟨_,ko⟩),(160,⟨_,R9⟩)] (adk A.al aW.pre aW.fn y9.pre y9.fn Kc.pre Kc.fn ko.pre ko.fn R9.pre R9.fn):=fun _=>by kernel_rfl
theorem avn (A:Alg) (aW:Ct A.ah cB) (yZ:Ct A.ah Eh) (y9:Ct A.ah En) (fF:Ct A.ah iZ) (y7:Ct A.ah Ef): @Ru ay.z X E A [] .u Eo Tryz.f117 [(68,⟨_,aW⟩),(114,⟨_,yZ⟩),(147,⟨_,y9⟩),(123,⟨_,fF⟩),(113,⟨_,y7⟩)] (adl A.al aW.pre aW.fn yZ.pre yZ.fn y9.pre y9.fn fF.pre fF.fn y7.pre y7.fn):=fun _=>by kernel_rfl
theorem avo (A:Alg) (L6:Ct A.ah QW) (AU:Ct A.ah Ie) (ko:Ct A.ah o8): @Ru ay.z X E A [(7,[od 0 [7],od 1 [27],od 2 [3],od 3 [29],od 4 [6],od 5 [30,31],od 6 [32],od 7 [33],od 9 [7],od 10 [36],od 11 [3],od 12 [38],od 13 [6],od 14 [39,40],od 15 [41],od 16 [42],(8,([28,34],[10,12,16])),od 17 [37,43],od 18 [35,44],od 19 [45],od 20 [46]])] (.v (.v (.seq (.v (.block (.loop ⟨[(3,.p 0 1),(20,.r false .mono),(21,.i),(22,.i)],[.s false .poly]⟩ .u))) .u))) wz Tryz.f120 [(156,⟨_,L6⟩),(155,⟨_,AU⟩),(157,⟨_,ko⟩)] (adn A.al L6.pre L6.fn AU.pre AU.fn ko.pre ko.fn):=fun _=>by kernel_rfl
theorem avp (A:Alg) (oC:Ct A.ah wz): @Ru ay.z X E A [] .u kg Tryz.f85 [(120,⟨_,oC⟩)] (ado A.al oC.pre oC.fn):=fun _=>by kernel_rfl
theorem avq (A:Alg) (gJ:Ct A.ah kg): @Ru ay.z X E A [] .u Q0 Tryz.f150 [(85,⟨_,gJ⟩)] (adp A.al gJ.pre gJ.fn):=fun _=>by kernel_rfl
theorem avr (A:Alg) (Sb:Ct A.ah Q0): @Ru ay.z X E A [] .u Q5 Tryz.f149 [(150,⟨_,Sb⟩)] (adq A.al Sb.pre Sb.fn):=fun _=>by kernel_rfl
theorem anu (A:Alg) (Sc:Ct A.ah Q5): @Ru ay.z X E A [] (.v (.seq (.v (.block (.loop ⟨[(0,.r false .atom),(1,.c (.fn 149 [(0,4)])),(7,.i),(8,.i)],[.s false .atom]⟩ .u))) .u)) Ij Tryz.f148 [(149,⟨_,Sc⟩)] (V8 A.al Sc.pre Sc.fn):=fun _=>by kernel_rfl
theorem avs (A:Alg) (Ke:Ct A.ah Ij): @Ru ay.z X E A [] .u Ep Tryz.f118 [(148,⟨_,Ke⟩)] (adr A.al Ke.pre Ke.fn):=fun _=>by kernel_rfl
theorem avt (A:Alg): @Ru ay.z X E A [] .u Q6 Tryz.f158 [] (ads A.al):=fun _=>by kernel_rfl
theorem avu (A:Alg) (za:Ct A.ah Eo) (ze:Ct A.ah Ep) (Sd:Ct A.ah Q6): @Ru ay.z X E A [(6,[od 0 [2],od 1 [28],od 3 [3],od 4 [31],(2,([29],[3])),od 5 [30,32],od 6 [33],od 7 [],od 8 [7,34]]),(7,[od 0 [7],od 1 [2],od 2 [36],od 3 [37],(4,([4,35],[2])),od 5 [38]])] .u Er Tryz.f121 [(117,⟨_,za⟩),(118,⟨_,ze⟩),(158,⟨_,Sd⟩)] (adt A.al za.pre za.fn ze.pre ze.fn Sd.pre Sd.fn):=fun _=>by kernel_rfl
theorem avv (A:Alg) (aW:Ct A.ah cB): @Ru ay.z X E A [] .u Es Tryz.f122 [(68,⟨_,aW⟩)] (adz A.al aW.pre aW.fn):=fun _=>by kernel_rfl
theorem avw (A:Alg) (zf:Ct A.ah Es) (zh:Ct A.ah Er): @Ru ay.z X E A [] .u Eu Tryz.f80 [(122,⟨_,zf⟩),(121,⟨_,zh⟩)] (adA A.al zf.pre zf.fn zh.pre zh.fn):=fun _=>by kernel_rfl
theorem avx (A:Alg) (zi:Ct A.ah Eu): @Ru ay.z X E A [] (.v (.v (.seq (.v (.block (.loop ⟨[(0,.p 0 2),(3,.o 1),(5,.i)],[.g [.rows true .atom,.bool],.rows true .poly]⟩ .u))) .u))) Ew Tryz.f72 [(80,⟨_,zi⟩)] (adF A.al zi.pre zi.fn):=fun _=>by kernel_rfl
theorem avy (A:Alg): @Ru ay.z X E A [] .u Ey Tryz.f146 [] (adG A.al):=fun _=>by kernel_rfl
theorem avz (A:Alg) (zk:Ct A.ah Ey): @Ru ⟨[20],[]⟩ X E A [(5,[od 0 [3],od 1 [13],od 2 [5],od 3 [15],od 4 [5],od 5 [17],(6,([18],[1,3])),od 7 [16,19],(8,([20],[1])),od 9 [14,21],od 10 [3],od 11 [22,23]])] (.v (.v (.seq (.v (.block (.loop ⟨[(2,.p 0 1),(3,.p 1 1),(7,.r false .mono),(8,.i),(9,.i)],[.g [.nil],.g [.own 2],.rows true .mono]⟩ .u))) .u))) wB Tryz.f116 [(146,⟨_,zk⟩)] (adH A.al zk.pre zk.fn):=fun _=>by kernel_rfl
theorem avA (A:Alg) (oD:Ct A.ah wB): @Ru ⟨[25],[]⟩ X E A [(5,[od 0 [3],od 1 [13],od 2 [5],od 3 [15],od 4 [5],od 5 [17],od 6 [5],od 7 [19],od 9 [5],od 10 [22],(8,([20],[1,3,5,10])),(11,([23],[1,3,5])),od 12 [16,18,21,24],(13,([25],[1])),od 14 [14,26],od 15 [3],od 16 [27,28]])] (.v (.v (.seq (.v (.block (.loop ⟨[(2,.p 0 1),(3,.p 1 1),(7,.r false .atom),(8,.i),(9,.i)],[.g [.nil],.g [.own 2],.rows true .atom]⟩ .u))) .u))) Ez Tryz.f73 [(116,⟨_,oD⟩)] (adK A.al oD.pre oD.fn):=fun _=>by kernel_rfl
theorem avB (A:Alg) (zl:Ct A.ah Ez) (zm:Ct A.ah Ew): @Ru ay.z X E A [] .u Q7 Tryz.f30 [(73,⟨_,zl⟩),(72,⟨_,zm⟩)] (adL A.al zl.pre zl.fn zm.pre zm.fn):=fun _=>by kernel_rfl
theorem avC (A:Alg) (za:Ct A.ah Eo) (ze:Ct A.ah Ep): @Ru ay.z X E A [] (.v (.seq (.v (.block (.loop ⟨[(1,.p 0 1),(6,.r false .atom),(7,.i),(8,.i)],[.s false .tab]⟩ .u))) .u)) Q8 Tryz.f74 [(117,⟨_,za⟩),(118,⟨_,ze⟩)] (adQ A.al za.pre za.fn ze.pre ze.fn):=fun _=>by kernel_rfl
theorem avD (A:Alg) (aW:Ct A.ah cB): @Ru ay.z X E A [] .u Q9 Tryz.f76 [(68,⟨_,aW⟩)] (adR A.al aW.pre aW.fn):=fun _=>by kernel_rfl
theorem avE (A:Alg): @Ru ay.z X E A [] .u Ra Tryz.f77 [] (adS A.al):=fun _=>by kernel_rfl
theorem avF (A:Alg) (aW:Ct A.ah cB): @Ru ay.z X E A [] .u wC Tryz.f78 [(68,⟨_,aW⟩)] (adT A.al aW.pre aW.fn):=fun _=>by kernel_rfl
theorem avG (A:Alg) (fF:Ct A.ah iZ): @Ru ay.z X E A [] .u EA Tryz.f125 [(123,⟨_,fF⟩)] (adU A.al fF.pre fF.fn):=fun _=>by kernel_rfl
theorem avH (A:Alg): @Ru ay.z X E A [] .u wD Tryz.f181 [] (adV A.al):=fun _=>by kernel_rfl
theorem avI (A:Alg) (ko:Ct A.ah o8): @Ru ay.z X E A [] .u EB Tryz.f200 [(157,⟨_,ko⟩)] (adW A.al ko.pre ko.fn):=fun _=>by kernel_rfl
theorem anv (A:Alg) (o9:Ct A.ah EB): @Ru ay.z X E A [(4,[od 0 [9],od 1 [1],od 2 [18,19],od 3 [20],od 4 [3,21],od 5 [0,21],od 6 [9,21],od 7 [21,23,24],od 8 [21,25],od 9 [0,21],od 10 [9,21],od 11 [21,28],od 12 [21,27,29],od 13 [21,30],od 14 [21,22,26,31],od 15 [21,32],od 16 [21,33]]),(6,[od 0 [0],od 1 [9],od 2 [0],od 3 [9],od 4 [40],od 5 [0],od 6 [9],od 7 [43],od 8 [42,44],od 9 [45],od 10 [0],od 11 [9],od 12 [47,48],od 13 [49],od 14 [37,38],od 15 [46,51],od 16 [39,41],od 17 [50,52]])] (.v (.block (.loop ⟨[(0,.o 0),(1,.i),(2,.i),(3,.c (.fn 200 [])),(8,.i)],[.rows false .mono]⟩ (.v (.seq (.block (.v (.block (.loop ⟨[(0,.o 0),(1,.i),(2,.i),(3,.c (.fn 200 [])),(8,.i),(9,.i)],[.rows false .mono]⟩ .u)))) .u))))) Ik Tryz.f217 [(200,⟨_,o9⟩)] (V9 A.al o9.pre o9.fn):=fun _=>by kernel_rfl
theorem anw (A:Alg): @Ru ay.z X E A [(3,[od 0 [0],od 1 [1],od 2 [10],od 3 [17,18],od 4 [0],od 5 [2],od 6 [10],od 7 [21,22],od 8 [0],od 9 [2],od 10 [10],od 11 [25,26],od 12 [24,27],od 13 [28],od 14 [0],od 15 [1],od 16 [10],od 17 [31,32],od 18 [30,33],od 19 [34],od 20 [16,19],od 21 [29,36],od 22 [20,23],od 23 [35,37]])] (.v (.block (.loop ⟨[(0,.o 0),(1,.i),(2,.i),(3,.i),(10,.i)],[.rows false .mono]⟩ .u))) Il Tryz.f226 [] (Wd A.al):=fun _=>by kernel_rfl
theorem anx (A:Alg) (Kg:Ct A.ah Il): @Ru ay.z X E A [] (.v (.v (.seq (.block (.loop ⟨[(0,.o 0),(2,.i),(4,.c (.fn 200 [])),(10,.i),(11,.i)],[.rows false .mono]⟩ (.v (.block (.v (.cut ⟨[(0,.o 0),(2,.i),(4,.c (.fn 200 [])),(10,.i),(11,.i)],[.rows false .mono]⟩ (.cond .u .u))))))) .u))) Im Tryz.f224 [(226,⟨_,Kg⟩)] (Wh A.al Kg.pre Kg.fn):=fun _=>by kernel_rfl
theorem anz (A:Alg) (o9:Ct A.ah EB) (tJ:Ct A.ah Im) (qI:Ct A.ah om): @Ru ay.z X E A [(5,[od 0 [4],od 1 [0],od 2 [12],od 3 [41,42],od 4 [43],od 5 [0],od 6 [1],od 7 [45,46],od 8 [47],od 9 [40,44,48],od 10 [49]]),(11,[od 0 [0],od 1 [13],od 2 [0],od 3 [13],od 4 [64],od 5 [0],od 6 [13],od 7 [67],od 8 [66,68],od 9 [69],od 10 [0],od 11 [13],od 12 [71,72],od 13 [73],od 14 [61,62],od 15 [70,75],od 16 [63,65],od 17 [74,76]]),(17,[od 0 [4],od 1 [0],od 2 [2],od 3 [93,94],od 4 [95],od 5 [0],od 6 [16],od 7 [97,98],od 8 [99],od 9 [92,96,100],od 10 [101],od 11 [102]]),(23,[od 0 [0],od 1 [17],od 2 [0],od 3 [17],od 4 [116],od 5 [0],od 6 [17],od 7 [119],od 8 [118,120],od 9 [121],od 10 [0],od 11 [17],od 12 [123,124],od 13 [125],od 14 [113,114],od 15 [122,127],od 16 [115,117],od 17 [126,128]]),(35,[od 0 [4],od 1 [0],od 2 [22],od 3 [23],od 4 [160,161],od 5 [159,162],od 6 [163],od 7 [0],od 8 [23],od 9 [165,166],od 10 [167],od 11 [158,164,168],od 12 [169],od 13 [170]])] (.seq (.v (.cond (.v (.v (.seq (.block (.loop ⟨[(0,.o 0),(1,.i),(4,.c (.fn 200 [])),(10,.i),(11,.i)],[.rows false .mono]⟩ (.v (.block (.v (.v (.cut ⟨[(0,.o 0),(1,.i),(4,.c (.fn 200 [])),(10,.i),(11,.i)],[.rows false .mono]⟩ (.cond .u .u)))))))) (.seq (.v (.block (.loop ⟨[(0,.o 0),(10,.i),(13,.i)],[.rows false .mono]⟩ .u))) .u)))) .u)) (.seq (.v (.cond (.v (.v (.seq (.block (.loop ⟨[(0,.o 0),(2,.i),(4,.c (.fn 200 [])),(14,.i),(15,.i)],[.rows false .mono]⟩ (.v (.block (.v (.v (.cut ⟨[(0,.o 0),(2,.i),(4,.c (.fn 200 [])),(14,.i),(15,.i)],[.rows false .mono]⟩ (.cond .u .u)))))))) (.seq (.v (.block (.loop ⟨[(0,.o 0),(14,.i),(17,.i)],[.rows false .mono]⟩ .u))) .u)))) .u)) (.v (.v (.v (.seq (.v (.cut ⟨[(0,.o 0),(1,.i),(2,.i),(3,.i),(4,.c (.fn 200 [])),(18,.i),(19,.i),(20,.i),(21,.i)],[.rows false .mono]⟩ (.cond .u .u))) (.v (.seq (.block (.loop ⟨[(0,.o 0),(1,.i),(2,.i),(3,.i),(4,.c (.fn 200 [])),(18,.i),(19,.i),(20,.i),(21,.i),(22,.i)],[.rows false .mono]⟩ (.v (.block (.v (.v (.cut ⟨[(0,.o 0),(1,.i),(2,.i),(3,.i),(4,.c (.fn 200 [])),(18,.i),(19,.i),(20,.i),(21,.i),(22,.i)],[.rows false .mono]⟩ (.cond .u .u)))))))) (.v (.seq (.v (.cut ⟨[(0,.o 0),(1,.i),(3,.i),(4,.c (.fn 200 [])),(18,.i),(20,.i),(24,.i)],[.rows false .mono]⟩ (.cond .u .u))) (.seq (.v (.cut ⟨[(0,.o 0),(3,.i),(4,.c (.fn 200 [])),(18,.i),(24,.i)],[.rows false .mono]⟩ (.cond .u .u))) (.v (.cut ⟨[],[.rows false .mono]⟩ (.cond .u .u)))))))))))))) om Tryz.f218 [(200,⟨_,o9⟩),(224,⟨_,tJ⟩),(218,⟨_,qI⟩)] (Js A.al o9.pre o9.fn tJ.pre tJ.fn qI.pre qI.fn):=fun _=>by kernel_rfl
theorem anA (A:Alg) (Kh:Ct A.ah Ik) (qI:Ct A.ah om): @Ru ay.z X E A [] (.v (.v (.seq (.block (.loop ⟨[(0,.o 0),(1,.i),(2,.c (.fn 200 [])),(6,.i),(7,.i),(8,.i)],[.rows false .mono]⟩ .u)) (.v (.block (.loop ⟨[(0,.o 0),(1,.i),(2,.c (.fn 200 [])),(6,.i)],[.rows false .mono]⟩ (.v (.block (.v (.seq (.block (.loop ⟨[(0,.o 0),(1,.i),(2,.c (.fn 200 [])),(6,.i),(7,.i),(8,.i)],[.rows false .mono]⟩ .u)) (.seq (.v (.v (.cut ⟨[(0,.o 0),(1,.i),(2,.c (.fn 200 [])),(6,.i)],[.rows false .mono]⟩ (.cond .u .u)))) .u))))))))))) Io Tryz.f206 [(217,⟨_,Kh⟩),(218,⟨_,qI⟩)] (Wm A.al Kh.pre Kh.fn qI.pre qI.fn):=fun _=>by kernel_rfl
theorem anB (A:Alg) (Ki:Ct A.ah Io): @Ru ay.z X E A [] .u Ip Tryz.f199 [(206,⟨_,Ki⟩)] (Wn A.al Ki.pre Ki.fn):=fun _=>by kernel_rfl
theorem avJ (A:Alg) (ko:Ct A.ah o8) (fF:Ct A.ah iZ) (oF:Ct A.ah wD) (zk:Ct A.ah Ey) (Kj:Ct A.ah Ip): @Ru ⟨[51],[]⟩ X E A [(5,[od 0 [0],od 1 [5],od 2 [14,15],od 3 [16],od 5 [],od 4 [],od 6 [7,17]]),(6,[od 0 [5],od 1 [0],od 2 [19],od 3 [18,20],od 4 [21],od 5 [7,22],od 6 [22,23],od 7 [0,22],od 8 [5,22],od 9 [22,25,26],od 10 [22,27],od 11 [22,28],od 12 [22,24,29],od 13 [22,30],od 14 [22,31]]),(10,[od 0 [4],od 1 [45],od 2 [6],od 3 [7],od 4 [48],(5,([49],[1])),od 6 [47,50],(7,([51],[1])),od 8 [46,52],od 9 [4],od 10 [53,54]])] (.v (.v (.v (.seq (.v (.block (.loop ⟨[(0,.o 0),(2,.p 1 1),(4,.p 2 1),(5,.i)],[.rows false .mono,.g [.nil],.g [.own 3],.rows true .mono]⟩ (.v (.block (.v (.seq (.block (.loop ⟨[(0,.o 0),(2,.p 1 1),(4,.p 2 1),(5,.i),(6,.i),(7,.p 3 2)],[.rows false .mono,.g [.nil],.g [.own 4],.s false .mono,.rows true .mono]⟩ .u)) (.v (.cut ⟨[(0,.o 0),(2,.p 1 1),(4,.p 2 1),(5,.i)],[.rows false .mono,.g [.nil],.g [.own 3],.rows true .mono]⟩ (.cond .u .u)))))))))) .u)))) EC Tryz.f177 [(157,⟨_,ko⟩),(123,⟨_,fF⟩),(181,⟨_,oF⟩),(146,⟨_,zk⟩),(199,⟨_,Kj⟩)] (adZ A.al ko.pre ko.fn fF.pre fF.fn oF.pre oF.fn zk.pre zk.fn Kj.pre Kj.fn):=fun _=>by kernel_rfl
theorem avK (A:Alg): @Ru ay.z X E A [] (.v (.v (.seq (.v (.v (.cut ⟨[(0,.o 0)],[.rows true .mono]⟩ (.cond .u .u)))) .u))) Rb Tryz.f201 [] (ad1 A.al):=fun _=>by kernel_rfl
theorem avL (A:Alg) (Sg:Ct A.ah Rb): @Ru ay.z X E A [] (.v (.v (.seq (.v (.block (.loop ⟨[(0,.r false .poly),(3,.i),(9,.r false .poly),(10,.i),(11,.i)],[]⟩ .u))) (.v (.seq (.v (.block (.loop ⟨[(6,.o 0),(25,.r false .poly),(26,.i),(27,.i)],[.rows false .mono]⟩ .u))) .u))))) Rc Tryz.f178 [(201,⟨_,Sg⟩)] (ad2 A.al Sg.pre Sg.fn):=fun _=>by kernel_rfl
theorem avM (A:Alg) (fF:Ct A.ah iZ) (zn:Ct A.ah EC) (Si:Ct A.ah Rc): @Ru ay.z X E A [] .u Rf Tryz.f151 [(123,⟨_,fF⟩),(177,⟨_,zn⟩),(178,⟨_,Si⟩)] (ad3 A.al fF.pre fF.fn zn.pre zn.fn Si.pre Si.fn):=fun _=>by kernel_rfl
theorem anC (A:Alg): @Ru ay.z X E A [] (.v (.v (.seq (.v (.v (.cut ⟨[(0,.o 0)],[.rows true .i64]⟩ (.cond .u .u)))) .u))) Iq Tryz.f202 [] (Wo A.al):=fun _=>by kernel_rfl
theorem avN (A:Alg) (Kk:Ct A.ah Iq): @Ru ay.z X E A [] (.v (.v (.seq (.v (.block (.loop ⟨[(0,.r false .ints),(3,.i),(9,.r false .ints),(10,.i),(11,.i)],[]⟩ .u))) (.v (.seq (.v (.block (.loop ⟨[(6,.o 0),(25,.r false .ints),(26,.i),(27,.i)],[.rows true .i64]⟩ .u))) .u))))) Rh Tryz.f179 [(202,⟨_,Kk⟩)] (ad6 A.al Kk.pre Kk.fn):=fun _=>by kernel_rfl
theorem anD (A:Alg) (AV:Ct A.ah Ig): @Ru ay.z X E A [(4,[od 0 [7],od 1 [1],od 2 [16,17],od 3 [18],od 4 [0,19],od 5 [7,19],od 6 [19,20,21],od 7 [19,22],od 8 [0,19],od 9 [7,19],od 10 [19,25],od 11 [19,24,26],od 12 [19,27],od 13 [19,23,28],od 14 [19,29]]),(6,[od 0 [0],od 1 [7],od 2 [0],od 3 [7],od 4 [36],od 5 [0],od 6 [7],od 7 [39],od 8 [38,40],od 9 [41],od 10 [0],od 11 [7],od 12 [43,44],od 13 [45],od 14 [33,34],od 15 [42,47],od 16 [35,37],od 17 [46,48]])] (.v (.block (.loop ⟨[(0,.o 0),(1,.i),(2,.i),(6,.i)],[.rows true .i64]⟩ (.v (.seq (.block (.v (.block (.loop ⟨[(0,.o 0),(1,.i),(2,.i),(6,.i),(7,.i)],[.rows true .i64]⟩ .u)))) .u))))) Ir Tryz.f207 [(184,⟨_,AV⟩)] (Wp A.al AV.pre AV.fn):=fun _=>by kernel_rfl
theorem anE (A:Alg) (AV:Ct A.ah Ig) (Kl:Ct A.ah Ir) (Dp:Ct A.ah Iu) (Dq:Ct A.ah Iw) (Dr:Ct A.ah Iy) (Dt:Ct A.ah Iz) (Du:Ct A.ah IB) (Dv:Ct A.ah IC) (Dw:Ct A.ah IE) (tK:Ct A.ah qg): @Ru ay.z X E A [(17,[od 0 [1],od 1 [73],od 2 [74],od 3 [0,75],od 4 [1,75],od 5 [75,77],od 6 [75,76,78],od 7 [75,79],od 8 [0,75],od 9 [11,75],od 10 [75,81,82],od 11 [75,83],od 12 [75,80,84],od 13 [75,85],od 14 [75,86]])] (.v (.v (.block (.loop ⟨[(0,.o 0),(1,.i),(2,.i),(3,.i),(8,.b),(9,.b)],[.rows true .i64]⟩ (.cut ⟨[(0,.o 0),(1,.i),(2,.i),(3,.i),(8,.b),(9,.b)],[.rows true .i64]⟩ (.block (.v (.v (.v (.seq (.v (.cut ⟨[(0,.o 0),(1,.i),(2,.i),(3,.i),(8,.b),(9,.b),(10,.i)],[.rows true .i64]⟩ (.cond .u .u))) (.v (.seq (.v (.cut ⟨[(0,.o 0),(1,.i),(2,.i),(3,.i),(8,.b),(9,.b),(10,.i),(11,.i),(12,.i)],[.rows true .i64]⟩ (.cond .u .u))) (.seq (.v (.cut ⟨[(0,.o 0),(1,.i),(2,.i),(3,.i),(8,.b),(9,.b),(10,.i),(11,.i)],[.rows true .i64]⟩ (.cond .u .u))) (.v (.v (.v (.v (.v (.v (.cut ⟨[(0,.o 0),(1,.i),(2,.i),(3,.i),(8,.b),(9,.b)],[.rows true .i64]⟩ (.cond .u .u))))))))))))))))))))) qg Tryz.f203 [(184,⟨_,AV⟩),(207,⟨_,Kl⟩),(208,⟨_,Dp⟩),(209,⟨_,Dq⟩),(210,⟨_,Dr⟩),(211,⟨_,Dt⟩),(212,⟨_,Du⟩),(213,⟨_,Dv⟩),(214,⟨_,Dw⟩),(203,⟨_,tK⟩)] (Wq A.al AV.pre AV.fn Kl.pre Kl.fn Dp.pre Dp.fn Dq.pre Dq.fn Dr.pre Dr.fn Dt.pre Dt.fn Du.pre Du.fn Dv.pre Dv.fn Dw.pre Dw.fn tK.pre tK.fn):=fun _=>by kernel_rfl
theorem anF (A:Alg) (tK:Ct A.ah qg) (Km:Ct A.ah ZK): @Ru ay.z X E A [] .u IG Tryz.f180 [(203,⟨_,tK⟩),(204,⟨_,Km⟩)] (Ws A.al tK.pre tK.fn Km.pre Km.fn):=fun _=>by kernel_rfl
theorem avO (A:Alg) (fF:Ct A.ah iZ) (oF:Ct A.ah wD) (zn:Ct A.ah EC) (Sj:Ct A.ah Rh) (Kn:Ct A.ah IG): @Ru ay.z X E A [] (.v (.v (.v (.seq (.v (.block (.loop ⟨[(3,.p 0 1),(4,.p 1 1),(6,.o 2),(22,.r false .mono),(23,.i),(24,.i)],[.s false .poly,.g [.nil],.rows true .mono]⟩ (.v (.v (.seq (.block (.v (.v (.block (.loop ⟨[(3,.p 0 1),(4,.p 1 1),(6,.o 2),(8,.p 3 2),(22,.r false .mono),(23,.i),(24,.i),(29,.r false .mono),(30,.i),(31,.i)],[.s false .poly,.g [.nil],.rows true .mono,.s false .mono]⟩ .u))))) .u)))))) .u)))) ED Tryz.f153 [(123,⟨_,fF⟩),(181,⟨_,oF⟩),(177,⟨_,zn⟩),(179,⟨_,Sj⟩),(180,⟨_,Kn⟩)] (ad7 A.al fF.pre fF.fn oF.pre oF.fn zn.pre zn.fn Sj.pre Sj.fn Kn.pre Kn.fn):=fun _=>by kernel_rfl
theorem avP (A:Alg) (fF:Ct A.ah iZ) (oG:Ct A.ah wC) (iN:Ct A.ah lZ) (zo:Ct A.ah ED): @Ru ay.z X E A [(3,[od 0 [2],od 1 [1],(2,([18],[0])),od 3 [17,19],od 4 [20],od 5 [16],od 6 [16],od 7 [],od 8 [5,21],od 9 [22]])] .u Ri Tryz.f152 [(123,⟨_,fF⟩),(78,⟨_,oG⟩),(112,⟨_,iN⟩),(153,⟨_,zo⟩)] (ad8 A.al fF.pre fF.fn oG.pre oG.fn iN.pre iN.fn zo.pre zo.fn):=fun _=>by kernel_rfl
theorem avQ (A:Alg) (iN:Ct A.ah lZ) (oF:Ct A.ah wD): @Ru ay.z X E A [] .u Rj Tryz.f154 [(112,⟨_,iN⟩),(181,⟨_,oF⟩)] (aeb A.al iN.pre iN.fn oF.pre oF.fn):=fun _=>by kernel_rfl
theorem avR (A:Alg) (gJ:Ct A.ah kg) (oG:Ct A.ah wC) (Sk:Ct A.ah Rj) (Sl:Ct A.ah Rf) (zo:Ct A.ah ED) (Sn:Ct A.ah Ri) (zq:Ct A.ah EA): @Ru ay.z X E A [(5,[od 0 [4],od 1 [5],(2,([23],[0])),od 3 [22,24],od 4 [25],od 5 [25],od 6 [6,26],od 7 [27]])] (.v (.v (.v (.v (.v (.seq (.v (.cut ⟨[(0,.i),(4,.p 0 1),(6,.p 1 1),(10,.i),(11,.b)],[.s true .poly,.g [.nil]]⟩ (.cond .u .u))) .u)))))) Rk Tryz.f119 [(85,⟨_,gJ⟩),(78,⟨_,oG⟩),(154,⟨_,Sk⟩),(151,⟨_,Sl⟩),(153,⟨_,zo⟩),(152,⟨_,Sn⟩),(125,⟨_,zq⟩)] (aec A.al gJ.pre gJ.fn oG.pre oG.fn Sk.pre Sk.fn Sl.pre Sl.fn zo.pre zo.fn Sn.pre Sn.fn zq.pre zq.fn):=fun _=>by kernel_rfl
theorem avS (A:Alg) (oC:Ct A.ah wz) (Sq:Ct A.ah Rk) (zh:Ct A.ah Er) (zf:Ct A.ah Es): @Ru ay.z X E A [(3,[od 0 [4],od 1 [11],(2,([8,23],[1])),od 3 [9,24],od 4 []]),(9,[od 0 [13],od 1 [14],(2,([49],[0])),od 3 [8,48],od 4 [9,50],od 5 []])] (.v (.v (.seq (.v (.cut ⟨[(1,.i),(4,.p 0 1),(6,.p 1 1),(7,.p 2 1),(8,.p 3 1),(9,.p 4 1)],[.s true .tab,.s true .poly,.s true .poly,.g [.nil],.g [.nil]]⟩ (.cond .u .u))) .u))) Rl Tryz.f79 [(120,⟨_,oC⟩),(119,⟨_,Sq⟩),(121,⟨_,zh⟩),(122,⟨_,zf⟩)] (aed A.al oC.pre oC.fn Sq.pre Sq.fn zh.pre zh.fn zf.pre zf.fn):=fun _=>by kernel_rfl
theorem avT (A:Alg) (oD:Ct A.ah wB): @Ru ay.z X E A [] (.v (.v (.seq (.v (.block (.loop ⟨[(3,.o 0),(6,.r false .poly),(7,.i),(8,.i)],[.rows true .poly]⟩ .u))) .u))) Rm Tryz.f162 [(116,⟨_,oD⟩)] (aee A.al oD.pre oD.fn):=fun _=>by kernel_rfl
theorem avU (A:Alg) (oD:Ct A.ah wB) (Sr:Ct A.ah Rm): @Ru ⟨[42],[]⟩ X E A [(1,[od 0 [1],od 1 [6],od 3 [1],od 4 [9],od 5 [1],od 6 [11],od 8 [1],od 9 [14],od 11 [1],od 12 [17],(2,([7],[4,6,9,12])),(7,([12],[4,9,12])),(10,([15],[4,12])),od 13 [8,10,13,16,18],od 14 [],od 15 [3,19]]),(5,[od 0 [3],od 1 [27],od 2 [5],od 3 [29],od 4 [5],od 5 [31],od 6 [5],od 7 [33],od 9 [5],od 10 [36],od 12 [5],od 13 [39],(8,([34],[1,3,5,10,13])),(11,([37],[1,3,5,13])),(14,([40],[1,3,5])),od 15 [30,32,35,38,41],(16,([42],[1])),od 17 [28,43],od 18 [3],od 19 [44,45]])] (.v (.v (.seq (.v (.block (.loop ⟨[(2,.p 0 6),(3,.p 1 6),(21,.r false .ev),(22,.i),(23,.i)],[.g [.nil,.nil,.i,.nil,.nil,.i],.g [.own 2,.own 3,.i,.own 4,.own 5,.i],.rows true .ev,.rows true .poly,.rows true .mono,.rows true .mono]⟩ .u))) .u))) Rn Tryz.f124 [(116,⟨_,oD⟩),(162,⟨_,Sr⟩)] (aef A.al oD.pre oD.fn Sr.pre Sr.fn):=fun _=>by kernel_rfl
theorem avV (A:Alg) (iN:Ct A.ah lZ): @Ru ay.z X E A [] .u Ro Tryz.f126 [(112,⟨_,iN⟩)] (aeg A.al iN.pre iN.fn):=fun _=>by kernel_rfl
theorem avW (A:Alg) (zq:Ct A.ah EA) (fF:Ct A.ah iZ) (oC:Ct A.ah wz) (Sv:Ct A.ah Rn) (gJ:Ct A.ah kg) (Sw:Ct A.ah Ro): @Ru ay.z X E A [] (.v (.v (.v (.v (.v (.v (.seq (.block (.v (.cut ⟨[(4,.p 0 6),(5,.p 1 6)],[.g [.nil,.nil,.i,.nil,.nil,.i],.g [.own 2,.own 3,.i,.own 4,.own 5,.i],.rows true .ev,.rows true .poly,.rows true .mono,.rows true .mono]⟩ (.cond .u (.v (.cut ⟨[(4,.p 0 6),(5,.p 1 6)],[.g [.nil,.nil,.i,.nil,.nil,.i],.g [.own 2,.own 3,.i,.own 4,.own 5,.i],.rows true .ev,.rows true .poly,.rows true .mono,.rows true .mono]⟩ (.cond .u (.v (.cut ⟨[(4,.p 0 6),(5,.p 1 6)],[.g [.nil,.nil,.i,.nil,.nil,.i],.g [.own 2,.own 3,.i,.own 4,.own 5,.i],.rows true .ev,.rows true .poly,.rows true .mono,.rows true .mono]⟩ (.cond (.v (.v (.v (.cut ⟨[(4,.p 0 6),(5,.p 1 6)],[.g [.nil,.nil,.i,.nil,.nil,.i],.g [.own 2,.own 3,.i,.nil,.nil,.i],.rows true .ev,.rows true .poly]⟩ (.cond .u .u))))) (.v (.cut ⟨[(4,.p 0 6),(5,.p 1 6)],[.g [.nil,.nil,.i,.nil,.nil,.i],.g [.own 2,.own 3,.i,.own 4,.own 5,.i],.rows true .ev,.rows true .poly,.rows true .mono,.rows true .mono]⟩ (.cond .u .u))))))))))))) .u))))))) Rp Tryz.f82 [(125,⟨_,zq⟩),(123,⟨_,fF⟩),(120,⟨_,oC⟩),(124,⟨_,Sv⟩),(85,⟨_,gJ⟩),(126,⟨_,Sw⟩)] (aeh A.al zq.pre zq.fn fF.pre fF.fn oC.pre oC.fn Sv.pre Sv.fn gJ.pre gJ.fn Sw.pre Sw.fn):=fun _=>by kernel_rfl
theorem avX (A:Alg) (y8:Ct A.ah Ej) (zu:Ct A.ah El) (Sy:Ct A.ah Q9) (yY:Ct A.ah Ee) (oG:Ct A.ah wC) (Sz:Ct A.ah Rp) (SA:Ct A.ah Q8) (zl:Ct A.ah Ez) (SB:Ct A.ah Rl) (zi:Ct A.ah Eu) (zm:Ct A.ah Ew) (SE:Ct A.ah Ra): @Ru ay.z X E A [(4,[od 0 [6],od 2 [3],od 3 [47],od 4 [3],od 5 [49],(1,([45],[3,5])),od 6 [46,48,50],od 7 [],od 8 [7,51]]),(27,[od 0 [6],od 1 [134],od 2 [135],od 3 [136],od 4 [12],od 5 [138],od 6 [17],od 7 [18],od 8 [137,139,140,141],od 9 [142],od 10 [133],od 11 [133],od 12 [133],od 13 [],od 14 [],od 15 [20,143],od 16 [21,144],od 17 [145]]),(30,[od 0 [6],od 1 [8],od 2 [11],od 3 [20],od 4 [21],od 5 [150],od 6 [155],(7,([153,156],[4])),od 8 [151,152],od 9 [154,157]]),(47,[od 0 [6],od 1 [213],od 2 [214],od 3 [215],od 5 [7],od 6 [3],od 7 [219],od 8 [3],od 9 [221],od 10 [220,222],(4,([216],[5,7,9])),od 11 [218,223],od 12 [4,217],od 13 [5,224]])] (.v (.v (.v (.v (.v (.v (.seq (.v (.block (.loop ⟨[(3,.p 0 7),(4,.p 1 1),(5,.p 2 6),(6,.p 3 2),(7,.p 4 6),(8,.o 5),(9,.i),(10,.i),(57,.r false .iop),(58,.i),(59,.i)],[.s false .blk,.g [.nil],.g [.nil,.nil,.i,.nil,.nil,.i],.g [.rows true .atom,.bool],.g [.own 6,.own 7,.i,.nil,.nil,.i],.rows true .poly,.rows true .ev,.rows true .poly]⟩ (.v (.v (.seq (.block (.v (.v (.v (.seq (.v (.cut ⟨[(3,.p 0 7),(4,.p 1 1),(5,.p 2 6),(6,.p 3 2),(7,.p 4 6),(8,.o 5),(9,.i),(10,.i),(11,.i),(12,.p 6 5),(14,.b),(17,.p 7 1),(18,.p 8 1),(57,.r false .iop),(58,.i),(59,.i)],[.s false .blk,.g [.nil],.g [.nil,.nil,.i,.nil,.nil,.i],.g [.rows true .atom,.bool],.g [.own 9,.own 10,.i,.nil,.nil,.i],.rows true .poly,.s false .iop,.s true .poly,.g [.nil],.rows true .ev,.rows true .poly]⟩ (.cond .u .u))) (.seq (.v (.cut ⟨[(3,.p 0 7),(4,.p 1 1),(5,.p 2 6),(6,.p 3 2),(7,.p 4 6),(8,.o 5),(9,.i),(10,.i),(11,.i),(12,.p 6 5),(17,.p 7 1),(18,.p 8 1),(57,.r false .iop),(58,.i),(59,.i)],[.s false .blk,.g [.nil],.g [.nil,.nil,.i,.nil,.nil,.i],.g [.rows true .atom,.bool],.g [.own 9,.own 10,.i,.nil,.nil,.i],.rows true .poly,.s false .iop,.s true .poly,.s true .poly,.rows true .ev,.rows true .poly]⟩ (.cond .u .u))) (.seq (.v (.cut ⟨[(3,.p 0 7),(4,.p 1 1),(5,.p 2 6),(6,.p 3 2),(7,.p 4 6),(8,.o 5),(9,.i),(10,.i),(11,.i),(12,.p 6 5),(17,.p 7 1),(18,.p 8 1),(57,.r false .iop),(58,.i),(59,.i)],[.s false .blk,.g [.nil],.g [.nil,.nil,.i,.nil,.nil,.i],.g [.rows true .atom,.bool],.g [.own 9,.own 10,.i,.nil,.nil,.i],.rows true .poly,.s false .iop,.s true .poly,.s true .poly,.rows true .ev,.rows true .poly]⟩ (.cond (.v (.seq (.v (.cut ⟨[(3,.p 0 7),(4,.p 1 1),(5,.p 2 6),(6,.p 3 2),(7,.p 4 6),(8,.o 5),(9,.i),(10,.i),(11,.i),(12,.p 6 5),(17,.p 7 1),(18,.p 8 1),(19,.p 9 5),(57,.r false .iop),(58,.i),(59,.i)],[.s false .blk,.g [.nil],.g [.nil,.nil,.i,.nil,.nil,.i],.g [.rows true .atom,.bool],.g [.own 10,.own 11,.i,.nil,.nil,.i],.rows true .poly,.s false .iop,.s true .poly,.s true .poly,.g [.i,.i,.rows true .mono,.rows true .mono,.own 12],.rows true .ev,.rows true .poly,.rows true .poly]⟩ (.cond .u .u))) .u)) .u))) (.v (.block (.v (.cut ⟨[(3,.p 0 7),(4,.p 1 1),(5,.p 2 6),(6,.p 3 2),(7,.p 4 6),(8,.o 5),(9,.i),(10,.i),(57,.r false .iop),(58,.i),(59,.i)],[.s false .blk,.g [.nil],.g [.nil,.nil,.i,.nil,.nil,.i],.g [.rows true .atom,.bool],.g [.own 6,.own 7,.i,.nil,.nil,.i],.rows true .poly,.rows true .ev,.rows true .poly]⟩ (.cond .u (.v (.cut ⟨[(3,.p 0 7),(4,.p 1 1),(5,.p 2 6),(6,.p 3 2),(7,.p 4 6),(8,.o 5),(9,.i),(10,.i),(57,.r false .iop),(58,.i),(59,.i)],[.s false .blk,.g [.nil],.g [.nil,.nil,.i,.nil,.nil,.i],.g [.rows true .atom,.bool],.g [.own 6,.own 7,.i,.nil,.nil,.i],.rows true .poly,.rows true .ev,.rows true .poly]⟩ (.cond .u (.v (.cut ⟨[(3,.p 0 7),(4,.p 1 1),(5,.p 2 6),(6,.p 3 2),(7,.p 4 6),(8,.o 5),(9,.i),(10,.i),(57,.r false .iop),(58,.i),(59,.i)],[.s false .blk,.g [.nil],.g [.nil,.nil,.i,.nil,.nil,.i],.g [.rows true .atom,.bool],.g [.own 6,.own 7,.i,.nil,.nil,.i],.rows true .poly,.rows true .ev,.rows true .poly]⟩ (.cond .u (.v (.cut ⟨[(3,.p 0 7),(4,.p 1 1),(5,.p 2 6),(6,.p 3 2),(7,.p 4 6),(8,.o 5),(9,.i),(10,.i),(57,.r false .iop),(58,.i),(59,.i)],[.s false .blk,.g [.nil],.g [.nil,.nil,.i,.nil,.nil,.i],.g [.rows true .atom,.bool],.g [.own 6,.own 7,.i,.nil,.nil,.i],.rows true .poly,.rows true .ev,.rows true .poly]⟩ (.cond .u (.v (.cut ⟨[(3,.p 0 7),(4,.p 1 1),(5,.p 2 6),(6,.p 3 2),(7,.p 4 6),(8,.o 5),(9,.i),(10,.i),(57,.r false .iop),(58,.i),(59,.i)],[.s false .blk,.g [.nil],.g [.nil,.nil,.i,.nil,.nil,.i],.g [.rows true .atom,.bool],.g [.own 6,.own 7,.i,.nil,.nil,.i],.rows true .poly,.rows true .ev,.rows true .poly]⟩ (.cond .u (.v (.cut ⟨[(3,.p 0 7),(4,.p 1 1),(5,.p 2 6),(6,.p 3 2),(7,.p 4 6),(8,.o 5),(9,.i),(10,.i),(57,.r false .iop),(58,.i),(59,.i)],[.s false .blk,.g [.nil],.g [.nil,.nil,.i,.nil,.nil,.i],.g [.rows true .atom,.bool],.g [.own 6,.own 7,.i,.nil,.nil,.i],.rows true .poly,.rows true .ev,.rows true .poly]⟩ (.cond .u .u))))))))))))))))))))))))))) .u)))))) (.v (.seq (.v (.cut ⟨[(3,.p 0 7),(4,.p 1 1),(5,.p 2 6),(6,.p 3 2),(7,.p 4 6),(8,.o 5),(24,.b)],[.s false .blk,.g [.nil],.g [.nil,.nil,.i,.nil,.nil,.i],.g [.rows true .atom,.bool],.g [.own 6,.own 7,.i,.rows true .mono,.nil,.i],.rows true .poly,.rows true .ev,.rows true .poly]⟩ (.cond .u .u))) (.seq (.v (.cut ⟨[(3,.p 0 7),(4,.p 1 1),(5,.p 2 6),(6,.p 3 2),(7,.p 4 6)],[.s false .blk,.g [.nil],.g [.nil,.nil,.i,.nil,.nil,.i],.g [.rows true .atom,.bool],.g [.own 5,.own 6,.i,.rows true .mono,.rows true .mono,.i],.rows true .ev,.rows true .poly]⟩ (.cond .u .u))) .u)))))))))) Rq Tryz.f31 [(81,⟨_,y8⟩),(28,⟨_,zu⟩),(76,⟨_,Sy⟩),(75,⟨_,yY⟩),(78,⟨_,oG⟩),(82,⟨_,Sz⟩),(74,⟨_,SA⟩),(73,⟨_,zl⟩),(79,⟨_,SB⟩),(80,⟨_,zi⟩),(72,⟨_,zm⟩),(77,⟨_,SE⟩)] (aei A.al y8.pre y8.fn zu.pre zu.fn Sy.pre Sy.fn yY.pre yY.fn oG.pre oG.fn Sz.pre Sz.fn SA.pre SA.fn zl.pre zl.fn SB.pre SB.fn zi.pre zi.fn zm.pre zm.fn SE.pre SE.fn):=fun _=>by kernel_rfl
end Go.TX.Seat
namespace Go.TX.Seat
open Go Go.AE Go.TX Go.TX.F Go.Proofs
set_option maxRecDepth 100000
theorem avY (A:Alg) (gJ:Ct A.ah kg): @Ru ay.z X E A [] .u Rs Tryz.f128 [(85,⟨_,gJ⟩)] (aej A.al gJ.pre gJ.fn):=fun _=>by kernel_rfl
theorem avZ (A:Alg) (SF:Ct A.ah Rs): @Ru ay.z X E A [] (.v (.v (.seq (.v (.block (.loop ⟨[(1,.r false .poly),(2,.c (.fn 128 [])),(15,.r false .poly),(16,.i),(17,.i)],[]⟩ .u))) .u))) Rt Tryz.f127 [(128,⟨_,SF⟩)] (aek A.al SF.pre SF.fn):=fun _=>by kernel_rfl
theorem av0 (A:Alg) (SG:Ct A.ah Rt): @Ru ay.z X E A [] .u EF Tryz.f86 [(127,⟨_,SG⟩)] (ael A.al SG.pre SG.fn):=fun _=>by kernel_rfl
theorem av1 (A:Alg) (gJ:Ct A.ah kg) (zw:Ct A.ah EF): @Ru ay.z X E A [] .u Rv Tryz.f84 [(85,⟨_,gJ⟩),(86,⟨_,zw⟩)] (aem A.al gJ.pre gJ.fn zw.pre zw.fn):=fun _=>by kernel_rfl
theorem av2 (A:Alg) (SH:Ct A.ah Rv): @Ru ay.z X E A [] (.v (.v (.seq (.v (.block (.loop ⟨[(1,.r false .ev),(2,.c (.fn 84 [])),(15,.r false .ev),(16,.i),(17,.i)],[]⟩ .u))) .u))) Rw Tryz.f83 [(84,⟨_,SH⟩)] (aep A.al SH.pre SH.fn):=fun _=>by kernel_rfl
theorem av3 (A:Alg) (gJ:Ct A.ah kg) (zw:Ct A.ah EF) (SK:Ct A.ah Rw): @Ru ay.z X E A [] .u Rx Tryz.f32 [(85,⟨_,gJ⟩),(86,⟨_,zw⟩),(83,⟨_,SK⟩)] (aer A.al gJ.pre gJ.fn zw.pre zw.fn SK.pre SK.fn):=fun _=>by kernel_rfl
theorem av4 (A:Alg) (zu:Ct A.ah El) (zy:Ct A.ah Em) (SL:Ct A.ah Q7) (SN:Ct A.ah Rq) (SQ:Ct A.ah Rx): @Ru ay.z X E A [] .u EG Tryz.f9 [(28,⟨_,zu⟩),(29,⟨_,zy⟩),(30,⟨_,SL⟩),(31,⟨_,SN⟩),(32,⟨_,SQ⟩)] (aes A.al zu.pre zu.fn zy.pre zy.fn SL.pre SL.fn SN.pre SN.fn SQ.pre SQ.fn):=fun _=>by kernel_rfl
theorem anG (A:Alg) (Ko:Ct A.ah Ib): @Ru ay.z X E A [(6,[od 0 [0],od 1 [3],od 2 [13,14],od 3 [15],od 4 [16],od 5 [0],od 6 [3],od 7 [18,19],od 8 [20],od 9 [21],od 10 [17,22],od 11 [23]])] (.v (.v (.seq (.v (.block (.loop ⟨[(0,.r false .cer),(3,.i)],[]⟩ .u))) .u))) II Tryz.f12 [(7,⟨_,Ko⟩)] (Wt A.al Ko.pre Ko.fn):=fun _=>by kernel_rfl
theorem azJ (A:Alg) (zB:Ct A.ah EG): @Ru ay.z X E A [] .u acw Tryz.f37 [(9,⟨_,zB⟩)] (alH A.al zB.pre zB.fn):=fun _=>by kernel_rfl
theorem azK (A:Alg) (zy:Ct A.ah Em): @Ru ay.z X E A [] .u acy Tryz.f46 [(29,⟨_,zy⟩)] (alI A.al zy.pre zy.fn):=fun _=>by kernel_rfl
theorem anH (A:Alg) (aeO:Ct A.ah acy): @Ru ay.z X E A [] (.v (.seq (.v (.block (.loop ⟨[(0,.r false .cer),(1,.c (.fn 46 [(0,7),(1,7)])),(7,.i),(8,.i)],[.s false .blk,.s false .blk]⟩ .u))) .u)) IJ Tryz.f88 [(46,⟨_,aeO⟩)] (Wu A.al aeO.pre aeO.fn):=fun _=>by kernel_rfl
theorem anI (A:Alg) (aeP:Ct A.ah acw): @Ru ay.z X E A [] (.v (.seq (.v (.block (.loop ⟨[(0,.r false .cer),(1,.c (.fn 37 [])),(7,.i),(8,.i)],[]⟩ .u))) .u)) IK Tryz.f88 [(37,⟨_,aeP⟩)] (Wv A.al aeP.pre aeP.fn):=fun _=>by kernel_rfl
theorem av5 (A:Alg) (Kq:Ct A.ah IJ): @Ru ay.z X E A [] .u Ry Tryz.f36 [(88,⟨_,Kq⟩)] (aew A.al Kq.pre Kq.fn):=fun _=>by kernel_rfl
theorem av6 (A:Alg) (Kr:Ct A.ah IK): @Ru ay.z X E A [] .u Rz Tryz.f36 [(88,⟨_,Kr⟩)] (aex A.al Kr.pre Kr.fn):=fun _=>by kernel_rfl
theorem azL (A:Alg) (SX:Ct A.ah Rz): @Ru ay.z X E A [] .u acz Tryz.f14 [(36,⟨_,SX⟩)] (alN A.al SX.pre SX.fn):=fun _=>by kernel_rfl
theorem anJ (A:Alg): @Ru ay.z X E A [] (.v (.seq (.v (.cut ⟨[(0,.r true .u8)],[]⟩ (.cond .u .u))) .u)) IL Tryz.f39 [] (Ww A.al):=fun _=>by kernel_rfl
theorem anK (A:Alg): @Ru ay.z X E A [(7,[od 0 [0],od 1 [47],od 2 [48],od 3 [49],od 4 [5],od 5 [0],od 6 [52],od 7 [53],od 8 [54],od 9 [55],od 10 [51,56],od 11 [50,57],od 12 [58],od 13 [59],od 14 [60],od 15 [0],od 16 [62],od 17 [63],od 18 [64],od 19 [5],od 20 [66],od 21 [67],od 22 [0],od 23 [69],od 24 [70],od 25 [71],od 26 [72],od 27 [68,73],od 28 [65,74],od 29 [75],od 30 [76],od 31 [77],od 32 [61,78],od 33 [5],od 34 [80],od 35 [79,81],od 36 [5],od 37 [0],od 38 [84],od 39 [85],od 40 [86],od 41 [87],od 42 [83,88],od 43 [89],od 44 [82,90],od 45 [91]])] .u dx Tryz.f89 [] (Wx A.al):=fun _=>by kernel_rfl
theorem anL (A:Alg): @Ru ay.z X E A [] .u jc Tryz.f98 [] (Wy A.al):=fun _=>by kernel_rfl
theorem anM (A:Alg) (aQ:Ct A.ah bQ): @Ru ay.z X E A [] (.v (.v (.seq (.v (.cut ⟨[(1,.r false .i64),(2,.p 0 5),(4,.p 1 5),(5,.p 2 5)],[.s false .iop,.g [.i,.i,.i,.i,.i],.s true .iop]⟩ (.cond .u .u))) (.seq (.v (.cut ⟨[(4,.p 0 5),(5,.p 1 5)],[.g [.i,.i,.i,.i,.i],.s true .iop]⟩ (.cond .u .u))) .u)))) wE Tryz.f134 [(47,⟨_,aQ⟩)] (Wz A.al aQ.pre aQ.fn):=fun _=>by kernel_rfl
theorem anN (A:Alg) (bK:Ct A.ah fE) (qJ:Ct A.ah wE) (fO:Ct A.ah jc): @Ru ay.z X E A [] (.v (.v (.v (.v (.v (.seq (.v (.block (.loop ⟨[(2,.p 0 7),(3,.p 1 7),(4,.o 2),(5,.o 3),(6,.i)],[.g [.i,.i,.nil,.i,.i,.i,.i],.g [.i,.i,.own 4,.i,.i,.i,.i],.rows true .i64,.rows true .i64,.rows true .iop]⟩ (.v (.seq (.block (.v (.v (.v (.seq (.v (.cut ⟨[(2,.p 0 7),(3,.p 1 7),(4,.o 2),(5,.o 3),(6,.i),(7,.p 4 5),(8,.i)],[.g [.i,.i,.nil,.i,.i,.i,.i],.g [.i,.i,.own 5,.i,.i,.i,.i],.rows true .i64,.rows true .i64,.s true .iop,.rows true .iop]⟩ (.cond .u .u))) (.seq (.v (.cut ⟨[(2,.p 0 7),(3,.p 1 7),(4,.o 2),(5,.o 3),(6,.i),(7,.p 4 5),(8,.i)],[.g [.i,.i,.nil,.i,.i,.i,.i],.g [.i,.i,.own 5,.i,.i,.i,.i],.rows true .i64,.rows true .i64,.s true .iop,.rows true .iop]⟩ (.cond .u .u))) (.seq (.v (.cut ⟨[(2,.p 0 7),(3,.p 1 7),(4,.o 2),(5,.o 3),(6,.i),(8,.i)],[.g [.i,.i,.nil,.i,.i,.i,.i],.g [.i,.i,.own 4,.i,.i,.i,.i],.rows true .i64,.rows true .i64,.rows true .iop]⟩ (.cond .u .u))) .u))))))) .u))))) (.seq (.v (.cut ⟨[(2,.p 0 7),(3,.p 1 7),(4,.o 2)],[.g [.i,.i,.nil,.i,.i,.i,.i],.g [.i,.i,.own 3,.i,.i,.i,.i],.rows true .i64,.rows true .iop]⟩ (.cond .u .u))) (.seq (.v (.cut ⟨[(2,.p 0 7),(3,.p 1 7)],[.g [.i,.i,.nil,.i,.i,.i,.i],.g [.i,.i,.own 2,.i,.i,.i,.i],.rows true .iop]⟩ (.cond .u .u))) .u)))))))) oq Tryz.f96 [(22,⟨_,bK⟩),(134,⟨_,qJ⟩),(98,⟨_,fO⟩)] (WA A.al bK.pre bK.fn qJ.pre qJ.fn fO.pre fO.fn):=fun _=>by kernel_rfl
theorem anO (A:Alg) (qJ:Ct A.ah wE): @Ru ay.z X E A [] (.v (.v (.v (.seq (.v (.block (.loop ⟨[(1,.r false .bool),(2,.p 0 7),(4,.p 1 7),(5,.o 2),(6,.o 3),(7,.i)],[.s false .blk,.g [.i,.i,.nil,.i,.i,.i,.i],.rows true .iop,.rows true .i64]⟩ (.v (.seq (.block (.v (.v (.cut ⟨[(1,.r false .bool),(2,.p 0 7),(4,.p 1 7),(5,.o 2),(6,.o 3),(7,.i)],[.s false .blk,.g [.i,.i,.nil,.i,.i,.i,.i],.rows true .iop,.rows true .i64]⟩ (.cond .u .u))))) .u))))) (.v (.v (.seq (.v (.cut ⟨[(2,.p 0 7),(4,.p 1 7),(6,.o 2),(8,.p 3 7)],[.s false .blk,.g [.i,.i,.nil,.i,.i,.i,.i],.rows true .i64,.g [.i,.i,.own 4,.i,.i,.i,.i],.rows true .iop]⟩ (.cond .u .u))) (.seq (.v (.cut ⟨[(4,.p 0 7),(8,.p 1 7)],[.g [.i,.i,.nil,.i,.i,.i,.i],.g [.i,.i,.own 2,.i,.i,.i,.i],.rows true .iop]⟩ (.cond .u .u))) .u)))))))) wF Tryz.f166 [(134,⟨_,qJ⟩)] (WG A.al qJ.pre qJ.fn):=fun _=>by kernel_rfl
theorem anP (A:Alg) (bK:Ct A.ah fE) (aQ:Ct A.ah bQ): @Ru ay.z X E A [] (.v (.v (.v (.seq (.v (.block (.loop ⟨[(1,.p 0 7),(3,.o 1),(4,.i)],[.s false .blk,.rows true .bool]⟩ .u))) (.seq (.v (.cut ⟨[(1,.p 0 7),(3,.o 1)],[.s false .blk,.rows true .bool]⟩ (.cond .u .u))) (.seq (.v (.cut ⟨[(1,.p 0 7),(3,.o 1)],[.s false .blk,.rows true .bool]⟩ (.cond .u .u))) (.seq (.v (.block (.loop ⟨[(1,.p 0 7),(3,.o 1),(5,.i)],[.s false .blk,.rows true .bool]⟩ (.v (.seq (.cut ⟨[(1,.p 0 7),(3,.o 1),(5,.i)],[.s false .blk,.rows true .bool]⟩ (.block (.v (.v (.seq (.v (.cut ⟨[(1,.p 0 7),(3,.o 1),(5,.i),(6,.p 2 5)],[.s false .blk,.rows true .bool,.s false .iop]⟩ (.cond .u .u))) (.v (.cut ⟨[(1,.p 0 7),(3,.o 1),(5,.i)],[.s false .blk,.rows true .bool]⟩ (.cond .u .u)))))))) .u))))) .u))))))) IQ Tryz.f167 [(22,⟨_,bK⟩),(47,⟨_,aQ⟩)] (WH A.al bK.pre bK.fn aQ.pre aQ.fn):=fun _=>by kernel_rfl
theorem anQ (A:Alg) (bK:Ct A.ah fE) (Kt:Ct A.ah IQ) (qK:Ct A.ah wF): @Ru ay.z X E A [(3,[od 0 [1],od 1 [1],(2,([8],[0])),od 3 [7,9],od 4 [2,10]])] .u IU Tryz.f131 [(22,⟨_,bK⟩),(167,⟨_,Kt⟩),(166,⟨_,qK⟩)] (WI A.al bK.pre bK.fn Kt.pre Kt.fn qK.pre qK.fn):=fun _=>by kernel_rfl
theorem anR (A:Alg): @Ru ay.z X E A [(4,[od 0 [0],od 1 [5],od 2 [14,15],od 3 [16],od 4 [17],od 5 [18],od 6 [19],od 7 [0,20],od 8 [5,20],od 9 [20,21,22],od 10 [20,23],od 11 [20,24],od 12 [20,25],od 13 [20,26],od 14 [27],od 15 [0,28],od 16 [5,28],od 17 [28,29,30],od 18 [28,31],od 19 [28,32],od 20 [28,33],od 21 [28,34],od 22 [0,35],od 23 [5,35],od 24 [35,36,37],od 25 [35,38],od 26 [35,39],od 27 [0,35],od 28 [1,35],od 29 [35,41,42],od 30 [35,43],od 31 [35,44],od 32 [35,40,45],od 33 [28,35,46],od 34 [28,47]]),(6,[od 0 [0],od 1 [5],od 2 [49,50],od 3 [51],od 4 [52],od 5 [53],od 6 [54],od 7 [0,55],od 8 [5,55],od 9 [55,56,57],od 10 [55,58],od 11 [55,59],od 12 [0,55],od 13 [1,55],od 14 [55,61,62],od 15 [55,63],od 16 [55,64],od 17 [55,60,65],od 18 [55,66]])] (.v (.seq (.v (.block (.loop ⟨[(0,.r false .iop),(1,.i),(5,.i)],[]⟩ .u))) .u)) IV Tryz.f168 [] (WL A.al):=fun _=>by kernel_rfl
theorem anS (A:Alg) (bK:Ct A.ah fE) (qK:Ct A.ah wF) (Ku:Ct A.ah IV): @Ru ay.z X E A [] (.v (.v (.v (.seq (.v (.block (.loop ⟨[(1,.p 0 7),(2,.p 1 7),(3,.o 2),(4,.i)],[.s false .blk,.g [.i,.i,.nil,.i,.i,.i,.i],.rows true .bool]⟩ .u))) .u)))) IW Tryz.f132 [(22,⟨_,bK⟩),(166,⟨_,qK⟩),(168,⟨_,Ku⟩)] (WM A.al bK.pre bK.fn qK.pre qK.fn Ku.pre Ku.fn):=fun _=>by kernel_rfl
theorem anT (A:Alg): @Ru ay.z X E A [] .u wG Tryz.f169 [] (WO A.al):=fun _=>by kernel_rfl
theorem anU (A:Alg): @Ru ay.z X E A [] .u IX Tryz.f197 [] (WQ A.al):=fun _=>by kernel_rfl
theorem anV (A:Alg) (Kv:Ct A.ah IX) (qL:Ct A.ah wG): @Ru ay.z X E A [] (.v (.v (.v (.seq (.block (.v (.cond .u (.seq (.v (.cut ⟨[(1,.p 0 7),(2,.p 1 7),(4,.b),(6,.b),(33,.b)],[.s false .blk,.g [.i,.i,.nil,.i,.i,.i,.i]]⟩ (.cond .u .u))) .u)))) .u)))) IY Tryz.f170 [(197,⟨_,Kv⟩),(169,⟨_,qL⟩)] (WR A.al Kv.pre Kv.fn qL.pre qL.fn):=fun _=>by kernel_rfl
theorem anW (A:Alg) (bK:Ct A.ah fE) (qD:Ct A.ah wm) (Kw:Ct A.ah IY) (qL:Ct A.ah wG) (fO:Ct A.ah jc): @Ru ay.z X E A [(11,[od 0 [3],od 1 [53],od 2 [4],od 3 [5],od 4 [56],od 5 [6],od 6 [8],(7,([57,58,59],[1])),od 8 [60],od 9 [54,55],od 10 [61,62]])] (.v (.v (.v (.seq (.v (.block (.loop ⟨[(2,.p 0 7),(3,.p 1 7),(4,.i)],[.g [.i,.i,.nil,.i,.i,.i,.i],.g [.i,.i,.own 2,.i,.i,.i,.i],.rows true .iop]⟩ (.v (.seq (.block (.v (.v (.v (.v (.cut ⟨[(2,.p 0 7),(3,.p 1 7),(4,.i)],[.g [.i,.i,.nil,.i,.i,.i,.i],.g [.i,.i,.own 2,.i,.i,.i,.i],.rows true .iop]⟩ (.cond .u .u))))))) .u))))) .u)))) IZ Tryz.f133 [(22,⟨_,bK⟩),(142,⟨_,qD⟩),(170,⟨_,Kw⟩),(169,⟨_,qL⟩),(98,⟨_,fO⟩)] (WU A.al bK.pre bK.fn qD.pre qD.fn Kw.pre Kw.fn qL.pre qL.fn fO.pre fO.fn):=fun _=>by kernel_rfl
theorem anX (A:Alg) (Ky:Ct A.ah IZ) (jS:Ct A.ah oq) (Kz:Ct A.ah IU) (KA:Ct A.ah IW): @Ru ay.z X E A [] .u ou Tryz.f91 [(133,⟨_,Ky⟩),(96,⟨_,jS⟩),(131,⟨_,Kz⟩),(132,⟨_,KA⟩)] (WW A.al Ky.pre Ky.fn jS.pre jS.fn Kz.pre Kz.fn KA.pre KA.fn):=fun _=>by kernel_rfl
theorem anY (A:Alg) (aY:Ct A.ah dx): @Ru ay.z X E A [] (.v (.v (.v (.seq (.v (.block (.seq (.v (.cut ⟨[(0,.p 0 2),(2,.p 1 4),(3,.i),(4,.i),(10,.i),(11,.b)],[.g [.rows true .u8,.i],.g [.i,.i,.i,.i]]⟩ (.cond .u .u))) (.cond .u (.v (.cond .u (.seq (.v (.cut ⟨[(0,.p 0 2),(2,.p 1 4),(3,.i),(4,.i),(10,.i),(30,.b)],[.g [.rows true .u8,.i],.g [.i,.i,.i,.i]]⟩ (.cond .u (.v (.cut ⟨[(0,.p 0 2),(2,.p 1 4),(3,.i),(4,.i),(10,.i),(30,.b)],[.g [.rows true .u8,.i],.g [.i,.i,.i,.i]]⟩ (.cond .u .u)))))) (.cond .u (.v (.cond .u (.seq (.v (.cut ⟨[(0,.p 0 2),(2,.p 1 4),(3,.i),(4,.i),(10,.i),(54,.b)],[.g [.rows true .u8,.i],.g [.i,.i,.i,.i]]⟩ (.cond .u .u))) .u))))))))))) .u)))) I4 Tryz.f186 [(89,⟨_,aY⟩)] (WX A.al aY.pre aY.fn):=fun _=>by kernel_rfl
theorem anZ (A:Alg): @Ru ay.z X E A [] (.v (.seq (.v (.block (.v (.cond .u (.v (.cond .u (.v (.cond .u (.seq (.v (.cut ⟨[(1,.p 0 4),(4,.i),(30,.b)],[.s false .ins]⟩ (.cond .u (.v (.cut ⟨[(1,.p 0 4),(4,.i),(30,.b)],[.s false .ins]⟩ (.cond .u (.v (.cut ⟨[(1,.p 0 4),(4,.i),(30,.b)],[.s false .ins]⟩ (.cond .u (.v (.cut ⟨[(1,.p 0 4),(4,.i),(30,.b)],[.s false .ins]⟩ (.cond .u .u)))))))))))) (.cond .u (.v (.cond .u (.v (.cond .u (.seq (.v (.cut ⟨[(1,.p 0 4),(54,.b)],[.s false .ins]⟩ (.cond .u .u))) .u))))))))))))))) .u)) I5 Tryz.f205 [] (WY A.al):=fun _=>by kernel_rfl
theorem an0 (A:Alg) (aQ:Ct A.ah bQ) (KC:Ct A.ah I5): @Ru ay.z X E A [] .u wH Tryz.f188 [(47,⟨_,aQ⟩),(205,⟨_,KC⟩)] (WZ A.al aQ.pre aQ.fn KC.pre KC.fn):=fun _=>by kernel_rfl
theorem an1 (A:Alg): @Ru ay.z X E A [] .u wI Tryz.f189 [] (W9 A.al):=fun _=>by kernel_rfl
theorem an2 (A:Alg) (qM:Ct A.ah wI) (qN:Ct A.ah wH): @Ru ay.z X E A [] .u wJ Tryz.f187 [(189,⟨_,qM⟩),(188,⟨_,qN⟩)] (Xa A.al qM.pre qM.fn qN.pre qN.fn):=fun _=>by kernel_rfl
theorem an3 (A:Alg) (KD:Ct A.ah I4) (aY:Ct A.ah dx) (qO:Ct A.ah wJ): @Ru ay.z X E A [(3,[od 0 [3],od 1 [9],od 2 [3],od 3 [11],od 4 [0],(5,([13],[1,3])),od 6 [10,12,14],od 7 [2,15]])] .u I6 Tryz.f163 [(186,⟨_,KD⟩),(89,⟨_,aY⟩),(187,⟨_,qO⟩)] (Xf A.al KD.pre KD.fn aY.pre aY.fn qO.pre qO.fn):=fun _=>by kernel_rfl
theorem an4 (A:Alg) (KE:Ct A.ah I6) (aY:Ct A.ah dx): @Ru ay.z X E A [] (.v (.v (.seq (.v (.block (.loop ⟨[(0,.p 0 2),(3,.o 1),(4,.i)],[.g [.rows true .u8,.i],.rows true .ins]⟩ .u))) .u))) I7 Tryz.f129 [(163,⟨_,KE⟩),(89,⟨_,aY⟩)] (Xi A.al KE.pre KE.fn aY.pre aY.fn):=fun _=>by kernel_rfl
theorem an5 (A:Alg) (qM:Ct A.ah wI) (qN:Ct A.ah wH) (aQ:Ct A.ah bQ) (qO:Ct A.ah wJ): @Ru ay.z X E A [] (.v (.v (.seq (.v (.block (.loop ⟨[(1,.r false .ins),(5,.i)],[]⟩ .u))) .u))) I8 Tryz.f164 [(189,⟨_,qM⟩),(188,⟨_,qN⟩),(47,⟨_,aQ⟩),(187,⟨_,qO⟩)] (Xj A.al qM.pre qM.fn qN.pre qN.fn aQ.pre aQ.fn qO.pre qO.fn):=fun _=>by kernel_rfl
theorem an6 (A:Alg): @Ru ay.z X E A [(2,[od 0 [2],od 1 [2],od 2 [13],od 3 [14],od 4 [15],(5,([4,12],[2])),od 6 [16]])] .u jd Tryz.f190 [] (Xk A.al):=fun _=>by kernel_rfl
theorem an7 (A:Alg) (fP:Ct A.ah jd): @Ru ay.z X E A [] .u wK Tryz.f191 [(190,⟨_,fP⟩)] (Xl A.al fP.pre fP.fn):=fun _=>by kernel_rfl
theorem an8 (A:Alg) (fP:Ct A.ah jd): @Ru ay.z X E A [] .u kQ Tryz.f192 [(190,⟨_,fP⟩)] (Xm A.al fP.pre fP.fn):=fun _=>by kernel_rfl
theorem an9 (A:Alg) (iB:Ct A.ah kQ) (fP:Ct A.ah jd): @Ru ay.z X E A [] .u wL Tryz.f193 [(192,⟨_,iB⟩),(190,⟨_,fP⟩)] (Xo A.al iB.pre iB.fn fP.pre fP.fn):=fun _=>by kernel_rfl
theorem aoa (A:Alg): @Ru ay.z X E A [] (.v (.v (.seq (.v (.block (.loop ⟨[(0,.i),(3,.i),(4,.i)],[]⟩ .u))) .u))) I9 Tryz.f194 [] (Xp A.al):=fun _=>by kernel_rfl
theorem aob (A:Alg) (iB:Ct A.ah kQ) (fP:Ct A.ah jd) (qP:Ct A.ah wL) (qQ:Ct A.ah wK): @Ru ay.z X E A [] .u Ja Tryz.f195 [(192,⟨_,iB⟩),(190,⟨_,fP⟩),(193,⟨_,qP⟩),(191,⟨_,qQ⟩)] (Xq A.al iB.pre iB.fn fP.pre fP.fn qP.pre qP.fn qQ.pre qQ.fn):=fun _=>by kernel_rfl
theorem aoc (A:Alg) (iB:Ct A.ah kQ): @Ru ay.z X E A [] (.v (.v (.v (.v (.v (.seq (.v (.cut ⟨[(3,.p 1 4),(4,.p 2 7),(8,.i),(9,.p 3 7),(10,.i)],[.gone,.s false .ins,.g [.i,.i,.nil,.i,.i,.i,.i],.g [.i,.i,.own 4,.i,.i,.i,.i],.rows true .iop]⟩ (.cond .u .u))) .u)))))) Jb Tryz.f196 [(192,⟨_,iB⟩)] (Xr A.al iB.pre iB.fn):=fun _=>by kernel_rfl
end Go.TX.Seat
namespace Go.TX.Seat
open Go Go.AE Go.TX Go.TX.F Go.Proofs
set_option maxRecDepth 100000
theorem aod (A:Alg) (iB:Ct A.ah kQ) (KF:Ct A.ah Jb) (fP:Ct A.ah jd) (KG:Ct A.ah Ja) (qP:Ct A.ah wL) (qQ:Ct A.ah wK) (KH:Ct A.ah I9): @Ru ay.z X E A [(9,[od 0 [3],od 1 [4],od 2 [56],od 3 [4],od 4 [58],(5,([59],[0,2])),od 6 [60],od 7 [55,57,61],od 8 [62],od 9 [54],od 10 [54],od 11 [],od 12 [11,63],od 13 [64]])] (.v (.seq (.v (.block (.v (.cond .u (.v (.cond .u (.v (.cond .u (.seq (.v (.cut ⟨[(2,.i),(3,.p 1 7),(4,.p 2 4),(6,.p 3 7),(22,.i),(70,.b)],[.rows true .iop,.g [.i,.i,.own 0,.i,.i,.i,.i],.s false .ins,.g [.i,.i,.nil,.i,.i,.i,.i]]⟩ (.cond .u .u))) (.cond .u (.v (.cond .u (.v (.cond .u (.seq (.v (.cut ⟨[(3,.p 1 7),(4,.p 2 4),(6,.p 3 7),(109,.b)],[.rows true .iop,.g [.i,.i,.own 0,.i,.i,.i,.i],.s false .ins,.g [.i,.i,.nil,.i,.i,.i,.i]]⟩ (.cond .u (.v (.cut ⟨[(3,.p 1 7),(4,.p 2 4),(6,.p 3 7),(109,.b)],[.rows true .iop,.g [.i,.i,.own 0,.i,.i,.i,.i],.s false .ins,.g [.i,.i,.nil,.i,.i,.i,.i]]⟩ (.cond .u .u)))))) .u))))))))))))))) .u)) Jc Tryz.f165 [(192,⟨_,iB⟩),(196,⟨_,KF⟩),(190,⟨_,fP⟩),(195,⟨_,KG⟩),(193,⟨_,qP⟩),(191,⟨_,qQ⟩),(194,⟨_,KH⟩)] (Xt A.al iB.pre iB.fn KF.pre KF.fn fP.pre fP.fn KG.pre KG.fn qP.pre qP.fn qQ.pre qQ.fn KH.pre KH.fn):=fun _=>by kernel_rfl
theorem aoe (A:Alg) (KJ:Ct A.ah I8) (KL:Ct A.ah Jc): @Ru ay.z X E A [(7,[od 0 [5],od 1 [1],od 2 [6],od 3 [27,28],od 4 [29],od 5 [6],od 6 [26,30,31],od 7 [5,32]])] (.v (.v (.v (.seq (.v (.block (.loop ⟨[(1,.r false .ins),(4,.p 0 7),(5,.p 1 7),(6,.i)],[.g [.i,.i,.nil,.i,.i,.i,.i],.g [.i,.i,.own 2,.i,.i,.i,.i],.rows true .iop]⟩ .u))) .u)))) Jd Tryz.f130 [(164,⟨_,KJ⟩),(165,⟨_,KL⟩)] (Xu A.al KJ.pre KJ.fn KL.pre KL.fn):=fun _=>by kernel_rfl
theorem aof (A:Alg) (KM:Ct A.ah Jd) (jT:Ct A.ah ou) (jS:Ct A.ah oq) (aY:Ct A.ah dx) (KN:Ct A.ah I7): @Ru ay.z X E A [] .u wM Tryz.f90 [(130,⟨_,KM⟩),(91,⟨_,jT⟩),(96,⟨_,jS⟩),(89,⟨_,aY⟩),(129,⟨_,KN⟩)] (Xv A.al KM.pre KM.fn jT.pre jT.fn jS.pre jS.fn aY.pre aY.fn KN.pre KN.fn):=fun _=>by kernel_rfl
theorem aog (A:Alg) (aY:Ct A.ah dx): @Ru ay.z X E A [] .u wN Tryz.f92 [(89,⟨_,aY⟩)] (Xw A.al aY.pre aY.fn):=fun _=>by kernel_rfl
theorem aoh (A:Alg) (aY:Ct A.ah dx) (fO:Ct A.ah jc): @Ru ay.z X E A [(9,[od 0 [5],od 1 [33],od 2 [6],od 3 [5],od 4 [36],od 5 [6],od 6 [37,38],od 7 [39],od 8 [40],od 9 [41],od 10 [34,35],od 11 [43],od 12 [42,44]]),(11,[od 0 [5],od 1 [47],od 2 [6],od 3 [0],od 4 [6],od 5 [51],(6,([50,52],[1])),od 7 [48,49],od 8 [54],od 9 [53,55]]),(13,[od 0 [5],od 1 [58],od 2 [6],od 3 [0],od 4 [6],od 5 [62],(6,([61,63],[1])),od 7 [59,60],od 8 [65],od 9 [64,66]]),(15,[od 0 [5],od 1 [69],od 2 [6],od 3 [0],od 4 [5],od 5 [73],od 6 [74],(7,([72,75],[1])),od 8 [70,71],od 9 [77],od 10 [76,78]]),(23,[od 0 [5],od 1 [99],od 2 [6],od 3 [5],od 4 [102],od 5 [6],od 6 [104],od 7 [103,105],od 8 [106],od 9 [100,101],od 10 [107,108]]),(26,[od 0 [5],od 1 [117],od 2 [6],od 3 [0],(4,([120],[1])),od 5 [121],od 6 [118,119],od 7 [122,123]])] (.v (.v (.v (.v (.seq (.v (.block (.v (.cut ⟨[(4,.p 1 7),(5,.p 2 7)],[.g [.rows true .u8,.i],.g [.i,.i,.nil,.i,.i,.i,.i],.g [.i,.i,.own 3,.i,.i,.i,.i],.rows true .iop]⟩ (.cond .u (.v (.cut ⟨[(4,.p 1 7),(5,.p 2 7)],[.g [.rows true .u8,.i],.g [.i,.i,.nil,.i,.i,.i,.i],.g [.i,.i,.own 3,.i,.i,.i,.i],.rows true .iop]⟩ (.cond .u (.v (.cut ⟨[(4,.p 1 7),(5,.p 2 7)],[.g [.rows true .u8,.i],.g [.i,.i,.nil,.i,.i,.i,.i],.g [.i,.i,.own 3,.i,.i,.i,.i],.rows true .iop]⟩ (.cond .u (.v (.cut ⟨[(4,.p 1 7),(5,.p 2 7)],[.g [.rows true .u8,.i],.g [.i,.i,.nil,.i,.i,.i,.i],.g [.i,.i,.own 3,.i,.i,.i,.i],.rows true .iop]⟩ (.cond .u (.v (.cut ⟨[(4,.p 1 7),(5,.p 2 7)],[.g [.rows true .u8,.i],.g [.i,.i,.nil,.i,.i,.i,.i],.g [.i,.i,.own 3,.i,.i,.i,.i],.rows true .iop]⟩ (.cond .u (.v (.cut ⟨[(4,.p 1 7),(5,.p 2 7)],[.g [.rows true .u8,.i],.g [.i,.i,.nil,.i,.i,.i,.i],.g [.i,.i,.own 3,.i,.i,.i,.i],.rows true .iop]⟩ (.cond .u (.v (.cut ⟨[(4,.p 1 7),(5,.p 2 7)],[.g [.rows true .u8,.i],.g [.i,.i,.nil,.i,.i,.i,.i],.g [.i,.i,.own 3,.i,.i,.i,.i],.rows true .iop]⟩ (.cond (.v (.cut ⟨[(4,.p 1 7),(5,.p 2 7)],[.g [.rows true .u8,.i],.g [.i,.i,.nil,.i,.i,.i,.i],.g [.i,.i,.own 3,.i,.i,.i,.i],.rows true .iop]⟩ (.cond .u .u))) (.v (.cut ⟨[(4,.p 1 7),(5,.p 2 7)],[.g [.rows true .u8,.i],.g [.i,.i,.nil,.i,.i,.i,.i],.g [.i,.i,.own 3,.i,.i,.i,.i],.rows true .iop]⟩ (.cond .u .u)))))))))))))))))))))))))) .u))))) ow Tryz.f93 [(89,⟨_,aY⟩),(98,⟨_,fO⟩)] (N7 A.al aY.pre aY.fn fO.pre fO.fn):=fun _=>by kernel_rfl
theorem aoi (A:Alg) (jT:Ct A.ah ou) (qR:Ct A.ah wN) (aY:Ct A.ah dx) (jU:Ct A.ah ow) (qU:Ct A.ah wM): @Ru ⟨[22,35],[]⟩ X E A [(6,[od 0 [5],od 1 [7],od 2 [7],(3,([20],[1])),od 4 [19,21],od 5 [22],od 6 [18,23],od 7 [24]]),(9,[od 0 [5],od 1 [8],od 2 [0],od 3 [8],(4,([32,33],[1])),od 5 [31,34],od 6 [35],od 7 [30,36],od 8 [37]])] (.v (.v (.seq (.v (.block (.loop ⟨[(0,.p 0 2),(1,.i),(5,.o 1),(6,.i)],[.g [.rows true .u8,.i],.rows true .cer]⟩ .u))) (.seq (.v (.cut ⟨[(5,.o 1)],[.g [.rows true .u8,.i],.rows true .cer]⟩ (.cond .u .u))) .u)))) Je Tryz.f40 [(91,⟨_,jT⟩),(92,⟨_,qR⟩),(89,⟨_,aY⟩),(93,⟨_,jU⟩),(90,⟨_,qU⟩)] (Xx A.al jT.pre jT.fn qR.pre qR.fn aY.pre aY.fn jU.pre jU.fn qU.pre qU.fn):=fun _=>by kernel_rfl
theorem aoj (A:Alg) (qR:Ct A.ah wN) (aY:Ct A.ah dx) (jU:Ct A.ah ow) (qU:Ct A.ah wM): @Ru ay.z X E A [(15,[od 0 [5],od 1 [54],od 2 [],od 3 [0],od 7 [5],od 8 [61],od 9 [62],(4,([57],[1,8])),od 5 [56,58],od 6 [59],od 10 [60,63],od 11 [64],od 12 [55,65],od 13 [5],od 14 [66,67]])] (.v (.v (.seq (.v (.cut ⟨[(4,.p 1 7),(5,.p 2 7)],[.g [.rows true .u8,.i],.g [.i,.i,.nil,.i,.i,.i,.i],.g [.i,.i,.own 3,.i,.i,.i,.i],.rows true .iop]⟩ (.cond (.v (.block (.v (.cut ⟨[(4,.p 1 7),(5,.p 2 7)],[.g [.rows true .u8,.i],.g [.i,.i,.nil,.i,.i,.i,.i],.g [.i,.i,.own 3,.i,.i,.i,.i],.rows true .iop]⟩ (.cond .u (.v (.cut ⟨[(4,.p 1 7),(5,.p 2 7)],[.g [.rows true .u8,.i],.g [.i,.i,.nil,.i,.i,.i,.i],.g [.i,.i,.own 3,.i,.i,.i,.i],.rows true .iop]⟩ (.cond .u (.v (.cut ⟨[(4,.p 1 7),(5,.p 2 7)],[.g [.rows true .u8,.i],.g [.i,.i,.nil,.i,.i,.i,.i],.g [.i,.i,.own 3,.i,.i,.i,.i],.rows true .iop]⟩ (.cond (.block (.loop ⟨[(4,.p 1 7),(5,.p 2 7)],[.g [.rows true .u8,.i],.g [.i,.i,.nil,.i,.i,.i,.i],.g [.i,.i,.own 3,.i,.i,.i,.i],.rows true .iop]⟩ .u)) (.v (.cut ⟨[(4,.p 1 7),(5,.p 2 7)],[.g [.rows true .u8,.i],.g [.i,.i,.nil,.i,.i,.i,.i],.g [.i,.i,.own 3,.i,.i,.i,.i],.rows true .iop]⟩ (.cond .u .u)))))))))))))) .u))) .u))) Jf Tryz.f94 [(92,⟨_,qR⟩),(89,⟨_,aY⟩),(93,⟨_,jU⟩),(90,⟨_,qU⟩)] (XA A.al qR.pre qR.fn aY.pre aY.fn jU.pre jU.fn qU.pre qU.fn):=fun _=>by kernel_rfl
theorem aol (A:Alg) (aY:Ct A.ah dx) (fO:Ct A.ah jc): @Ru ay.z X E A [] (.v (.v (.seq (.v (.block (.loop ⟨[(0,.p 0 2),(4,.p 1 7),(5,.p 2 7),(6,.i)],[.g [.rows true .u8,.i],.g [.i,.i,.nil,.i,.i,.i,.i],.g [.i,.i,.own 3,.i,.i,.i,.i],.rows true .iop]⟩ (.v (.seq (.block (.v (.seq (.seq (.cut ⟨[(0,.p 0 2),(4,.p 1 7),(5,.p 2 7),(6,.i),(7,.p 3 5),(34,.b)],[.g [.rows true .u8,.i],.g [.i,.i,.nil,.i,.i,.i,.i],.g [.i,.i,.own 4,.i,.i,.i,.i],.s true .iop,.rows true .iop]⟩ .u) (.cut ⟨[(0,.p 0 2),(4,.p 1 7),(5,.p 2 7),(6,.i),(7,.p 3 5)],[.g [.rows true .u8,.i],.g [.i,.i,.nil,.i,.i,.i,.i],.g [.i,.i,.own 4,.i,.i,.i,.i],.s true .iop,.rows true .iop]⟩ (.cond .u .u))) (.seq (.v (.cut ⟨[(0,.p 0 2),(4,.p 1 7),(5,.p 2 7),(6,.i),(7,.p 3 5)],[.g [.rows true .u8,.i],.g [.i,.i,.nil,.i,.i,.i,.i],.g [.i,.i,.own 4,.i,.i,.i,.i],.s true .iop,.rows true .iop]⟩ (.cond .u .u))) (.v (.cut ⟨[(0,.p 0 2),(4,.p 1 7),(5,.p 2 7),(6,.i)],[.g [.rows true .u8,.i],.g [.i,.i,.nil,.i,.i,.i,.i],.g [.i,.i,.own 3,.i,.i,.i,.i],.rows true .iop]⟩ (.cond .u .u))))))) .u))))) .u))) Jg Tryz.f95 [(89,⟨_,aY⟩),(98,⟨_,fO⟩)] (XB A.al aY.pre aY.fn fO.pre fO.fn):=fun _=>by kernel_rfl
theorem aom (A:Alg) (bK:Ct A.ah fE) (jT:Ct A.ah ou) (jS:Ct A.ah oq) (aY:Ct A.ah dx) (jU:Ct A.ah ow) (KO:Ct A.ah Jf) (KQ:Ct A.ah Jg): @Ru ay.z X E A [(3,[od 0 [6],od 1 [6],(2,([4,13],[1])),od 3 [5,14]]),(6,[od 0 [6],od 1 [0],od 2 [6],(3,([20,21],[0])),od 4 [4,19],od 5 [5,22]]),(8,[od 0 [6],od 1 [6],(2,([26],[0])),od 3 [4,25],od 4 [5,27]]),(10,[od 0 [6],od 1 [0],od 2 [6],(3,([31,32],[0])),(4,([33],[0])),od 5 [4,30],od 6 [5,34]]),(12,[od 0 [6],od 1 [0],od 2 [6],(3,([38,39],[0])),od 4 [4,37],od 5 [5,40]]),(14,[od 0 [6],od 1 [0],od 2 [6],(3,([45],[0])),(4,([44,46],[0])),od 5 [4,43],od 6 [5,47]]),(16,[od 0 [6],od 2 [6],(1,([50],[2])),(3,([4,51],[2])),od 4 [5,52]]),(18,[od 0 [6],od 1 [0],od 2 [1],(3,([56,57],[0])),od 4 [4,55],od 5 [5,58]]),(20,[od 0 [6],od 1 [6],(2,([62],[0])),od 3 [4,61],od 4 [5,63]]),(21,[od 0 [6],od 1 [6],(2,([4,64],[1])),od 3 [5,65]])] .u Jh Tryz.f41 [(22,⟨_,bK⟩),(91,⟨_,jT⟩),(96,⟨_,jS⟩),(89,⟨_,aY⟩),(93,⟨_,jU⟩),(94,⟨_,KO⟩),(95,⟨_,KQ⟩)] (XC A.al bK.pre bK.fn jT.pre jT.fn jS.pre jS.fn aY.pre aY.fn jU.pre jU.fn KO.pre KO.fn KQ.pre KQ.fn):=fun _=>by kernel_rfl
theorem aon (A:Alg) (KR:Ct A.ah IL) (KS:Ct A.ah Jh) (KT:Ct A.ah Je): @Ru ay.z X E A [(4,[od 0 [5],od 1 [6],od 2 [7],od 3 [18,19],od 4 [17],od 5 [3,20]])] .u Ji Tryz.f16 [(39,⟨_,KR⟩),(41,⟨_,KS⟩),(40,⟨_,KT⟩)] (XD A.al KR.pre KR.fn KS.pre KS.fn KT.pre KT.fn):=fun _=>by kernel_rfl
theorem av7 (A:Alg): @Ru ay.z X E A [] .u RA Tryz.f135 [] (aeG A.al):=fun _=>by kernel_rfl
theorem azM (A:Alg) (SY:Ct A.ah RA): @Ru ay.z X E A [(1,[od 0 [1],od 1 [3],od 3 [1],od 4 [6],(2,([4],[4])),od 5 [7],od 6 [5,8],od 7 [2,9]])] .u acA Tryz.f97 [(135,⟨_,SY⟩)] (amm A.al SY.pre SY.fn):=fun _=>by kernel_rfl
theorem av8 (A:Alg) (aeQ:Ct A.ah acA): @Ru ay.z X E A [] (.v (.v (.seq (.v (.block (.loop ⟨[(3,.o 0),(6,.r false .cer),(7,.i),(8,.i)],[.rows true .cer]⟩ .u))) .u))) RD Tryz.f42 [(97,⟨_,aeQ⟩)] (aeH A.al aeQ.pre aeQ.fn):=fun _=>by kernel_rfl
theorem av9 (A:Alg): @Ru ay.z X E A [] .u RF Tryz.f43 [] (aeI A.al):=fun _=>by kernel_rfl
theorem azN (A:Alg) (S9:Ct A.ah RD) (Ta:Ct A.ah RF): @Ru ay.z X E A [(1,[od 0 [0],od 2 [3],od 3 [7],(1,([5],[2])),od 4 [6,8],od 5 [9],od 6 [10],od 7 [11]])] .u acB Tryz.f17 [(42,⟨_,S9⟩),(43,⟨_,Ta⟩)] (amn A.al S9.pre S9.fn Ta.pre Ta.fn):=fun _=>by kernel_rfl
theorem awc (A:Alg): @Ru ay.z X E A [(6,[od 0 [2],od 1 [62],od 2 [5],od 3 [63,64],od 4 [65],od 5 [3],od 6 [67],od 7 [5],od 8 [68,69],od 9 [70],od 10 [66,71]])] (.v (.v (.seq (.v (.block (.loop ⟨[(2,.p 0 7),(3,.p 1 7),(5,.i)],[.s false .blk,.s false .blk]⟩ .u))) .u))) RG Tryz.f44 [] (aeJ A.al):=fun _=>by kernel_rfl
theorem awd (A:Alg) (Tc:Ct A.ah RG): @Ru ay.z X E A [(6,[od 0 [0],od 1 [5],od 2 [17,18],od 3 [19],od 4 [20],od 5 [1],od 6 [5],od 7 [22,23],od 8 [24],od 9 [25],od 10 [21,26],od 11 [27],od 12 [28],od 13 [0,29],od 14 [5,29],od 15 [29,30,31],od 16 [29,32],od 17 [29,33],od 18 [1,29],od 19 [5,29],od 20 [29,35,36],od 21 [29,37],od 22 [29,38],od 23 [29,34,39],od 24 [29,40],od 25 [29,41]])] (.v (.v (.seq (.v (.block (.loop ⟨[(0,.r false .cer),(1,.r false .cer),(5,.i)],[]⟩ .u))) .u))) RH Tryz.f18 [(44,⟨_,Tc⟩)] (aeK A.al Tc.pre Tc.fn):=fun _=>by kernel_rfl
theorem aoo (A:Alg) (fO:Ct A.ah jc): @Ru ay.z X E A [(1,[od 0 [1],od 1 [3],od 3 [1],od 4 [6],(2,([4],[4])),od 5 [7],od 6 [5,8],od 7 [2,9]])] .u Jj Tryz.f45 [(98,⟨_,fO⟩)] (XE A.al fO.pre fO.fn):=fun _=>by kernel_rfl
theorem aop (A:Alg) (KU:Ct A.ah Jj): @Ru ay.z X E A [] (.v (.v (.seq (.v (.block (.loop ⟨[(0,.r false .cer),(3,.p 0 14),(5,.o 1),(6,.i)],[.s false .cer,.rows true .cer]⟩ .u))) .u))) Jk Tryz.f19 [(45,⟨_,KU⟩)] (XF A.al KU.pre KU.fn):=fun _=>by kernel_rfl
theorem azO (A:Alg) (Td:Ct A.ah Ry): @Ru ay.z X E A [] .u acC Tryz.f20 [(36,⟨_,Td⟩)] (amo A.al Td.pre Td.fn):=fun _=>by kernel_rfl
theorem awe (A:Alg) (aeR:Ct A.ah acC) (aeS:Ct A.ah acz) (aeT:Ct A.ah acB) (zB:Ct A.ah EG) (Te:Ct A.ah RH) (KV:Ct A.ah II) (KW:Ct A.ah Jk) (KY:Ct A.ah Ji): @Ru ay.z X E A [(10,[od 0 [6],od 1 [49],od 2 [50],od 3 [5,51],od 5 [4,51],od 6 [51,54],od 7 [4,51],od 8 [51,56],(4,([51,52],[6,8])),od 9 [51,55,57],od 10 [51,53,58],od 11 [51,59],od 12 [60]])] .u aiv Tryz.f5 [(20,⟨_,aeR⟩),(14,⟨_,aeS⟩),(17,⟨_,aeT⟩),(9,⟨_,zB⟩),(18,⟨_,Te⟩),(12,⟨_,KV⟩),(19,⟨_,KW⟩),(16,⟨_,KY⟩)] (aeN A.al aeR.pre aeR.fn aeS.pre aeS.fn aeT.pre aeT.fn zB.pre zB.fn Te.pre Te.fn KV.pre KV.fn KW.pre KW.fn KY.pre KY.fn):=fun _=>by kernel_rfl
end Go.TX.Seat
namespace Go.TX
open Go Go.AE
theorem aoq (x y:Int):bg .lss x y=decide (x<y):=rfl
theorem aor (x y:Int):bg .leq x y=decide (x≤y):=rfl
theorem aos (x y:Int):bg .gtr x y=decide (y<x):=rfl
theorem aot (x y:Int):bg .geq x y=decide (y≤x):=rfl
theorem aou (x y:Int):bg .eql x y=decide (x=y):=rfl
theorem aov (x y:Int):bg .neq x y= !decide (x=y):=rfl
theorem aow (k:IntKind) (x y:Int):jL .add k x y=k.wrap (x+y):=rfl
theorem aeU (k:IntKind) (x y:Int):jL .sub k x y=k.wrap (x-y):=rfl
theorem aox (k:IntKind) (x y:Int):jL .mul k x y=k.wrap (x*y):=rfl
theorem aoy (k:IntKind) (x y:Int):jL .quo k x y=k.wrap (x.tdiv y):=rfl
theorem aeV (k:IntKind) (x y:Int):jL .rem k x y=x.tmod y:=rfl
theorem w64 {x:Int} (h1: -9223372036854775808≤x) (h2:x≤9223372036854775807):IntKind.i64.wrap x=x:=IntWalk.i64_in _ (by omega)
theorem ahE (m:aj):gW .mono 0 m=m.bD:=rfl
theorem ahF (m:aj):nS .mono 1 .i64 m=m.atoms:=rfl
theorem aoz (p:List aj):nS .poly 0 .mono p=p:=rfl
theorem awf (p:List Atom):nS .tab 0 .atom p=p:=rfl
theorem aoA (p:List Int):nS .ints 0 .i64 p=p:=rfl
theorem ahG (m:Atom):gW .atom 0 m=m.kind:=rfl
theorem ahH (m:Atom):gW .atom 1 m=m.k:=rfl
theorem ahI (m:Atom):nS .atom 2 .mono m=m.x:=rfl
theorem ahJ (m:Atom):nS .atom 3 .mono m=m.y:=rfl
theorem awg (n:Int):gW .i64 0 n=n:=rfl
theorem azP (n:Int):gW .u8 0 n=n:=rfl
theorem ahK (x):Co.mk .mono x=⟨x.1,x.2.1⟩:=rfl
theorem ahL (x):Co.mk .poly x=x.1:=rfl
theorem aoB (x):Co.mk .tab x=x.1:=rfl
theorem ahM (x):Co.mk .ints x=x.1:=rfl
theorem Oa (x):Co.mk .i64 x=x.1:=rfl
theorem ahN (x):Co.mk .atom x=⟨x.1,x.2.1,x.2.2.1,x.2.2.2.1⟩:=rfl
theorem ak {α ρ:Type} {f:α→(α ⊕ ρ→Prop)→Prop} {x:α} {Q:ρ→Prop} (I:α→Prop) (μ:α→Nat) (h0:I x) (hs:∀y,I y→f y (E8 (fun z _=>I z∧μ z<μ y) Q)):Zt f x Q:=⟨I,μ,h0,hs⟩
theorem aeW {α ρ:Type} (k:α→(ρ→Prop)→Prop) (Q:ρ→Prop) (x:α):E8 k Q (.inl x)=k x Q:=rfl
theorem aeX {α ρ:Type} (k:α→(ρ→Prop)→Prop) (Q:ρ→Prop) (r:ρ):E8 k Q (.inr r)=Q r:=rfl
theorem getD_lt {α:Type} {xs:List α} {d:α} {i:Nat} (h:i<xs.length):xs.getD i d=xs[i]:=by simp [List.getD,h]
theorem dJ {α:Type} {xs:List α} {d:α} {i:Int} (h0:0≤i) (h:i<xs.length):xs.getD i.toNat d∈xs:=by
 rw [getD_lt (by omega)];exact List.getElem_mem _
theorem RR:(∀(x y:Int),bg BinOp.lss x y=decide (x<y))∧(∀(x y:Int),bg BinOp.leq x y=decide (x≤y))∧(∀(x y:Int),bg BinOp.gtr x y=decide (y<x))∧(∀(x y:Int),bg BinOp.geq x y=decide (y≤x))∧(∀(x y:Int),bg BinOp.eql x y=decide (x=y))∧(∀(x y:Int),bg BinOp.neq x y= !decide (x=y))∧(∀(k:IntKind) (x y:Int),jL BinOp.add k x y=k.wrap (x+y))∧(∀(k:IntKind) (x y:Int),jL BinOp.sub k x y=k.wrap (x-y))∧(∀(k:IntKind) (x y:Int),jL BinOp.mul k x y=k.wrap (x*y))∧(∀(k:IntKind) (x y:Int),jL BinOp.quo k x y=k.wrap (x.tdiv y))∧(∀(k:IntKind) (x y:Int),jL BinOp.rem k x y=x.tmod y)∧(∀ {x:Int}, -9223372036854775808≤x→x≤9223372036854775807→IntKind.i64.wrap x=x)∧(∀(m:aj),gW Co.mono 0 m=m.bD)∧(∀(m:aj),nS Co.mono 1 Co.i64 m=m.atoms)∧(∀(p:List aj),nS Co.poly 0 Co.mono p=p)∧(∀(p:List Atom),nS Co.tab 0 Co.atom p=p)∧(∀(p:List Int),nS Co.ints 0 Co.i64 p=p)∧(∀(m:Atom),gW Co.atom 0 m=m.kind)∧(∀(m:Atom),gW Co.atom 1 m=m.k)∧(∀(m:Atom),nS Co.atom 2 Co.mono m=m.x)∧(∀(m:Atom),nS Co.atom 3 Co.mono m=m.y)∧(∀(n:Int),gW Co.i64 0 n=n)∧(∀(n:Int),gW Co.u8 0 n=n)∧(∀(x:iI Co.mono.vH),Co.mono.mk x=aj.mk x.fst x.snd.fst)∧(∀(x:iI Co.poly.vH),Co.poly.mk x=x.fst)∧(∀(x:iI Co.tab.vH),Co.tab.mk x=x.fst)∧(∀(x:iI Co.ints.vH),Co.ints.mk x=x.fst)∧(∀(x:iI Co.i64.vH),Co.i64.mk x=x.fst)∧(∀(x:iI Co.atom.vH),Co.atom.mk x=Atom.mk x.fst x.snd.fst x.snd.snd.fst x.snd.snd.snd.fst)∧(∀ {α ρ:Type} (k:α→(ρ→Prop)→Prop) (Q:ρ→Prop) (x:α),E8 k Q (Sum.inl x)=k x Q)∧(∀ {α ρ:Type} (k:α→(ρ→Prop)→Prop) (Q:ρ→Prop) (r:ρ),E8 k Q (Sum.inr r)=Q r)∧(∀(c f:Bool),(bif c then true else f)=(c || f))∧(∀(c t:Bool),(bif c then t else false)=(c&&t))∧(∀(c f:Bool),(bif c then false else f)=(!c&&f))∧(∀(c t:Bool),(bif c then t else true)=(!c || t))∧(∀(a b:Bool),((a || b)=true)=(a=true∨b=true))∧(∀ {x y:Bool},(x || y)=false↔x=false∧y=false)∧(∀(a b:Bool),((a&&b)=true)=(a=true∧b=true))∧(∀ {p:Prop} [inst:Decidable p],(decide p=true)=p)∧(∀ {p:Prop} {x:Decidable p},decide p=false↔¬p)∧(∀(b:Bool),((!b)=true)=(b=false))∧(∀(b:Bool),((!b)=false)=(b=true))∧(∀(b:Bool),(!!b)=b)∧(∀(p:Prop),(True∧p)=p)∧(∀(p:Prop),(p∧True)=p)∧(∀ {α:Type} [inst:LE α] {x y:α},x≥y↔y≤x)∧(¬True)=False∧(¬False)=True∧(false=true)=False∧(true=false)=False∧(∀(p:Prop),(False→p)=True)∧(∀(p:Prop),(True→p)=p)∧(∀(α:Prop),(α→True)=True)∧(∀(α:Type),(∀(a:α),True)=True)∧(∀(p:Prop),(False∨p)=p)∧(∀(p:Prop),(p∨False)=p)∧(∀(p:Prop),(True∨p)=True)∧(∀(p:Prop),(p∨True)=True)∧(∀ {α:Type} {x:Decidable True} (t e:α),(if True then t else e)=t)∧∀ {α:Type} {x:Decidable False} (t e:α),(if False then t else e)=e:=And.intro (@aoq)<| And.intro (@aor)<| And.intro (@aos)<| And.intro (@aot)<| And.intro (@aou)<| And.intro (@aov)<| And.intro (@aow)<| And.intro (@aeU)<| And.intro (@aox)<| And.intro (@aoy)<| And.intro (@aeV)<| And.intro (@w64)<| And.intro (@ahE)<| And.intro (@ahF)<| And.intro (@aoz)<| And.intro (@awf)<| And.intro (@aoA)<| And.intro (@ahG)<| And.intro (@ahH)<| And.intro (@ahI)<| And.intro (@ahJ)<| And.intro (@awg)<| And.intro (@azP)<| And.intro (@ahK)<| And.intro (@ahL)<| And.intro (@aoB)<| And.intro (@ahM)<| And.intro (@Oa)<| And.intro (@ahN)<| And.intro (@aeW)<| And.intro (@aeX)<| And.intro (@Bool.cond_true_left)<| And.intro (@Bool.cond_false_right)<| And.intro (@Bool.cond_false_left)<| And.intro (@Bool.cond_true_right)<| And.intro (@Bool.or_eq_true)<| And.intro (@Bool.or_eq_false_iff)<| And.intro (@Bool.and_eq_true)<| And.intro (@decide_eq_true_eq)<| And.intro (@decide_eq_false_iff_not)<| And.intro (@Bool.not_eq_true')<| And.intro (@Bool.not_eq_false')<| And.intro (@Bool.not_not)<| And.intro (@true_and)<| And.intro (@and_true)<| And.intro (@ge_iff_le.{0})<| And.intro (@not_true_eq_false)<| And.intro (@not_false_eq_true)<| And.intro (@Bool.false_eq_true)<| And.intro (@Bool.true_eq_false)<| And.intro (@false_implies)<| And.intro (@true_implies)<| And.intro (@implies_true.{0})<| And.intro (@implies_true.{1})<| And.intro (@false_or)<| And.intro (@or_false)<| And.intro (@true_or)<| And.intro (@or_true)<| And.intro (@if_true.{1})<| @if_false.{1}
end Go.TX
namespace Go.TX.F
open Go Go.AE Go.TX
def inB (a lo hi:Int):Bool:=decide (lo≤a)&&decide (a≤hi)
theorem aiI (a b c:Int):acN (std 0).al (a,b,c,()) (fun y=>y=(inB a b c,())):=by
 dsimp only [acN,Tup.q,Tup.o]
 simp (disch:=omega) only [RR]
 rfl
theorem aiJ {p:Int×Int×Int×Unit→Bool} {f:Int×Int×Int×Unit→Bool×Unit} (hp:∀a b c,p (a,b,c,())=true) (hf:∀a b c,f (a,b,c,())=(inB a b c,())) (a:Int):acP (std 0).al p f (a,()) (fun y=>y=(inB a 0 65535,())):=by
 dsimp only [acP,Tup.q,Tup.o]
 simp (disch:=omega) only [RR,hp,hf]
theorem aiK {p:Int×Int×Int×Unit→Bool} {f:Int×Int×Int×Unit→Bool×Unit} (hp:∀a b c,p (a,b,c,())=true) (hf:∀a b c,f (a,b,c,())=(inB a b c,())) (a:Int):acR (std 0).al p f (a,()) (fun y=>y=(inB a 1 5,())):=by
 dsimp only [acR,Tup.q,Tup.o]
 simp (disch:=omega) only [RR,hp,hf]
theorem aiL {p:Int×Int×Int×Unit→Bool} {f:Int×Int×Int×Unit→Bool×Unit} (hp:∀a b c,p (a,b,c,())=true) (hf:∀a b c,f (a,b,c,())=(inB a b c,())) (a:Int):acQ (std 0).al p f (a,()) (fun y=>y=(inB a 0 3,())):=by
 dsimp only [acQ,Tup.q,Tup.o]
 simp (disch:=omega) only [RR,hp,hf]
theorem awh (a:Int):ak0 (std 0).al (a,()) (fun y=>y=(false,())):=by
 dsimp only [ak0,Tup.q,Tup.o]
 simp (disch:=omega) only [RR]
 simp
def gX (a b:Int):Int:=if a<b then-1 else if b<a then 1 else 0
theorem azQ {p:Int×Unit→Bool} {f:Int×Unit→Bool×Unit} (hp:∀a,p (a,())=true) (hf:∀a,f (a,())=(false,())) (a b:Int):ak1 (std 0).al p f (a,b,()) (fun y=>y=(gX a b,())):=by
 dsimp only [ak1,Tup.q,Tup.o]
 simp (disch:=omega) only [RR,hp,hf]
 unfold gX
 refine⟨fun h=>by simp [h],fun h=>⟨fun h2=>by simp [h,h2],fun h2=>by simp [h,h2]⟩⟩
theorem azR {p:Int×Unit→Bool} {f:Int×Unit→Bool×Unit} (hp:∀a,p (a,())=true) (hf:∀a,f (a,())=(false,())) (a b:Int):ak5 (std 0).al p f (a,b,()) (fun y=>y=(decide (a<b),())):=by
 dsimp only [ak5,Tup.q,Tup.o]
 simp (disch:=omega) only [RR,hp,hf]
 simp
def or2 (a b:Int):Int:=if a≠0 then a else b
theorem awi (a b:Int):ak2 (std 0).al ([a,b],()) (fun y=>y=(or2 a b,())):=by
 dsimp only [ak2,Tup.q,Tup.o]
 refine ak (fun(y:Int×List Int×Int×Int×Unit)=>y.1=0∧y.2.1=[a,b]∧y.2.2.1=2∧0≤y.2.2.2.1∧y.2.2.2.1≤2∧(0<y.2.2.2.1→a=0)∧(1<y.2.2.2.1→b=0)) (fun y=>(2-y.2.2.2.1).toNat) ⟨rfl,rfl,rfl,by simp,by simp,fun h=>absurd h (by simp),fun h=>absurd h (by simp)⟩ ?_
 rintro⟨(z:Int),(l:List Int),(n:Int),(i:Int),⟨⟩⟩ hI
 dsimp only at hI ⊢
 obtain⟨rfl,rfl,rfl,h1,h2,h3,h4⟩:=hI
 simp (disch:=omega) only [RR]
 have hi:i=0∨i=1∨i=2:=by omega
 rcases hi with rfl | rfl | rfl
 ·by_cases ha:a=0<;>simp [or2,ha]<;>(try omega)
 ·have:=h3 (by omega)
  by_cases hb:b=0<;>simp [or2,this,hb]<;>(try omega)
 ·have:=h3 (by omega)
  have:=h4 (by omega)
  simp [or2, *]
def kR:List Int→List Int→Int
 | [],[]=>0
 | [],_::_=> -1
 | _::_,[]=>1
 | a::az,b::bs=>if gX a b≠0 then gX a b else kR az bs
theorem Dx (a b:List Int) (i:Nat):(h1:i<a.length)→(h2:i<b.length)→kR (a.drop i) (b.drop i)=if gX a[i] b[i]≠0 then gX a[i] b[i]else kR (a.drop (i+1)) (b.drop (i+1)):=by
 intro h1 h2
 rw [List.drop_eq_getElem_cons h1,List.drop_eq_getElem_cons h2];rfl
theorem aeY (l:List Int) (h:l≠ []):kR l []=1:=by cases l<;>simp_all [kR]
theorem awj {p:Int×Int×Unit→Bool} {f:Int×Int×Unit→Int×Unit} (hp:∀a b,p (a,b,())=true) (hf:∀a b,f (a,b,())=(gX a b,())) (a b:List Int) (ha:a.length<1000000000):
  adb (std 0).al p f (a,b,()) (fun y=>y=(kR a b,())):=by
 dsimp only [adb,Tup.q,Tup.o]
 refine ak (fun(y:List Int×List Int×List Int×Int×Int×Unit)=>y.1=a∧y.2.1=b∧y.2.2.1=a∧y.2.2.2.1=a.length∧0≤y.2.2.2.2.1∧y.2.2.2.2.1≤a.length∧y.2.2.2.2.1≤b.length∧kR a b=kR (a.drop y.2.2.2.2.1.toNat) (b.drop y.2.2.2.2.1.toNat))
  (fun y=>(a.length-y.2.2.2.2.1).toNat) ⟨rfl,rfl,rfl,rfl,by simp,by simp,by simp,by simp⟩ ?_
 rintro⟨(l1:List Int),(l2:List Int),(l3:List Int),(n:Int),(i:Int),⟨⟩⟩ hI
 dsimp only at hI ⊢
 obtain⟨rfl,rfl,rfl,rfl,h1,h2,h3,h4⟩:=hI
 simp (disch:=omega) only [RR,hp,hf]
 refine⟨fun hi=>⟨h1,hi,fun hj=> ?_,fun hj=>⟨h1,by omega,fun hc=> ?_,fun hc=> ?_⟩⟩,fun hi=>⟨fun hj=> ?_,fun hj=> ?_⟩⟩
 ·rw [h4,List.drop_eq_nil_of_le (show l2.length≤i.toNat by omega),aeY _ (by simp;omega)]
 ·rw [h4,Dx l3 l2 i.toNat (by omega) (by omega)]
  rw [getD_lt (by omega),getD_lt (by omega)]at hc
  rw [getD_lt (by omega),getD_lt (by omega),if_pos hc]
 ·rw [getD_lt (by omega),getD_lt (by omega)]at hc
  refine⟨⟨by omega,by omega,by omega,?_⟩,by omega⟩
  rw [h4,Dx l3 l2 i.toNat (by omega) (by omega),if_neg (by simpa using hc),show(i+1).toNat=i.toNat+1 by omega]
 ·rw [h4,List.drop_eq_nil_of_le (show l3.length≤i.toNat by omega)]
  have:∃q r,l2.drop i.toNat=q::r:=by
   cases hq:l2.drop i.toNat with
   | nil=>have:=congrArg List.length hq;simp at this;omega
   | cons q r=>exact⟨q,r,rfl⟩
  obtain⟨q,r,hq⟩:=this
  rw [hq];rfl
 ·rw [h4,List.drop_eq_nil_of_le (show l3.length≤i.toNat by omega),List.drop_eq_nil_of_le (show l2.length≤i.toNat by omega)];rfl
def dR (a b:List Int):Int:=or2 (gX a.length b.length) (kR a b)
theorem awk {p1:Int×Int×Unit→Bool} {f1:Int×Int×Unit→Int×Unit} (hp1:∀a b,p1 (a,b,())=true) (hf1:∀a b,f1 (a,b,())=(gX a b,()))
  {p2:List Int×List Int×Unit→Bool} {f2:List Int×List Int×Unit→Int×Unit} (hp2:∀a b,a.length<1000000000→p2 (a,b,())=true) (hf2:∀a b,a.length<1000000000→f2 (a,b,())=(kR a b,()))
  {p3:List Int×Unit→Bool} {f3:List Int×Unit→Int×Unit} (hp3:∀a b,p3 ([a,b],())=true) (hf3:∀a b,f3 ([a,b],())=(or2 a b,())) (a b:List Int) (ha:a.length<1000000000):
  ade (std 0).al p3 f3 p1 f1 p2 f2 (a,b,()) (fun y=>y=(dR a b,())):=by
 dsimp only [ade,Tup.q,Tup.o]
 simp (disch:=omega) only [RR,hp1,hf1,hp2 a b ha,hf2 a b ha,hp3,hf3]
 rfl
end Go.TX.F
namespace Go.TX.F
open Go Go.AE Go.TX
noncomputable def bp (P:Prop):Bool:= @decide P (Classical.propDecidable P)
theorem dz {P:Prop} (h:P):bp P=true:=by simp [bp,h]
theorem dD {P:Prop} (h:¬P):bp P=false:=by simp [bp,h]
theorem aT {P:Prop}:bp P=true↔P:=by simp [bp]
theorem jv {P:Prop}:bp P=false↔¬P:=by simp [bp]
theorem mK {P Q:Prop}:bp (P∧Q)=(bp P&&bp Q):=by by_cases h1:P<;>by_cases h2:Q<;>simp [bp,h1,h2]
theorem lJ {P Q:Prop} (h:P↔Q):bp P=bp Q:=by simp [bp,h]
def All (n:Int) (G:Int→Prop):Prop:=∀j,0≤j→j<n→G j
theorem All.zero {G:Int→Prop}:All 0 G:=fun j h1 h2=>absurd h2 (by omega)
theorem All.snoc {n:Int} {G:Int→Prop} (h:All n G) (hi:G n):All (n+1) G:=fun j h1 h2=>by
 by_cases hj:j=n
 ·exact hj▸hi
 ·exact h j h1 (by omega)
theorem All.le {n m:Int} {G:Int→Prop} (h:All n G) (hi:m≤n):All m G:=fun j h1 h2=>h j h1 (by omega)
def Idx (n:Int) (G:Int→Prop) (r:Int):Prop:=(r= -1∧All n (fun j=>¬G j))∨(0≤r∧r<n∧G r∧All r (fun j=>¬G j))
theorem Idx.ge {n:Int} {G:Int→Prop} {r:Int} (h:Idx n G r):(0≤r)↔¬All n (fun j=>¬G j):=by
 rcases h with⟨rfl,h⟩ | ⟨h1,h2,h3,h4⟩
 ·simp [h]
 ·simp only [h1,true_iff];exact fun h=>h r h1 h2 h3
def Srt (l:List Int):Prop:=All (l.length-1) (fun i=>l.getD i.toNat default≤l.getD (i+1).toNat default)
theorem aoC {p:Int×Int×Unit→Bool} {f:Int×Int×Unit→Bool×Unit} (hp:∀a b,p (a,b,())=true) (hf:∀a b,f (a,b,())=(decide (a<b),())) (a:List Int) (ha:a.length<1000000000):
  V6 (std 0).al p f (a,()) (fun y=>y=(bp (Srt a),())):=by
 dsimp only [V6,Tup.q,Tup.o]
 simp (disch:=omega) only [RR,hp,hf]
 refine ak (fun(y:List Int×Int×Unit)=>y.1=a∧ -1≤y.2.1∧y.2.1≤a.length-1∧∀j,y.2.1≤j→0≤j→j< (a.length:Int)-1→a.getD j.toNat default≤a.getD (j+1).toNat default) (fun y=>(y.2.1+1).toNat) ⟨rfl,by simp;omega,by simp,by simp;omega⟩ ?_
 rintro⟨(l:List Int),(i:Int),⟨⟩⟩ hI
 dsimp only at hI ⊢
 obtain⟨rfl,h1,h2,h3⟩:=hI
 simp (disch:=omega) only [RR,hp,hf]
 refine⟨fun h4=>⟨by omega,by omega,by omega,by omega,fun h5=> ?_,fun h5=>⟨⟨by omega,by omega,fun j h6 h7 h8=> ?_⟩,by omega⟩⟩,fun h4=> ?_⟩
 ·rw [dD]
  intro h;have:=h (i-1) (by omega) (by omega)
  dsimp only at this
  rw [show i-1+1=i by omega]at this;omega
 ·by_cases hj:j=i-1
  ·subst hj;rw [show i-1+1=i by omega];omega
  ·exact h3 j (by omega) h7 h8
 ·rw [dz]
  exact fun j h6 h7=>h3 j (by omega) h6 h7
theorem aiM (a n:Int):ac6 (std 0).al (a,n,()) (fun y=>y=(decide (n≤a),n,())):=by
 dsimp only [ac6,Tup.q,Tup.o]
 simp (disch:=omega) only [RR]
theorem aoD {p:Int×Int×Unit→Bool} {f:Int×Int×Unit→Bool×Int×Unit} (hp:∀a b,p (a,b,())=true) (hf:∀a b,f (a,b,())=(decide (b≤a),b,())) (a:List Int) (n:Int) (ha:a.length<1000000000):
  V5 (std 0).al p f (a,n,()) (fun y=>Idx a.length (fun i=>n≤a.getD i.toNat default) y.1∧y.2.1=n):=by
 dsimp only [V5,Tup.q,Tup.o]
 refine ak (fun(y:List Int×Int×Int×Int×Unit)=>y.1=a∧y.2.1=a.length∧y.2.2.2.1=n∧0≤y.2.2.1∧y.2.2.1≤a.length∧All y.2.2.1 (fun i=>¬n≤a.getD i.toNat default)) (fun y=>(a.length-y.2.2.1).toNat) ⟨rfl,rfl,rfl,by simp,by simp,All.zero⟩ ?_
 rintro⟨(l:List Int),(m:Int),(i:Int),(n':Int),⟨⟩⟩ hI
 dsimp only at hI ⊢
 obtain⟨rfl,rfl,rfl,h1,h2,h3⟩:=hI
 simp (disch:=omega) only [RR,hp,hf]
 refine⟨fun h4=>⟨by omega,by omega,fun h5=> ?_,fun h5=>⟨⟨by omega,by omega,h3.snoc h5⟩,by omega⟩⟩,fun h4=> ?_⟩
 ·exact Or.inr ⟨by omega,by omega,h5,h3⟩
 ·exact Or.inl ⟨rfl,h3.le (by omega)⟩
theorem awl {p:List Int×Int×Unit→Bool} {f:List Int×Int×Unit→Int×Int×Unit} (hp:∀a b,a.length<1000000000→p (a,b,())=true)
  (hf:∀a n,a.length<1000000000→Idx a.length (fun i=>n≤a.getD i.toNat default) (f (a,n,())).1∧(f (a,n,())).2.1=n) (a:List Int) (n:Int) (ha:a.length<1000000000):
  ac7 (std 0).al p f (a,n,()) (fun y=>y=(bp (¬All a.length (fun i=>¬n≤a.getD i.toNat default)),n,())):=by
 obtain⟨h1,h2⟩:=hf a n ha
 dsimp only [ac7,Tup.q,Tup.o]
 simp (disch:=omega) only [RR,hp a n ha,h2]
 rw [show decide ((0:Int)≤(f (a,n,())).1)=bp (¬All a.length (fun i=>¬n≤a.getD i.toNat default))from ?_]
 rw [←lJ h1.ge];simp [bp]
def Ob (n:Int) (m:aj):Prop:=All m.atoms.length (fun i=>¬n≤m.atoms.getD i.toNat default)
def aX (p:List aj) (n:Int):Prop:=All p.length (fun i=>Ob n (p.getD i.toNat default))
def Sh (p:List aj):Prop:=p.length<1000000000∧∀m∈p,m.atoms.length<1000000000
theorem Sh.at {p:List aj} (h:Sh p) (n:Nat):(p.getD n default).atoms.length<1000000000:=by
 by_cases h1:n<p.length
 ·rw [getD_lt h1];exact h.2 _ (List.getElem_mem _)
 ·simp only [List.getD,List.getElem?_eq_none (by omega:p.length≤n)];decide
theorem awm {p:List Int×Int×Unit→Bool} {f:List Int×Int×Unit→Bool×Int×Unit} (hp:∀a b,a.length<1000000000→p (a,b,())=true)
  (hf:∀a n,a.length<1000000000→f (a,n,())=(bp (¬All a.length (fun i=>¬n≤a.getD i.toNat default)),n,())) (a:List aj) (n:Int) (ha:Sh a):
  ac8 (std 0).al p f (a,n,()) (fun y=>y=(bp (aX a n),())):=by
 have hlen:=ha.1
 dsimp only [ac8,Tup.q,Tup.o]
 refine ak (fun(y:List aj×Int×Int×Int×Unit)=>y.1=a∧y.2.1=a.length∧y.2.2.2.1=n∧0≤y.2.2.1∧y.2.2.1≤a.length∧All y.2.2.1 (fun i=>Ob n (a.getD i.toNat default))) (fun y=>(a.length-y.2.2.1).toNat) ⟨rfl,rfl,rfl,by simp,by simp,All.zero⟩ ?_
 rintro⟨(l:List aj),(m:Int),(i:Int),(n':Int),⟨⟩⟩ hI
 dsimp only at hI ⊢
 obtain⟨rfl,rfl,rfl,h1,h2,h3⟩:=hI
 simp (disch:=omega) only [RR]
 refine⟨fun h4=> ?_,fun h4=> ?_⟩
 ·have h5:=ha.at i.toNat
  rw [hp _ _ h5,hf _ _ h5]
  refine⟨by omega,by omega,rfl,fun h6=> ?_,fun h6=>⟨⟨rfl,by omega,by omega,h3.snoc ?_⟩,by omega⟩⟩
  ·rw [dD (fun h=> ?_)]
   exact aT.1 h6 (h i h1 h4)
  ·exact Classical.byContradiction (fun h=>jv.1 h6 h)
 ·rw [dz (show aX l n' from h3.le (by omega))]
theorem aiN (m:aj):adh (std 0).al (m,()) (fun y=>y=(bp (0<m.atoms.length∧m.atoms.getD 0 default<0),())):=by
 dsimp only [adh,Tup.q,Tup.o]
 simp (disch:=omega) only [RR]
 refine⟨by omega,by omega,?_⟩
 rw [mK]
 by_cases h1:0<m.atoms.length
 ·by_cases h2:m.atoms.getD 0 default<0
  ·rw [dz h1,dz h2,show Int.toNat 0=0 from rfl,decide_eq_true h2,decide_eq_true (by omega)]
  ·rw [dz h1,dD h2,show Int.toNat 0=0 from rfl,decide_eq_false h2,Bool.and_false,Bool.and_false]
 ·rw [dD h1,decide_eq_false (by omega),Bool.false_and,Bool.false_and]
theorem aoE {p:aj×Unit→Bool} {f:aj×Unit→Bool×Unit} (G:aj→Prop) (hp:∀a,p (a,())=true) (hf:∀a,f (a,())=(bp (G a),())) (a:List aj) (ha:a.length<1000000000):
  V7 (std 0).al p f (a,()) (fun y=>Idx a.length (fun i=>G (a.getD i.toNat default)) y.1):=by
 dsimp only [V7,Tup.q,Tup.o]
 refine ak (fun(y:List aj×Int×Int×Unit)=>y.1=a∧y.2.1=a.length∧0≤y.2.2.1∧y.2.2.1≤a.length∧All y.2.2.1 (fun i=>¬G (a.getD i.toNat default))) (fun y=>(a.length-y.2.2.1).toNat) ⟨rfl,rfl,by simp,by simp,All.zero⟩ ?_
 rintro⟨(l:List aj),(m:Int),(i:Int),⟨⟩⟩ hI
 dsimp only at hI ⊢
 obtain⟨rfl,rfl,h1,h2,h3⟩:=hI
 simp (disch:=omega) only [RR,hp,hf]
 refine⟨fun h4=>⟨by omega,by omega,fun h5=> ?_,fun h5=>⟨⟨by omega,by omega,h3.snoc (jv.1 h5)⟩,by omega⟩⟩,fun h4=> ?_⟩
 ·exact Or.inr ⟨by omega,by omega,aT.1 h5,h3⟩
 ·exact Or.inl ⟨rfl,h3.le (by omega)⟩
theorem awn {p:List aj×Unit→Bool} {f:List aj×Unit→Int×Unit} (G:aj→Prop) (hp:∀a,a.length<1000000000→p (a,())=true)
  (hf:∀a,a.length<1000000000→Idx a.length (fun i=>G (a.getD i.toNat default)) (f (a,())).1) (a:List aj) (ha:a.length<1000000000):
  adi (std 0).al p f (a,()) (fun y=>y=(bp (¬All a.length (fun i=>¬G (a.getD i.toNat default))),())):=by
 have h1:=hf a ha
 dsimp only [adi,Tup.q,Tup.o]
 simp (disch:=omega) only [RR,hp a ha]
 rw [show decide ((0:Int)≤(f (a,())).1)=bp (¬All a.length (fun i=>¬G (a.getD i.toNat default)))from ?_]
 rw [←lJ h1.ge];simp [bp]
def mOk (m:aj):Prop:=(1≤m.bD∧m.bD≤65535)∧m.atoms.length≤4∧Srt m.atoms
def aI (p:List aj):Prop:=All p.length (fun i=>mOk (p.getD i.toNat default)∧(0<i→dR (p.getD (i-1).toNat default).atoms (p.getD i.toNat default).atoms<0))∧p.length≤12∧aX p 200
 ∧All p.length (fun i=>¬(0< (p.getD i.toNat default).atoms.length∧(p.getD i.toNat default).atoms.getD 0 default<0))
theorem awo {p1:Int×Int×Int×Unit→Bool} {f1:Int×Int×Int×Unit→Bool×Unit} (hp1:∀a b c,p1 (a,b,c,())=true) (hf1:∀a b c,f1 (a,b,c,())=(inB a b c,()))
  {p2:List aj×Int×Unit→Bool} {f2:List aj×Int×Unit→Bool×Unit} (hp2:∀a n,Sh a→p2 (a,n,())=true) (hf2:∀a n,Sh a→f2 (a,n,())=(bp (aX a n),()))
  {p3:List Int×Unit→Bool} {f3:List Int×Unit→Bool×Unit} (hp3:∀a,a.length<1000000000→p3 (a,())=true) (hf3:∀a,a.length<1000000000→f3 (a,())=(bp (Srt a),()))
  {p4:List Int×List Int×Unit→Bool} {f4:List Int×List Int×Unit→Int×Unit} (hp4:∀a b,a.length<1000000000→p4 (a,b,())=true) (hf4:∀a b,a.length<1000000000→f4 (a,b,())=(dR a b,()))
  {p5:List aj×Unit→Bool} {f5:List aj×Unit→Bool×Unit} (hp5:∀a,a.length<1000000000→p5 (a,())=true) (hf5:∀a,a.length<1000000000→f5 (a,())=(bp (¬All a.length (fun i=>¬(0< (a.getD i.toNat default).atoms.length∧(a.getD i.toNat default).atoms.getD 0 default<0))),()))
  (a:List aj) (ha:Sh a):adk (std 0).al p1 f1 p2 f2 p3 f3 p4 f4 p5 f5 (a,()) (fun y=>y=(bp (aI a),())):=by
 have hlen:=ha.1
 dsimp only [adk,Tup.q,Tup.o]
 refine ak (fun(y:List aj×Int×Int×List aj×Unit)=>y.1=a∧y.2.1=a.length∧y.2.2.2.1=a∧0≤y.2.2.1∧y.2.2.1≤a.length∧All y.2.2.1 (fun i=>mOk (a.getD i.toNat default)∧(0<i→dR (a.getD (i-1).toNat default).atoms (a.getD i.toNat default).atoms<0))) (fun y=>(a.length-y.2.2.1).toNat) ⟨rfl,rfl,rfl,by simp,by simp,All.zero⟩ ?_
 rintro⟨(l:List aj),(m:Int),(i:Int),(l':List aj),⟨⟩⟩ hI
 dsimp only at hI ⊢
 obtain⟨rfl,rfl,rfl,h1,h2,h3⟩:=hI
 simp (disch:=omega) only [RR,hp1,hf1,hp2 l' _ ha,hf2 l' _ ha,hp5 l' hlen,hf5 l' hlen]
 refine⟨fun h4=> ?_,fun h4=> ?_⟩
 ·simp (disch:=omega) only [RR,hp3 _ (ha.at _),hf3 _ (ha.at _),hp4 _ _ (ha.at _),hf4 _ _ (ha.at _),aT,jv,inB]
  refine⟨by omega,by omega,by by_cases h:i≤0<;>simp [h]<;>omega,by omega,fun h5=> ?_,fun h5=>⟨⟨by omega,by omega,h3.snoc ?_⟩,by omega⟩⟩
  ·rw [dD (fun h=> ?_)]
   have:=h.1 i h1 h4
   dsimp only [mOk]at this
   obtain⟨⟨h6,h7,h8⟩,h9⟩:=this
   rcases h5 with((h5 | h5) | h5) | ⟨h5,h10⟩
   ·simp [-List.getD_eq_getElem?_getD]at h5;omega
   ·omega
   ·exact h5 h8
   ·have:=h9 h5;omega
  ·refine⟨⟨by omega,by omega,h5.1.2⟩,fun h6=> ?_⟩
   have:=h5.2;simp only [decide_eq_true h6,Bool.true_and,decide_eq_false_iff_not]at this;omega
 ·unfold aI
  rw [show All (↑l'.length) (fun i=>mOk (l'.getD i.toNat default)∧(0<i→dR (l'.getD (i-1).toNat default).atoms (l'.getD i.toNat default).atoms<0))=True from eq_true (h3.le (by omega))]
  rw [true_and,mK,mK,Bool.and_assoc]
  refine congrArg (fun b=>(b,())) ?_
  congr 1
  ·by_cases h:l'.length≤12<;>simp [bp,h]<;>omega
  ·congr 1
   simp [bp]
def Oc (a b:aj):Int:=or2 (dR a.atoms b.atoms) (gX a.bD b.bD)
def Dy:List aj→List aj→Int
 | a::az,b::bs=>if Oc a b≠0 then Oc a b else Dy az bs
 | _,_=>0
def fQ (a b:List aj):Int:=if gX a.length b.length≠0 then gX a.length b.length else Dy a b
theorem Dz (a b:List aj) (i:Nat):(h1:i<a.length)→(h2:i<b.length)→Dy (a.drop i) (b.drop i)=if Oc a[i] b[i]≠0 then Oc a[i] b[i]else Dy (a.drop (i+1)) (b.drop (i+1)):=by
 intro h1 h2
 rw [List.drop_eq_getElem_cons h1,List.drop_eq_getElem_cons h2];rfl
theorem awp {p1:List Int×Unit→Bool} {f1:List Int×Unit→Int×Unit} (hp1:∀a b,p1 ([a,b],())=true) (hf1:∀a b,f1 ([a,b],())=(or2 a b,()))
  {p2:Int×Int×Unit→Bool} {f2:Int×Int×Unit→Int×Unit} (hp2:∀a b,p2 (a,b,())=true) (hf2:∀a b,f2 (a,b,())=(gX a b,()))
  {p4:List Int×List Int×Unit→Bool} {f4:List Int×List Int×Unit→Int×Unit} (hp4:∀a b,a.length<1000000000→p4 (a,b,())=true) (hf4:∀a b,a.length<1000000000→f4 (a,b,())=(dR a b,()))
  (a b:List aj) (ha:Sh a):adn (std 0).al p1 f1 p2 f2 p4 f4 (a,b,()) (fun y=>y=(fQ a b,())):=by
 have hlen:=ha.1
 dsimp only [adn,Tup.q,Tup.o]
 simp (disch:=omega) only [RR,hp2,hf2]
 refine⟨fun h=>by rw [fQ,if_pos h],fun h=> ?_⟩
 have hl:a.length=b.length:=by unfold gX at h;split at h<;>(try split at h)<;>omega
 rw [show fQ a b=Dy a b by rw [fQ,if_neg (by simp [h])]]
 refine ak (fun(y:List aj×Int×Int×List aj×Unit)=>y.1=a∧y.2.1=a.length∧y.2.2.2.1=b∧0≤y.2.2.1∧y.2.2.1≤a.length∧Dy a b=Dy (a.drop y.2.2.1.toNat) (b.drop y.2.2.1.toNat)) (fun y=>(a.length-y.2.2.1).toNat) ⟨rfl,rfl,rfl,by simp,by simp,by simp⟩ ?_
 rintro⟨(l:List aj),(m:Int),(i:Int),(l':List aj),⟨⟩⟩ hI
 dsimp only at hI ⊢
 obtain⟨rfl,rfl,rfl,h1,h2,h3⟩:=hI
 simp (disch:=omega) only [RR,hp1,hf1,hp4 _ _ (ha.at _),hf4 _ _ (ha.at _)]
 refine⟨fun h4=>⟨by omega,by omega,by omega,by omega,by omega,by omega,fun h5=> ?_,fun h5=>⟨⟨by omega,by omega,?_⟩,by omega⟩⟩,fun h4=> ?_⟩
 ·rw [h3,Dz _ _ _ (by omega) (by omega)]
  rw [getD_lt (by omega),getD_lt (by omega)]at h5 ⊢
  exact((if_pos (c:=Oc l[i.toNat] l'[i.toNat]≠0) h5).trans rfl).symm▸rfl
 ·rw [h3,Dz _ _ _ (by omega) (by omega)]
  rw [getD_lt (by omega),getD_lt (by omega)]at h5
  rw [if_neg (show¬(Oc l[i.toNat] l'[i.toNat]≠0)from fun h=>h h5),show(i+1).toNat=i.toNat+1 by omega]
 ·rw [h3,List.drop_eq_nil_of_le (by omega)];rfl
theorem awq {p1:List aj×List aj×Unit→Bool} {f1:List aj×List aj×Unit→Int×Unit} (hp1:∀a b,Sh a→p1 (a,b,())=true) (hf1:∀a b,Sh a→f1 (a,b,())=(fQ a b,())) (a b:List aj) (ha:Sh a):
  ado (std 0).al p1 f1 (a,b,()) (fun y=>y=(decide (fQ a b=0),())):=by
 dsimp only [ado,Tup.q,Tup.o]
 simp (disch:=omega) only [RR,hp1 a b ha,hf1 a b ha]
end Go.TX.F
namespace Go.TX.F
open Go Go.AE Go.TX
theorem XG (k:IntKind) (x y:Int):jL .and k x y=q8 .and k x y:=rfl
theorem XH (k:IntKind) (x y:Int):jL .xor k x y=q8 .xor k x y:=rfl
theorem aeZ (x:Int):q8 .and .i64 x 65535=x%65536:=by
 unfold q8
 dsimp only
 rw [BitVec.toNat_and,BitVec.toNat_ofInt,BitVec.toNat_ofInt]
 have h1:((65535:Int)% ((2^IntKind.i64.bits:Nat):Int)).toNat=2^16-1:=by decide
 rw [h1,Nat.and_two_pow_sub_one_eq_mod]
 rw [w64 (by omega) (by omega)]
 have h2:((2^IntKind.i64.bits:Nat):Int)=18446744073709551616:=by decide
 rw [h2]
 omega
theorem aiO (a:Int):adV (std 0).al (a,()) (fun y=>y=(a%65536,())):=by
 dsimp only [adV,Tup.q,Tup.o]
 simp (disch:=omega) only [RR,XG,aeZ]
def wdo (op a b:Int):Int:=if(0≤a∧a≤65535)∧(0≤b∧b≤65535)then
 (if op=1 then(a+b)%65536 else if op=2 then(a-b)%65536 else if op=3 then(a*b)%65536 else if op=4 then q8 .and .i64 a b else if op=5 then q8 .xor .i64 a b else 0)else 0
theorem dA {a b c:Int}:inB a b c=true↔(b≤a∧a≤c):=by simp [inB]
theorem l7 {a b c:Int}:inB a b c=false↔¬(b≤a∧a≤c):=by rw [←dA,Bool.not_eq_true]
theorem awr {p1:Int×Unit→Bool} {f1:Int×Unit→Bool×Unit} (hp1:∀a,p1 (a,())=true) (hf1:∀a,f1 (a,())=(inB a 0 65535,()))
  {p2:Int×Unit→Bool} {f2:Int×Unit→Int×Unit} (hp2:∀a,p2 (a,())=true) (hf2:∀a,f2 (a,())=(a%65536,())) (op a b:Int):
  aeb (std 0).al p1 f1 p2 f2 (op,a,b,()) (fun y=>y=(wdo op a b,())):=by
 dsimp only [aeb,Tup.q,Tup.o]
 simp (disch:=omega) only [RR,hp1,hf1,hp2,hf2,XG,XH,dA,l7]
 by_cases ha:(0≤a∧a≤65535)∧(0≤b∧b≤65535)
 ·have hm:0≤a*b∧a*b≤65535*65535:=⟨Int.mul_nonneg ha.1.1 ha.2.1,Int.mul_le_mul ha.1.2 ha.2.2 ha.2.1 (by omega)⟩
  rw [w64 (x:=a+b) (by omega) (by omega),w64 (x:=a-b) (by omega) (by omega),w64 (x:=a*b) (by omega) (by omega)]
  unfold wdo
  rw [if_pos ha]
  refine⟨fun h=>absurd h (by omega),fun _=>⟨fun h=> ?_,fun h=>⟨fun h1=> ?_,fun h1=>⟨fun h2=> ?_,fun h2=>⟨fun h3=> ?_,fun h3=>⟨fun h4=> ?_,fun h4=> ?_⟩⟩⟩⟩⟩⟩<;>(subst_vars;first | rfl | simp only [if_true,if_false, *])
 ·refine⟨fun h=> ?_,fun h=>absurd h ?_⟩
  ·unfold wdo;rw [if_neg ha]
  ·exact ha
def dG (n:Int):List aj:=if 1≤n∧n≤65535 then [⟨n,[]⟩]else []
theorem awt {p1:Int×Int×Int×Unit→Bool} {f1:Int×Int×Int×Unit→Bool×Unit} (hp1:∀a b c,p1 (a,b,c,())=true) (hf1:∀a b c,f1 (a,b,c,())=(inB a b c,())) (a:Int):
  adT (std 0).al p1 f1 (a,()) (fun y=>y=(dG a,())):=by
 dsimp only [adT,Tup.q,Tup.o]
 simp (disch:=omega) only [RR,hp1,hf1,dA,l7]
 unfold dG
 exact⟨fun h=>by rw [if_neg (by omega)],fun h=>by rw [if_pos (by omega)]⟩
def gK (n:Int):List aj:=if 0≤n∧n≤199 then [⟨1,[n]⟩]else []
theorem awu {p1:Int×Int×Int×Unit→Bool} {f1:Int×Int×Int×Unit→Bool×Unit} (hp1:∀a b c,p1 (a,b,c,())=true) (hf1:∀a b c,f1 (a,b,c,())=(inB a b c,())) (a:Int):
  adz (std 0).al p1 f1 (a,()) (fun y=>y=(gK a,())):=by
 dsimp only [adz,Tup.q,Tup.o]
 simp (disch:=omega) only [RR,hp1,hf1,dA,l7]
 unfold gK
 exact⟨fun h=>by rw [if_neg (by omega)],fun h=>by rw [if_pos (by omega)]⟩
noncomputable def bN (p:List aj):Int×Bool:=if bp (aI p)then(if p.length=0 then(0,true)else if p.length=1∧(p.getD 0 default).atoms.length=0 then((p.getD 0 default).bD,true)else(0,false))else(0,false)
theorem awv {p1:List aj×Unit→Bool} {f1:List aj×Unit→Bool×Unit} (hp1:∀a,Sh a→p1 (a,())=true) (hf1:∀a,Sh a→f1 (a,())=(bp (aI a),())) (a:List aj) (ha:Sh a):
  adU (std 0).al p1 f1 (a,()) (fun y=>y=((bN a).1,(bN a).2,())):=by
 dsimp only [adU,Tup.q,Tup.o]
 simp (disch:=omega) only [RR,hp1 a ha,hf1 a ha]
 unfold bN
 refine⟨fun h=> ?_,fun h=>⟨fun h1=> ?_,fun h1=>⟨by omega,by omega,fun h2=>⟨by omega,by omega,?_⟩,fun h2=> ?_⟩⟩⟩
 ·rw [if_neg (by simpa using h)]
 ·rw [if_pos h,if_pos (by omega)]
 ·have h3:=h2.2;rw [show Int.toNat 0=0 from rfl]at h3
  rw [if_pos h,if_neg (by omega),if_pos (show a.length=1∧(a.getD 0 default).atoms.length=0 by omega)];rfl
 ·rw [if_pos h,if_neg (by omega),if_neg]
  intro h3
  rw [decide_eq_true (by omega),Bool.true_and,decide_eq_false_iff_not]at h2
  apply h2;rw [show Int.toNat 0=0 from rfl];omega
theorem aiP (a:List Int) (ha:a.length≤1073741824):adG (std 0).al (a,()) (fun y=>y=(a,())):=by
 dsimp only [adG,Tup.q,Tup.o]
 simp (disch:=omega) only [RR]
 omega
theorem bL {α:Type} {l:List α} {i:Int} {d x:α} (h0:0≤i) (h:i<l.length) (e:x=l.getD i.toNat d):l.take i.toNat++ [x]=l.take (i+1).toNat:=by
 rw [e,getD_lt (by omega),show(i+1).toNat=i.toNat+1 by omega,List.take_succ_eq_append_getElem (by omega)]
theorem aww {p1:List Int×Unit→Bool} {f1:List Int×Unit→List Int×Unit} (hp1:∀a,a.length≤1073741824→p1 (a,())=true) (hf1:∀a,a.length≤1073741824→f1 (a,())=(a,())) (a:List aj) (ha:Sh a):
  adH (std 0).al p1 f1 (a,()) (fun y=>y=(a,())):=by
 have hlen:=ha.1
 dsimp only [adH,Tup.q,Tup.o]
 refine ak (fun(y:List aj×Int×Int×List aj×Unit)=>y.1=a∧y.2.1=a.length∧y.2.2.2.1=a.take y.2.2.1.toNat∧0≤y.2.2.1∧y.2.2.1≤a.length) (fun y=>(a.length-y.2.2.1).toNat) ⟨rfl,rfl,by simp,by simp,by simp⟩ ?_
 rintro⟨(l:List aj),(m:Int),(i:Int),(o:List aj),⟨⟩⟩ hI
 dsimp only at hI ⊢
 obtain⟨rfl,rfl,rfl,h1,h2⟩:=hI
 simp (disch:=first | omega | (have:=ha.at i.toNat;omega)) only [RR,hp1,hf1]
 have h3:=ha.at i.toNat
 refine⟨fun h4=>⟨by omega,by omega,?_,⟨bL h1 h4 rfl,by omega,by omega⟩,by omega⟩,fun h4=>by rw [List.take_of_length_le (by omega)]⟩
 have:=List.length_take_le' i.toNat l
 simp only [List.length_cons,List.length_nil];omega
def ShA (a:Atom):Prop:=Sh a.x∧Sh a.y
def ShT (t:List Atom):Prop:=t.length<1000000000∧∀a∈t,ShA a
theorem ShT.at {p:List Atom} (h:ShT p) (n:Nat):ShA (p.getD n default):=by
 by_cases h1:n<p.length
 ·rw [getD_lt h1];exact h.2 _ (List.getElem_mem _)
 ·simp only [List.getD,List.getElem?_eq_none (by omega:p.length≤n)]
  refine⟨⟨by decide,fun m hm=> ?_⟩,⟨by decide,fun m hm=> ?_⟩⟩<;>exact absurd hm (by simp [default,instInhabitedAtom.default])
theorem awx {p1:List aj×Unit→Bool} {f1:List aj×Unit→List aj×Unit} (hp1:∀a,Sh a→p1 (a,())=true) (hf1:∀a,Sh a→f1 (a,())=(a,())) (a:List Atom) (ha:ShT a):
  adK (std 0).al p1 f1 (a,()) (fun y=>y=(a,())):=by
 have hlen:=ha.1
 dsimp only [adK,Tup.q,Tup.o]
 refine ak (fun(y:List Atom×Int×Int×List Atom×Unit)=>y.1=a∧y.2.1=a.length∧y.2.2.2.1=a.take y.2.2.1.toNat∧0≤y.2.2.1∧y.2.2.1≤a.length) (fun y=>(a.length-y.2.2.1).toNat) ⟨rfl,rfl,by simp,by simp,by simp⟩ ?_
 rintro⟨(l:List Atom),(m:Int),(i:Int),(o:List Atom),⟨⟩⟩ hI
 dsimp only at hI ⊢
 obtain⟨rfl,rfl,rfl,h1,h2⟩:=hI
 simp (disch:=omega) only [RR,hp1 _ (ha.at _).1,hf1 _ (ha.at _).1,hp1 _ (ha.at _).2,hf1 _ (ha.at _).2]
 refine⟨fun h4=>⟨by omega,by omega,?_,⟨bL h1 h4 rfl,by omega,by omega⟩,by omega⟩,fun h4=>by rw [List.take_of_length_le (by omega)]⟩
 have:=List.length_take_le' i.toNat l
 simp only [List.length_cons,List.length_nil];omega
theorem awy {p4:List Int×List Int×Unit→Bool} {f4:List Int×List Int×Unit→Int×Unit} (hp4:∀a b,a.length<1000000000→p4 (a,b,())=true) (hf4:∀a b,a.length<1000000000→f4 (a,b,())=(dR a b,())) (a b:aj) (ha:a.atoms.length<1000000000):
  adW (std 0).al p4 f4 (a,b,()) (fun y=>y=(dR a.atoms b.atoms,())):=by
 dsimp only [adW,Tup.q,Tup.o]
 simp (disch:=omega) only [RR,hp4 a.atoms b.atoms ha,hf4 a.atoms b.atoms ha]
theorem awz (a:List Atom):ads (std 0).al (a,()) (fun y=>y=(a,())):=by
 dsimp only [ads,Tup.q,Tup.o]
 simp (disch:=omega) only [RR]
 refine⟨by omega,by omega,by omega,?_⟩
 rw [List.take_of_length_le (by omega)];rfl
def pq (a b:Atom):Bool:=decide (a.kind=b.kind)&&decide (a.k=b.k)&&decide (fQ a.x b.x=0)&&decide (fQ a.y b.y=0)
theorem awC {p1:List aj×List aj×Unit→Bool} {f1:List aj×List aj×Unit→Bool×Unit} (hp1:∀a b,Sh a→p1 (a,b,())=true) (hf1:∀a b,Sh a→f1 (a,b,())=(decide (fQ a b=0),())) (a b:Atom) (ha:ShA a):
  adp (std 0).al p1 f1 (a,b,()) (fun y=>y=(pq a b,())):=by
 dsimp only [adp,Tup.q,Tup.o]
 simp (disch:=omega) only [RR,hp1 a.x b.x ha.1,hf1 a.x b.x ha.1,hp1 a.y b.y ha.2,hf1 a.y b.y ha.2]
 rfl
theorem awD {p1:Atom×Atom×Unit→Bool} {f1:Atom×Atom×Unit→Bool×Unit} (hp1:∀a b,ShA a→p1 (a,b,())=true) (hf1:∀a b,ShA a→f1 (a,b,())=(pq a b,())) (a b:Atom) (hb:ShA b):
  adq (std 0).al p1 f1 (a,b,()) (fun y=>y=(pq b a,b,())):=by
 dsimp only [adq,Tup.q,Tup.o]
 simp (disch:=omega) only [RR,hp1 b a hb,hf1 b a hb]
noncomputable def idxOf (n:Int) (G:Int→Prop):Int:= @dite _ (∃r,Idx n G r) (Classical.propDecidable _) (fun h=>Classical.choose h) (fun _=> -1)
theorem Idx.uniq {n:Int} {G:Int→Prop} {r s:Int} (h:Idx n G r) (h':Idx n G s):r=s:=by
 rcases h with⟨h1,h2⟩ | ⟨h1,h2,h3,h4⟩<;>rcases h' with⟨g1,g2⟩ | ⟨g1,g2,g3,g4⟩
 ·omega
 ·exact absurd g3 (h2 s g1 g2)
 ·exact absurd h3 (g2 r h1 h2)
 ·by_cases h5:r<s
  ·exact absurd h3 (g4 r h1 h5)
  ·by_cases h6:s<r
   ·exact absurd g3 (h4 s g1 h6)
   ·omega
theorem Idx.eq {n:Int} {G:Int→Prop} {r:Int} (h:Idx n G r):r=idxOf n G:=by
 unfold idxOf
 have he:∃r,Idx n G r:=⟨r,h⟩
 rw [dif_pos he];exact h.uniq (Classical.choose_spec he)
theorem aoF {p:Atom×Atom×Unit→Bool} {f:Atom×Atom×Unit→Bool×Atom×Unit} (hp:∀a b,ShA b→p (a,b,())=true) (hf:∀a b,ShA b→f (a,b,())=(pq b a,b,())) (a:List Atom) (b:Atom) (ha:a.length<1000000000) (hb:ShA b):
  V8 (std 0).al p f (a,b,()) (fun y=>y=(idxOf a.length (fun i=>pq b (a.getD i.toNat default)=true),b,())):=by
 dsimp only [V8,Tup.q,Tup.o]
 refine ak (fun(y:List Atom×Int×Int×Atom×Unit)=>y.1=a∧y.2.1=a.length∧y.2.2.2.1=b∧0≤y.2.2.1∧y.2.2.1≤a.length∧All y.2.2.1 (fun i=>¬pq b (a.getD i.toNat default)=true)) (fun y=>(a.length-y.2.2.1).toNat) ⟨rfl,rfl,rfl,by simp,by simp,All.zero⟩ ?_
 rintro⟨(l:List Atom),(m:Int),(i:Int),(b':Atom),⟨⟩⟩ hI
 dsimp only at hI ⊢
 obtain⟨rfl,rfl,rfl,h1,h2,h3⟩:=hI
 simp (disch:=omega) only [RR,hp _ _ hb,hf _ _ hb]
 refine⟨fun h4=>⟨by omega,by omega,fun h5=> ?_,fun h5=>⟨⟨by omega,by omega,h3.snoc (by simp only [h5];simp)⟩,by omega⟩⟩,fun h4=> ?_⟩
 ·rw [←Idx.eq (Or.inr ⟨by omega,by omega,h5,h3⟩)]
 ·rw [←Idx.eq (Or.inl ⟨rfl,h3.le (by omega)⟩)]
noncomputable def uD (t:List Atom) (a:Atom):Int:=idxOf t.length (fun i=>pq a (t.getD i.toNat default)=true)
theorem awE {p:List Atom×Atom×Unit→Bool} {f:List Atom×Atom×Unit→Int×Atom×Unit} (hp:∀a b,a.length<1000000000→ShA b→p (a,b,())=true)
  (hf:∀a b,a.length<1000000000→ShA b→f (a,b,())=(idxOf a.length (fun i=>pq b (a.getD i.toNat default)=true),b,())) (a:List Atom) (b:Atom) (ha:a.length<1000000000) (hb:ShA b):
  adr (std 0).al p f (a,b,()) (fun y=>y=(uD a b,())):=by
 dsimp only [adr,Tup.q,Tup.o]
 simp (disch:=omega) only [RR,hp a b ha hb,hf a b ha hb]
 rfl
def iD (a:Atom) (n:Int):Prop:=if a.kind=4 then(1≤a.k∧a.k≤5)∧aI a.x∧aI a.y∧aX a.x n∧aX a.y n else
 (a.x=[]∧a.y=[])∧((a.kind=1∧0≤a.k∧a.k≤3)∨(a.kind=2∨a.kind=3)∧0≤a.k∧a.k≤199)
theorem awF {p1:Int×Int×Int×Unit→Bool} {f1:Int×Int×Int×Unit→Bool×Unit} (hp1:∀a b c,p1 (a,b,c,())=true) (hf1:∀a b c,f1 (a,b,c,())=(inB a b c,()))
  {p2:Int×Unit→Bool} {f2:Int×Unit→Bool×Unit} (hp2:∀a,p2 (a,())=true) (hf2:∀a,f2 (a,())=(inB a 1 5,()))
  {p3:List aj×Int×Unit→Bool} {f3:List aj×Int×Unit→Bool×Unit} (hp3:∀a n,Sh a→p3 (a,n,())=true) (hf3:∀a n,Sh a→f3 (a,n,())=(bp (aX a n),()))
  {p4:List aj×Unit→Bool} {f4:List aj×Unit→Bool×Unit} (hp4:∀a,Sh a→p4 (a,())=true) (hf4:∀a,Sh a→f4 (a,())=(bp (aI a),()))
  {p5:Int×Unit→Bool} {f5:Int×Unit→Bool×Unit} (hp5:∀a,p5 (a,())=true) (hf5:∀a,f5 (a,())=(inB a 0 3,())) (a:Atom) (n:Int) (ha:ShA a):
  adl (std 0).al p1 f1 p2 f2 p3 f3 p4 f4 p5 f5 (a,n,()) (fun y=>y=(bp (iD a n),())):=by
 obtain⟨hx,hy⟩:=ha
 have hx1:=hx.1
 have hy1:=hy.1
 dsimp only [adl,Tup.q,Tup.o]
 simp (disch:=omega) only [RR,hp1,hf1,hp2,hf2,hp3 a.x n hx,hf3 a.x n hx,hp3 a.y n hy,hf3 a.y n hy,hp4 a.x hx,hf4 a.x hx,hp4 a.y hy,hf4 a.y hy,hp5,hf5]
 unfold iD
 refine⟨fun h=> ?_,fun h=>⟨fun h1=> ?_,fun h1=> ?_⟩⟩
 ·rw [if_pos h]
  congr 1
  rw [Bool.eq_iff_iff,aT]
  simp only [Bool.and_eq_true,dA,aT,and_assoc]
 ·rw [if_neg h,dD]
  rintro⟨⟨h2,h3⟩, -⟩
  rw [h2,h3]at h1;exact absurd h1 (by simp)
 ·rw [if_neg h]
  have h2:a.x=[]:=List.eq_nil_of_length_eq_zero (by omega)
  have h3:a.y=[]:=List.eq_nil_of_length_eq_zero (by omega)
  congr 1
  rw [Bool.eq_iff_iff,aT]
  simp only [Bool.or_eq_true,Bool.and_eq_true,decide_eq_true_eq,dA,h2,h3,true_and]
def aD (t:List Atom):Prop:=All t.length (fun i=>iD (t.getD i.toNat default) i∧uD t (t.getD i.toNat default)=i)∧t.length≤200
theorem awG {p1:Atom×Int×Unit→Bool} {f1:Atom×Int×Unit→Bool×Unit} (hp1:∀a n,ShA a→p1 (a,n,())=true) (hf1:∀a n,ShA a→f1 (a,n,())=(bp (iD a n),()))
  {p2:List Atom×Atom×Unit→Bool} {f2:List Atom×Atom×Unit→Int×Unit} (hp2:∀a b,a.length<1000000000→ShA b→p2 (a,b,())=true) (hf2:∀a b,a.length<1000000000→ShA b→f2 (a,b,())=(uD a b,())) (a:List Atom) (ha:ShT a):
  adQ (std 0).al p1 f1 p2 f2 (a,()) (fun y=>y=(bp (aD a),())):=by
 have hlen:=ha.1
 dsimp only [adQ,Tup.q,Tup.o]
 refine ak (fun(y:List Atom×Int×Int×List Atom×Unit)=>y.1=a∧y.2.1=a.length∧y.2.2.2.1=a∧0≤y.2.2.1∧y.2.2.1≤a.length∧All y.2.2.1 (fun i=>iD (a.getD i.toNat default) i∧uD a (a.getD i.toNat default)=i)) (fun y=>(a.length-y.2.2.1).toNat) ⟨rfl,rfl,rfl,by simp,by simp,All.zero⟩ ?_
 rintro⟨(l:List Atom),(m:Int),(i:Int),(b':List Atom),⟨⟩⟩ hI
 dsimp only at hI ⊢
 obtain⟨rfl,rfl,rfl,h1,h2,h3⟩:=hI
 simp (disch:=omega) only [RR,hp1 _ _ (ha.at _),hf1 _ _ (ha.at _),hp2 _ _ ha.1 (ha.at _),hf2 _ _ ha.1 (ha.at _),aT,jv]
 refine⟨fun h4=>⟨by omega,by omega,fun h5=> ?_,fun h5=>⟨⟨by omega,by omega,h3.snoc h5⟩,by omega⟩⟩,fun h4=> ?_⟩
 ·rw [dD (fun h=> ?_)]
  have:=h.1 i h1 h4
  rcases h5 with h5 | h5
  ·exact h5 this.1
  ·exact h5 this.2
 ·by_cases h5:b'.length≤200
  ·rw [dz (show aD b' from⟨h3.le (by omega),h5⟩),decide_eq_true (by omega)]
  ·rw [dD (show¬aD b' from fun h=>h5 h.2),decide_eq_false (by omega)]
noncomputable def bG (t:List Atom) (a:Atom):List Atom×Int:=if 0≤uD t a then(t,uD t a)else @ite _ (¬iD a t.length∨t.length=200) (Classical.propDecidable _) (t, -1) (t++ [a],(t.length:Int))
theorem awH {p1:Atom×Int×Unit→Bool} {f1:Atom×Int×Unit→Bool×Unit} (hp1:∀a n,ShA a→p1 (a,n,())=true) (hf1:∀a n,ShA a→f1 (a,n,())=(bp (iD a n),()))
  {p2:List Atom×Atom×Unit→Bool} {f2:List Atom×Atom×Unit→Int×Unit} (hp2:∀a b,a.length<1000000000→ShA b→p2 (a,b,())=true) (hf2:∀a b,a.length<1000000000→ShA b→f2 (a,b,())=(uD a b,()))
  {p3:List Atom×Unit→Bool} {f3:List Atom×Unit→List Atom×Unit} (hp3:∀a,p3 (a,())=true) (hf3:∀a,f3 (a,())=(a,())) (t:List Atom) (a:Atom) (ht:t.length<1000000000) (ha:ShA a):
  adt (std 0).al p1 f1 p2 f2 p3 f3 (t,a,()) (fun y=>y=((bG t a).1,(bG t a).2,())):=by
 dsimp only [adt,Tup.q,Tup.o]
 simp (disch:=omega) only [RR,hp1 a t.length ha,hf1 a t.length ha,hp2 t a ht ha,hf2 t a ht ha,hp3,hf3,aT,jv]
 unfold bG
 refine⟨fun h=>by rw [if_pos h],fun h=>⟨fun h1=> ?_,fun h1=>⟨?_,?_,?_⟩⟩⟩
 ·rw [if_neg h,if_pos (by rcases h1 with h1 | h1;exact Or.inl h1;exact Or.inr (by omega))]
 ·exact Or.inl (by simp)
 ·simp only [List.length_cons,List.length_nil];omega
 ·rw [if_neg h,if_neg (by rintro(h2 | h2);exact h2 h1.1;exact absurd h2 (by omega))]
end Go.TX.F
namespace Go.TX.F
open Go Go.AE Go.TX
theorem MJ (a b:Int):gX b a= -gX a b:=by unfold gX;repeat' split<;>omega
theorem jm {a b:Int}:gX a b=0↔a=b:=by unfold gX;constructor<;>intro h<;>(repeat' split at*)<;>omega
theorem MK:∀a b:List Int,kR b a= -kR a b
 | [],[]=>rfl | [],_::_=>rfl | _::_,[]=>rfl
 | a::az,b::bs=>by
  simp only [kR,MJ a b,MK az bs]
  split<;>split<;>omega
theorem ML:∀ {a b:List Int},kR a b=0→a=b
 | [],[],_=>rfl | [],_::_,h=>by simp [kR]at h
 | _::_,[],h=>by simp [kR]at h
 | a::az,b::bs,h=>by
  simp only [kR]at h
  split at h
  ·exact absurd h (by assumption)
  ·rename_i h1
   rw [jm.1 (Classical.not_not.1 h1),ML h]
theorem MN:∀a:List Int,kR a a=0
 | []=>rfl
 | a::az=>by simp only [kR,show gX a a=0 from jm.2 rfl];simp [MN az]
theorem KZ:∀ {a b c:List Int},kR a b≤0→kR b c≤0→kR a c≤0
 | [],_,[],_,_=>by simp [kR]
 | [],_,_::_,_,_=>by simp [kR]
 | _::_,[],_,h,_=>by simp [kR]at h
 | _::_,_::_,[],_,h=>by simp [kR]at h
 | a::az,b::bs,c::cs,h1,h2=>by
  have ih:= @KZ az bs cs
  simp only [kR]at h1 h2 ⊢
  unfold gX at h1 h2 ⊢
  repeat' split at h1
  all_goals (repeat' split at h2)
  all_goals (repeat' split)
  all_goals omega
theorem rV (a b:List Int):dR b a= -dR a b:=by
 unfold dR or2;rw [MJ,MK];repeat' split<;>omega
theorem kr {a b:List Int}:dR a b=0↔a=b:=by
 constructor
 ·intro h;unfold dR or2 at h
  split at h
  ·exact absurd h (by assumption)
  ·exact ML h
 ·rintro rfl;unfold dR or2;rw [show gX (a.length:Int) a.length=0 from jm.2 rfl,MN];rfl
theorem AX {a b c:List Int} (h1:dR a b≤0) (h2:dR b c≤0):dR a c≤0:=by
 have ih:= @KZ a b c
 unfold dR or2 gX at*
 repeat' split at h1
 all_goals (repeat' split at h2)
 all_goals (repeat' split)
 all_goals omega
def le (x y:aj):Prop:=dR x.atoms y.atoms≤0
theorem le.trans {x y z:aj} (h1:le x y) (h2:le y z):le x z:=AX h1 h2
theorem rW {x y:aj} (h:¬dR y.atoms x.atoms<0):le x y:=by unfold le;rw [rV];omega
theorem le_of_lt {x y:aj} (h:dR x.atoms y.atoms<0):le x y:=by unfold le;omega
theorem le_refl (x:aj):le x x:=by unfold le;rw [kr.2 rfl];omega
theorem dW {x y z:aj} (h1:le x y) (h2:dR y.atoms z.atoms<0):dR x.atoms z.atoms<0:=by
 have h3:=AX h1 (le_of_lt h2)
 by_cases h:dR x.atoms z.atoms=0
 ·have e:=kr.1 h
  unfold le at h1;rw [e,rV]at h1;omega
 ·omega
theorem ku {x y z:aj} (h1:dR x.atoms y.atoms<0) (h2:le y z):dR x.atoms z.atoms<0:=by
 have h3:=AX (le_of_lt h1) h2
 by_cases h:dR x.atoms z.atoms=0
 ·have e:=kr.1 h
  unfold le at h2;rw [←e,rV]at h2;omega
 ·omega
theorem Od (g:aj→Int) (x:aj):∀(d:List aj) (n:Nat) (h:n<d.length),((d.set n x).map g).sum=(d.map g).sum-g d[n]+g x
 | [],_,h=>absurd h (by simp)
 | a::d,0,h=>by simp;omega
 | a::d,n+1,h=>by
  have:=Od g x d n (by simpa using h)
  simp only [List.set_cons_succ,List.map_cons,List.sum_cons,List.getElem_cons_succ];omega
structure Sm (d d':List aj):Prop where
 len:d'.length=d.length
 sum:∀g:aj→Int,(d'.map g).sum=(d.map g).sum
theorem Sm.refl (d:List aj):Sm d d:=⟨rfl,fun _=>rfl⟩
theorem Sm.trans {a b c:List aj} (h1:Sm a b) (h2:Sm b c):Sm a c:=⟨h2.1.trans h1.1,fun g=>(h2.2 g).trans (h1.2 g)⟩
theorem Oe (x:aj):∀d:List aj,0≤(d.map (fun y=>if y=x then(1:Int)else 0)).sum∧(0< (d.map (fun y=>if y=x then(1:Int)else 0)).sum↔x∈d)
 | []=>by simp
 | a::d=>by
  have:=Oe x d
  simp only [List.map_cons,List.sum_cons,List.mem_cons]
  by_cases h:a=x
  ·rw [if_pos h];refine⟨by omega,⟨fun _=>Or.inl h.symm,fun _=>by omega⟩⟩
  ·rw [if_neg h];refine⟨by omega,⟨fun h2=>Or.inr (this.2.1 (by omega)),fun h2=> ?_⟩⟩
   rcases h2 with h2 | h2
   ·exact absurd h2.symm h
   ·have:=this.2.2 h2;omega
theorem Sm.mem {a b:List aj} (h:Sm a b) {x:aj} (hx:x∈b):x∈a:=by
 rw [←(Oe x a).2,←h.2];exact(Oe x b).2.2 hx
theorem Sm.sh {a b:List aj} (h:Sm a b) (hs:Sh a):Sh b:=⟨by have:=hs.1;have:=h.1;omega,fun m hm=>hs.2 m (h.mem hm)⟩
def swp (d:List aj) (i j:Int):List aj:=(d.set i.toNat ((d).getD (j).toNat default)).set j.toNat ((d).getD (i).toNat default)
theorem ahO (d:List aj) (i j:Int):(swp d i j).length=d.length:=by simp [swp]
theorem at_set {d:List aj} {i j:Int} {x:aj} (h1:0≤i) (h2:i<d.length) (h3:0≤j):((d.set i.toNat x).getD (j).toNat default)=if j=i then x else((d).getD (j).toNat default):=by
 simp only [List.getD]
 by_cases h:j=i
 ·subst h;rw [if_pos rfl,List.getElem?_set_self (by omega)];rfl
 ·rw [if_neg h,List.getElem?_set_ne (by omega)]
theorem wS {d:List aj} {i j k:Int} (h1:0≤i) (h2:i<d.length) (h3:0≤j) (h4:j<d.length) (h5:0≤k):((swp d i j).getD (k).toNat default)=if k=j then((d).getD (i).toNat default)else if k=i then((d).getD (j).toNat default)else((d).getD (k).toNat default):=by
 unfold swp
 rw [at_set h3 (by simp;omega) h5,at_set h1 h2 h5]
theorem Og {d:List aj} {i j:Int} (h1:0≤i) (h2:i<d.length) (h3:0≤j) (h4:j<d.length):Sm d (swp d i j):=by
 refine⟨ahO d i j,fun g=> ?_⟩
 unfold swp
 rw [getD_lt (show i.toNat<d.length by omega),getD_lt (show j.toNat<d.length by omega),Od g _ _ _ (by simp;omega),Od g _ _ _ (by omega),List.getElem_set]
 split
 ·rename_i h;have:i=j:=by omega
  subst this;omega
 ·omega
def Swp (d d':List aj) (a b n:Int):Prop:=Sm d d'∧∀k,0≤k→((d').getD (k).toNat default)=if a≤k∧k<a+n then((d).getD (k+(b-a)).toNat default)else if b≤k∧k<b+n then((d).getD (k- (b-a)).toNat default)else((d).getD (k).toNat default)
theorem ae0 (a b n:Int) (d:List aj) (hl:d.length<1000000000) (h1:0≤a) (h2:0≤n) (h3:a+n≤b) (h4:b+n≤d.length):
  Wd (std 0).al (a,b,n,d,()) (fun y=>Swp d y.1 a b n):=by
 dsimp only [Wd,Tup.q,Tup.o]
 refine ak (fun(y:Int×Int×Int×Int×List aj×Unit)=>y.1=a∧y.2.1=b∧y.2.2.1=n∧0≤y.2.2.2.1∧y.2.2.2.1≤n∧Swp d y.2.2.2.2.1 a b y.2.2.2.1) (fun y=>(n-y.2.2.2.1).toNat)
  ⟨rfl,rfl,rfl,by simp,by simp;omega,Sm.refl d,fun k hk=>by dsimp only;rw [if_neg (by omega),if_neg (by omega)]⟩ ?_
 rintro⟨(a':Int),(b':Int),(n':Int),(i:Int),(e:List aj),⟨⟩⟩ hI
 dsimp only at hI ⊢
 obtain⟨rfl,rfl,rfl,h5,h6,h7,h8⟩:=hI
 have hle:=h7.1
 simp (disch:=omega) only [RR,List.length_set]
 refine⟨fun h9=> ?_,fun h9=> ?_⟩
 ·have e1:(e.set (a'+i).toNat ((e).getD (b'+i).toNat default)).set (b'+i).toNat ((e).getD (a'+i).toNat default)=swp e (a'+i) (b'+i):=rfl
  rw [e1]
  refine⟨by omega,by omega,by omega,by omega,by omega,by omega,by omega,by omega,by omega,by omega,by omega,by omega,by omega,by omega,by omega,by omega,⟨by omega,by omega,h7.trans (Og (by omega) (by omega) (by omega) (by omega)),fun k hk=> ?_⟩,by omega⟩
  rw [wS (by omega) (by omega) (by omega) (by omega) hk]
  rw [h8 _ (by omega),h8 _ (by omega),h8 _ hk]
  repeat' split
  all_goals first | rfl | (exfalso;omega) | (congr 2;omega)
 ·have:i=n':=by omega
  subst this;exact⟨h7,h8⟩
end Go.TX.F
namespace Go.TX.F
open Go Go.AE Go.TX
def Rot (d d':List aj) (a m b:Int):Prop:=Sm d d'∧∀k,0≤k→((d').getD (k).toNat default)=if a≤k∧k<a+(b-m)then((d).getD (k+(m-a)).toNat default)else if a+(b-m)≤k∧k<b then((d).getD (k- (b-m)).toNat default)else((d).getD (k).toNat default)
theorem aoG {p:Int×Int×Int×List aj×Unit→Bool} {f:Int×Int×Int×List aj×Unit→List aj×Unit}
  (hp:∀(a b n:Int) (d:List aj),d.length<1000000000→0≤a→0≤n→a+n≤b→b+n≤d.length→p (a,b,n,d,())=true) (hf:∀(a b n:Int) (d:List aj),d.length<1000000000→0≤a→0≤n→a+n≤b→b+n≤d.length→Swp d (f (a,b,n,d,())).1 a b n)
  (a m b:Int) (d:List aj) (hl:d.length<1000000000) (h1:0≤a) (h2:a<m) (h3:m<b) (h4:b≤d.length):
  Wh (std 0).al p f (a,m,b,d,()) (fun y=>Rot d y.1 a m b):=by
 dsimp only [Wh,Tup.q,Tup.o]
 simp (disch:=omega) only [RR]
 refine ak (fun(y:Int×Int×Int×List aj×Unit)=>y.1=m∧0<y.2.1∧0<y.2.2.1∧a≤m-y.2.1∧m+y.2.2.1≤b∧Sm d y.2.2.2.1∧
   ∀k,0≤k→(if a≤k∧k<a+(b-m)then((d).getD (k+(m-a)).toNat default)else if a+(b-m)≤k∧k<b then((d).getD (k- (b-m)).toNat default)else((d).getD (k).toNat default))
    =(if m-y.2.1≤k∧k<m-y.2.1+y.2.2.1 then((y.2.2.2.1).getD (k+y.2.1).toNat default)else if m-y.2.1+y.2.2.1≤k∧k<m+y.2.2.1 then((y.2.2.2.1).getD (k-y.2.2.1).toNat default)else((y.2.2.2.1).getD (k).toNat default))) (fun y=>(y.2.1+y.2.2.1).toNat)
  ⟨rfl,by simp;omega,by simp;omega,by simp;omega,by simp;omega,Sm.refl d,fun k hk=>by
   dsimp only;rw [show m- (m-a)=a by omega,show m+(b-m)=b by omega]⟩ ?_
 rintro⟨(m':Int),(i:Int),(j:Int),(e:List aj),⟨⟩⟩ hI
 dsimp only at hI ⊢
 obtain⟨rfl,h5,h6,h7,h8,h9,h10⟩:=hI
 have hle:=h9.1
 simp (disch:=omega) only [RR]
 refine⟨fun h11=>⟨fun h12=> ?_,fun h12=> ?_⟩,fun h11=> ?_⟩
 ·obtain⟨s1,s2⟩:=hf (m'-i) m' j e (by omega) (by omega) (by omega) (by omega) (by omega)
  refine⟨hp _ _ _ _ (by omega) (by omega) (by omega) (by omega) (by omega),⟨by omega,by omega,by omega,by omega,h9.trans s1,fun k hk=> ?_⟩,by omega⟩
  rw [h10 k hk]
  generalize (f (m'-i,m',j,e,())).1=e' at s1 s2 ⊢
  by_cases c1:m'-i≤k∧k<m'-i+j
  ·rw [if_pos c1,if_neg (by omega),if_neg (by omega),s2 k hk,if_pos c1];congr 2;omega
  ·rw [if_neg c1]
   by_cases c2:m'-i+j≤k∧k<m'+j
   ·rw [if_pos c2]
    by_cases c3:m'- (i-j)≤k∧k<m'- (i-j)+j
    ·rw [if_pos c3,s2 _ (by omega),if_neg (by omega),if_pos (by omega)];congr 2;omega
    ·rw [if_neg c3,if_pos (by omega),s2 _ (by omega),if_neg (by omega),if_neg (by omega)]
   ·rw [if_neg c2,if_neg (by omega),if_neg (by omega),s2 _ hk,if_neg (by omega),if_neg (by omega)]
 ·obtain⟨s1,s2⟩:=hf (m'-i) (m'+j-i) i e (by omega) (by omega) (by omega) (by omega) (by omega)
  refine⟨hp _ _ _ _ (by omega) (by omega) (by omega) (by omega) (by omega),⟨by omega,by omega,by omega,by omega,h9.trans s1,fun k hk=> ?_⟩,by omega⟩
  rw [h10 k hk]
  generalize (f (m'-i,m'+j-i,i,e,())).1=e' at s1 s2 ⊢
  by_cases c1:m'-i≤k∧k<m'-i+j
  ·rw [if_pos c1]
   by_cases c3:k<m'-i+(j-i)
   ·rw [if_pos (by omega),s2 _ (by omega)]
    by_cases c4:k<m'
    ·by_cases c5:k+i<m'+j-i
     ·rw [if_neg (by omega),if_neg (by omega)]
     ·exfalso;omega
    ·by_cases c5:k+i<m'+j-i
     ·rw [if_neg (by omega),if_neg (by omega)]
     ·exfalso;omega
   ·by_cases c6:k<m'
    ·rw [if_neg (by omega),if_pos (by omega),s2 _ (by omega),if_pos (by omega)];congr 2;omega
    ·rw [if_neg (by omega),if_pos (by omega),s2 _ (by omega)]
     by_cases c7:k- (j-i)<m'
     ·rw [if_pos (by omega)];congr 2;omega
     ·exfalso;omega
  ·rw [if_neg c1]
   by_cases c2:m'-i+j≤k∧k<m'+j
   ·rw [if_pos c2,if_neg (by omega),if_neg (by omega),s2 _ hk,if_neg (by omega),if_pos (by omega)];congr 2;omega
   ·rw [if_neg c2,if_neg (by omega),if_neg (by omega),s2 _ hk,if_neg (by omega),if_neg (by omega)]
 ·have hij:i=j:=by omega
  subst hij
  obtain⟨s1,s2⟩:=hf (m'-i) m' i e (by omega) (by omega) (by omega) (by omega) (by omega)
  refine⟨hp _ _ _ _ (by omega) (by omega) (by omega) (by omega) (by omega),h9.trans s1,fun k hk=> ?_⟩
  rw [h10 k hk,s2 k hk]
  repeat' split
  all_goals first | rfl | (exfalso;omega) | (congr 2;omega)
def mM (d:List aj) (a b:Int):Prop:=∀p q,a≤p→p≤q→q<b→le ((d).getD (p).toNat default) ((d).getD (q).toNat default)
def Out (d d':List aj) (a b:Int):Prop:=∀k,0≤k→(k<a∨b≤k)→((d').getD (k).toNat default)=((d).getD (k).toNat default)
theorem aoH {p:aj×aj×Unit→Bool} {f:aj×aj×Unit→Int×Unit} (hp:∀x y,x.atoms.length<1000000000→p (x,y,())=true) (hf:∀x y,x.atoms.length<1000000000→f (x,y,())=(dR x.atoms y.atoms,()))
  (a b:Int) (d:List aj) (hd:Sh d) (h1:0≤a) (h2:a≤b) (h3:b≤d.length):
  V9 (std 0).al p f (a,b,d,()) (fun y=>Sm d y.1∧Out d y.1 a b∧mM y.1 a b):=by
 have hlen:=hd.1
 dsimp only [V9,Tup.q,Tup.o]
 simp (disch:=omega) only [RR]
 refine ak (fun(y:Int×Int×Int×List aj×Unit)=>y.1=a∧y.2.1=b∧a+1≤y.2.2.1∧(y.2.2.1≤b∨y.2.2.1=a+1)∧Sm d y.2.2.2.1∧Out d y.2.2.2.1 a b∧mM y.2.2.2.1 a y.2.2.1) (fun y=>(b-y.2.2.1).toNat)
  ⟨rfl,rfl,by simp,Or.inr rfl,Sm.refl d,fun k _ _=>rfl,fun p q h1 h2 h3=>by dsimp only at h3;rw [show p=q by omega];exact le_refl _⟩ ?_
 rintro⟨(a':Int),(b':Int),(i:Int),(e:List aj),⟨⟩⟩ hI
 dsimp only at hI ⊢
 obtain⟨rfl,rfl,h4,h5,h6,h7,h8⟩:=hI
 have hle:=h6.1
 simp (disch:=omega) only [RR]
 refine⟨fun h9=> ?_,fun h9=>⟨h6,h7,fun p q g1 g2 g3=>h8 p q g1 g2 (by omega)⟩⟩
 refine ak (fun(y:Int×Int×Int×Int×List aj×Unit)=>y.1=a'∧y.2.1=b'∧y.2.2.1=i∧a'≤y.2.2.2.1∧y.2.2.2.1≤i∧Sm d y.2.2.2.2.1∧Out d y.2.2.2.2.1 a' b'
   ∧(∀p q,a'≤p→p≤q→q≤i→p≠y.2.2.2.1→q≠y.2.2.2.1→le ((y.2.2.2.2.1).getD (p).toNat default) ((y.2.2.2.2.1).getD (q).toNat default))∧(∀q,y.2.2.2.1<q→q≤i→le ((y.2.2.2.2.1).getD (y.2.2.2.1).toNat default) ((y.2.2.2.2.1).getD (q).toNat default))) (fun y=>y.2.2.2.1.toNat)
  ⟨rfl,rfl,rfl,by simp;omega,by simp,h6,h7,fun p q g1 g2 g3 g4 g5=>h8 p q g1 g2 (by dsimp only at g3 g5;omega),fun q g1 g2=>by dsimp only at g1;omega⟩ ?_
 rintro⟨(a'':Int),(b'':Int),(i':Int),(j:Int),(e':List aj),⟨⟩⟩ hI
 dsimp only at hI ⊢
 obtain⟨rfl,rfl,rfl,h10,h11,h12,h13,h14,h15⟩:=hI
 have hle':=h12.1
 have hs:=h12.sh hd
 simp (disch:=omega) only [RR,List.length_set,hp _ _ (hs.at _),hf _ _ (hs.at _)]
 have e1:(e'.set j.toNat ((e').getD (j-1).toNat default)).set (j-1).toNat ((e').getD (j).toNat default)=swp e' j (j-1):=rfl
 rw [e1]
 repeat' (refine And.intro ?_ ?_)
 all_goals try omega
 ·intro ⟨g1,g2⟩
  repeat' (refine And.intro ?_ ?_)
  all_goals try omega
  ·exact h12.trans (Og (by omega) (by omega) (by omega) (by omega))
  ·intro k hk hk2
   rw [wS (by omega) (by omega) (by omega) (by omega) hk,if_neg (by omega),if_neg (by omega)]
   exact h13 k hk hk2
  ·intro p q k1 k2 k3 k4 k5
   rw [wS (by omega) (by omega) (by omega) (by omega) (by omega),if_neg k4,wS (by omega) (by omega) (by omega) (by omega) (by omega),if_neg k5]
   by_cases c1:p=j
   ·rw [if_pos c1]
    by_cases c2:q=j
    ·rw [if_pos c2];exact le_refl _
    ·rw [if_neg c2];exact h14 _ _ (by omega) (by omega) (by omega) (by omega) (by omega)
   ·rw [if_neg c1]
    by_cases c2:q=j
    ·rw [if_pos c2];exact h14 _ _ (by omega) (by omega) (by omega) (by omega) (by omega)
    ·rw [if_neg c2];exact h14 _ _ (by omega) (by omega) (by omega) (by omega) (by omega)
  ·intro q k1 k2
   rw [wS (by omega) (by omega) (by omega) (by omega) (by omega),if_pos rfl,wS (by omega) (by omega) (by omega) (by omega) (by omega),if_neg (by omega)]
   by_cases c2:q=j
   ·rw [if_pos c2];exact le_of_lt g2
   ·rw [if_neg c2];exact h15 q (by omega) k2
 ·intro g
  refine⟨⟨by omega,by omega,h12,h13,?_⟩,by omega⟩
  have hj:a''<j→le ((e').getD (j-1).toNat default) ((e').getD (j).toNat default):=fun c=>rW (by
   simp only [decide_eq_true c,Bool.true_and,decide_eq_false_iff_not]at g;exact g)
  intro p q k1 k2 k3
  by_cases c1:p=j
  ·subst c1
   by_cases c2:q=p
   ·rw [c2];exact le_refl _
   ·exact h15 q (by omega) (by omega)
  ·by_cases c2:q=j
   ·subst c2
    by_cases c3:p=q-1
    ·rw [c3];exact hj (by omega)
    ·exact(h14 p (q-1) k1 (by omega) (by omega) c1 (by omega)).trans (hj (by omega))
   ·exact h14 p q k1 k2 (by omega) c1 c2
end Go.TX.F
namespace Go.TX.F
open Go Go.AE Go.TX
theorem half {x:Int} (h1:0≤x) (h2:x≤4000000000):IntKind.i64.wrap (jL .shr .u64 (IntKind.u64.wrap x) 1)=x/2:=by
 have e1:IntKind.u64.wrap x=x:=by simp [IntKind.wrap,IntKind.bits,IntKind.signed];omega
 have e2:jL .shr .u64 x 1=x/2:=by
  show x.fdiv (2^ (min (Int.toNat 1) IntKind.u64.bits))=x/2
  rw [show(2:Int)^ (min (Int.toNat 1) IntKind.u64.bits)=2 by decide,Int.fdiv_eq_ediv_of_nonneg _ (by omega)]
 rw [e1,e2,w64 (by omega) (by omega)]
structure Mrg (d d':List aj) (a b:Int):Prop where
 sm:Sm d d'
 out:Out d d' a b
 ins:∀k,a≤k→k<b→∃j,a≤j∧j<b∧((d').getD (k).toNat default)=((d).getD (j).toNat default)
 srt:mM d' a b
structure DC (a m b:Int) (d:List aj):Prop where
 sh:Sh d
 h1:0≤a
 h2:a<m
 h3:m<b
 h4:b≤d.length
 s1:mM d a m
 s2:mM d m b
theorem DF {P Q:Prop} [Decidable P] [Decidable Q]:((decide P&&decide Q)=false)↔¬(P∧Q):=by by_cases h1:P<;>by_cases h2:Q<;>simp [h1,h2]
theorem Tf {p2:Int×Int×Int×List aj×Unit→Bool} {f2:Int×Int×Int×List aj×Unit→List aj×Unit}
    (hp2:∀(a m b:Int) (d:List aj),d.length<1000000000→0≤a→a<m→m<b→b≤d.length→p2 (a,m,b,d,())=true) (hf2:∀(a m b:Int) (d:List aj),d.length<1000000000→0≤a→a<m→m<b→b≤d.length→Rot d (f2 (a,m,b,d,())).1 a m b)
    {p3:Int×Int×Int×List aj×Unit→Bool} {f3:Int×Int×Int×List aj×Unit→List aj×Unit}
    (K:Int) (hp3:∀(a m b:Int) (d:List aj),DC a m b d→b-a<K→p3 (a,m,b,d,())=true) (hf3:∀(a m b:Int) (d:List aj),DC a m b d→b-a<K→Mrg d (f3 (a,m,b,d,())).1 a b)
    (a m b mid i E:Int) (d:List aj) (hd:DC a m b d) (hK:b-a≤K) (hmid:mid=(a+b)/2) (hE:E=mid+m-i)
    (b1:a≤i) (b2:i≤m) (b3:m≤E) (b4:E≤b) (b5:a<mid) (b6:mid<b)
    (fA:i=a∨E=b∨le ((d).getD (i-1).toNat default) ((d).getD (E).toNat default)) (fB:E=m∨i=m∨le ((d).getD (E-1).toNat default) ((d).getD (i).toNat default)):
      (i<m∧m<E→
          p2 (i,m,E,d,())=true∧
            (a<i∧i<mid→
                p3 (a,i,mid,(f2 (i,m,E,d,())).fst,())=true∧
                  (mid<E∧E<b→
                      p3 (mid,E,b,(f3 (a,i,mid,(f2 (i,m,E,d,())).fst,())).fst,())=true∧
                        Mrg d (f3 (mid,E,b,(f3 (a,i,mid,(f2 (i,m,E,d,())).fst,())).fst,())).fst
                          a b)∧
                    ((decide (mid<E)&&decide (E<b))=false→
                      Mrg d (f3 (a,i,mid,(f2 (i,m,E,d,())).fst,())).fst a b))∧
              ((decide (a<i)&&decide (i<mid))=false→
                (mid<E∧E<b→
                    p3 (mid,E,b,(f2 (i,m,E,d,())).fst,())=true∧
                      Mrg d (f3 (mid,E,b,(f2 (i,m,E,d,())).fst,())).fst a b)∧
                  ((decide (mid<E)&&decide (E<b))=false→
                    Mrg d (f2 (i,m,E,d,())).fst a b)))∧
        ((decide (i<m)&&decide (m<E))=false→
          (a<i∧i<mid→
              p3 (a,i,mid,d,())=true∧
                (mid<E∧E<b→
                    p3 (mid,E,b,(f3 (a,i,mid,d,())).fst,())=true∧
                      Mrg d (f3 (mid,E,b,(f3 (a,i,mid,d,())).fst,())).fst a b)∧
                  ((decide (mid<E)&&decide (E<b))=false→
                    Mrg d (f3 (a,i,mid,d,())).fst a b))∧
            ((decide (a<i)&&decide (i<mid))=false→
              (mid<E∧E<b→
                  p3 (mid,E,b,d,())=true∧Mrg d (f3 (mid,E,b,d,())).fst a b)∧
                ((decide (mid<E)&&decide (E<b))=false→Mrg d d a b))):=by
  obtain⟨hs,h1,h2,h3,h4,hA,hB⟩:=hd
  have hlen:=hs.1
  have cross:∀x y,((a≤x∧x<i)∨(m≤x∧x<E))→((i≤y∧y<m)∨(E≤y∧y<b))→le ((d).getD (x).toNat default) ((d).getD (y).toNat default):=by
    rintro x y (hx | hx) (hy | hy)
    · exact hA x y hx.1 (by omega) hy.2
    · rcases fA with fA | fA | fA
      · omega
      · omega
      · exact((hA x (i-1) hx.1 (by omega) (by omega)).trans fA).trans (hB E y b3 hy.1 hy.2)
    · rcases fB with fB | fB | fB
      · omega
      · omega
      · exact((hB x (E-1) hx.1 (by omega) (by omega)).trans fB).trans (hA i y b1 hy.1 hy.2)
    · exact hB x y hx.1 (by omega) hy.2
  have awI : ∀ e, Rot d e i m E → ∀ R : Prop, R = Mrg d e a b → (a < i ∧ i < mid →
              p3 (a,i,mid,e,())=true∧
                (mid<E∧E<b→
                    p3 (mid,E,b,(f3 (a,i,mid,e,())).fst,())=true∧
                      Mrg d (f3 (mid,E,b,(f3 (a,i,mid,e,())).fst,())).fst a b)∧
                  ((decide (mid<E)&&decide (E<b))=false→
                    Mrg d (f3 (a,i,mid,e,())).fst a b))∧
            ((decide (a<i)&&decide (i<mid))=false→
              (mid<E∧E<b→
                  p3 (mid,E,b,e,())=true∧Mrg d (f3 (mid,E,b,e,())).fst a b)∧
                ((decide (mid<E)&&decide (E<b))=false→R)):=by
    rintro e ⟨r1,r2⟩ R rfl
    have hle:=r1.1
    have hes:=r1.sh hs
    have lo:∀k,a≤k→k<mid→∃x,((a≤x∧x<i)∨(m≤x∧x<E))∧((e).getD (k).toNat default)=((d).getD (x).toNat default):=by
      intro k k1 k2
      rw [r2 k (by omega)]
      by_cases c1:i≤k∧k<i+(E-m)
      · rw [if_pos c1];exact⟨k+(m-i),by omega,rfl⟩
      · rw [if_neg c1,if_neg (by omega)];exact⟨k,by omega,rfl⟩
    have hi:∀k,mid≤k→k<b→∃x,((i≤x∧x<m)∨(E≤x∧x<b))∧((e).getD (k).toNat default)=((d).getD (x).toNat default):=by
      intro k k1 k2
      rw [r2 k (by omega),if_neg (by omega)]
      by_cases c1:i+(E-m)≤k∧k<E
      · rw [if_pos c1];exact⟨k- (E-m),by omega,rfl⟩
      · rw [if_neg c1];exact⟨k,by omega,rfl⟩
    have S1:mM e a i:=by
      intro p q q1 q2 q3
      rw [r2 p (by omega),r2 q (by omega),if_neg (by omega),if_neg (by omega),if_neg (by omega),if_neg (by omega)]
      exact hA p q q1 q2 (by omega)
    have S2:mM e i mid:=by
      intro p q q1 q2 q3
      rw [r2 p (by omega),r2 q (by omega),if_pos (by omega),if_pos (by omega)]
      exact hB _ _ (by omega) (by omega) (by omega)
    have S3:mM e mid E:=by
      intro p q q1 q2 q3
      rw [r2 p (by omega),r2 q (by omega),if_neg (by omega),if_pos (by omega),if_neg (by omega),if_pos (by omega)]
      exact hA _ _ (by omega) (by omega) (by omega)
    have S4:mM e E b:=by
      intro p q q1 q2 q3
      rw [r2 p (by omega),r2 q (by omega),if_neg (by omega),if_neg (by omega),if_neg (by omega),if_neg (by omega)]
      exact hB _ _ (by omega) (by omega) (by omega)
    have fin:∀e1 e2,Mrg e e1 a mid→Mrg e1 e2 mid b→Mrg d e2 a b:=by
      intro e1 e2 m1 m2
      refine⟨(r1.trans m1.sm).trans m2.sm,fun k k1 k2=> ?_,fun k k1 k2=> ?_,fun p q q1 q2 q3=> ?_⟩
      · rw [m2.out k k1 (by omega),m1.out k k1 (by omega),r2 k k1,if_neg (by omega),if_neg (by omega)]
      · by_cases c:k<mid
        · rw [m2.out k (by omega) (by omega)]
          obtain⟨j,j1,j2,j3⟩:=m1.ins k k1 c
          obtain⟨x,x1,x2⟩:=lo j j1 j2
          rw [j3,x2];exact⟨x,by omega,by omega,rfl⟩
        · obtain⟨j,j1,j2,j3⟩:=m2.ins k (by omega) k2
          rw [j3,m1.out j (by omega) (by omega)]
          obtain⟨x,x1,x2⟩:=hi j j1 j2
          rw [x2];exact⟨x,by omega,by omega,rfl⟩
      · by_cases c:q<mid
        · rw [m2.out p (by omega) (by omega),m2.out q (by omega) (by omega)];exact m1.srt p q q1 q2 c
        · by_cases c2:mid≤p
          · exact m2.srt p q c2 q2 q3
          · rw [m2.out p (by omega) (by omega)]
            obtain⟨j,j1,j2,j3⟩:=m1.ins p q1 (by omega)
            obtain⟨x,x1,x2⟩:=lo j j1 j2
            obtain⟨j',j1',j2',j3'⟩:=m2.ins q (by omega) q3
            obtain⟨x',x1',x2'⟩:=hi j' j1' j2'
            rw [j3,x2,j3',m1.out j' (by omega) (by omega),x2']
            exact cross x x' x1 x1'
    have triv:∀e' a' b',mM e' a' b'→Mrg e' e' a' b':=fun e' a' b' h=>⟨Sm.refl _,fun _ _ _=>rfl,fun k k1 k2=>⟨k,k1,k2,rfl⟩,h⟩
    have last : ∀ e1, Mrg e e1 a mid → (mid < E ∧ E < b →
                    p3 (mid,E,b,e1,())=true∧
                      Mrg d (f3 (mid,E,b,e1,())).fst a b)∧
                  ((decide (mid<E)&&decide (E<b))=false→
                    Mrg d e1 a b):=by
      intro e1 m1
      have hle1:=m1.sm.1
      have O:∀a' b',mid≤a'→b'≤b→mM e a' b'→mM e1 a' b':=fun a' b' g1 g2 g p q q1 q2 q3=>by
        rw [m1.out p (by omega) (by omega),m1.out q (by omega) (by omega)];exact g p q q1 q2 q3
      refine⟨fun c=> ?_,fun c=> ?_⟩
      · have pre:DC mid E b e1:=⟨m1.sm.sh hes,by omega,c.1,c.2,by omega,O _ _ (by omega) (by omega) S3,O _ _ (by omega) (by omega) S4⟩
        exact⟨hp3 _ _ _ _ pre (by omega),fin _ _ m1 (hf3 _ _ _ _ pre (by omega))⟩
      · rw [DF]at c
        refine fin _ _ m1 (triv _ _ _ ?_)
        by_cases c2:mid<E
        · have:E=b:=by omega
          subst this;exact O _ _ (by omega) (by omega) S3
        · have:E=mid:=by omega
          rw [this]at S4;exact O _ _ (by omega) (by omega) S4
    refine⟨fun c=> ?_,fun c=> ?_⟩
    · have pre:DC a i mid e:=⟨hes,by omega,c.1,c.2,by omega,S1,S2⟩
      exact⟨hp3 _ _ _ _ pre (by omega),last _ (hf3 _ _ _ _ pre (by omega))⟩
    · rw [DF]at c
      refine last e (triv _ _ _ ?_)
      by_cases c2:a<i
      · have:i=mid:=by omega
        rw [←this];exact S1
      · have:i=a:=by omega
        rw [this]at S2;exact S2
  refine⟨fun c=>⟨hp2 _ _ _ _ hlen (by omega) c.1 c.2 (by omega),awI _ (hf2 _ _ _ _ hlen (by omega) c.1 c.2 (by omega)) _ rfl⟩,fun c=>awI d ?_ _ rfl⟩
  rw [DF]at c
  refine⟨Sm.refl _,fun k k1=> ?_⟩
  repeat' split
  all_goals first | rfl | (exfalso;omega) | (congr 2;omega)
theorem aoI {p:aj×aj×Unit→Bool} {f:aj×aj×Unit→Int×Unit} (hp:∀x y,x.atoms.length<1000000000→p (x,y,())=true) (hf:∀x y,x.atoms.length<1000000000→f (x,y,())=(dR x.atoms y.atoms,()))
  {p2:Int×Int×Int×List aj×Unit→Bool} {f2:Int×Int×Int×List aj×Unit→List aj×Unit}
  (hp2:∀(a m b:Int) (d:List aj),d.length<1000000000→0≤a→a<m→m<b→b≤d.length→p2 (a,m,b,d,())=true) (hf2:∀(a m b:Int) (d:List aj),d.length<1000000000→0≤a→a<m→m<b→b≤d.length→Rot d (f2 (a,m,b,d,())).1 a m b)
  {p3:Int×Int×Int×List aj×Unit→Bool} {f3:Int×Int×Int×List aj×Unit→List aj×Unit}
  (K:Int) (hp3:∀(a m b:Int) (d:List aj),DC a m b d→b-a<K→p3 (a,m,b,d,())=true) (hf3:∀(a m b:Int) (d:List aj),DC a m b d→b-a<K→Mrg d (f3 (a,m,b,d,())).1 a b)
  (a m b:Int) (d:List aj) (hd:DC a m b d) (hK:b-a≤K):
  Js (std 0).al p f p2 f2 p3 f3 (a,m,b,d,()) (fun y=>Mrg d y.1 a b):=by
 obtain⟨hs,h1,h2,h3,h4,hA,hB⟩:=hd
 have hlen:=hs.1
 dsimp only [Js,Tup.q,Tup.o]
 simp (disch:=omega) only [RR]
 refine⟨fun h5=> ?_,fun h5=>⟨fun h6=> ?_,fun h6=> ?_⟩⟩
 ·
  have hm:m=a+1:=by omega
  subst hm
  refine ak (fun(y:Int×Int×Int×List aj×Unit)=>y.1=a∧y.2.2.2.1=d∧a+1≤y.2.1∧y.2.1≤y.2.2.1∧y.2.2.1≤b∧(∀q,a+1≤q→q<y.2.1→dR ((d).getD (q).toNat default).atoms ((d).getD (a).toNat default).atoms<0)∧(∀q,y.2.2.1≤q→q<b→¬dR ((d).getD (q).toNat default).atoms ((d).getD (a).toNat default).atoms<0)) (fun y=>(y.2.2.1-y.2.1).toNat)
   ⟨rfl,rfl,by simp,by simp;omega,by simp,fun q g1 g2=>by dsimp only at g2;omega,fun q g1 g2=>by dsimp only at g1;omega⟩ ?_
  rintro⟨(a':Int),(i:Int),(j:Int),(d':List aj),⟨⟩⟩ hI
  dsimp only at hI ⊢
  obtain⟨rfl,rfl,g1,g2,g3,g4,g5⟩:=hI
  simp (disch:=omega) only [RR,half,hp _ _ (hs.at _),hf _ _ (hs.at _)]
  refine⟨fun g6=>⟨by omega,by omega,by omega,by omega,by omega,by omega,by omega,by omega,by omega,fun g7=>⟨⟨by omega,by omega,by omega,fun q k1 k2=> ?_,g5⟩,by omega⟩,fun g7=>⟨⟨by omega,by omega,by omega,g4,fun q k1 k2=> ?_⟩,by omega⟩⟩,fun g6=> ?_⟩
  ·exact dW (hB q ((i+j)/2) k1 (by omega) (by omega)) g7
  ·intro g8;exact g7 (dW (hB ((i+j)/2) q (by omega) (by omega) k2) g8)
  have hij:i=j:=by omega
  subst hij
  refine ak (fun(y:Int×Int×List aj×Unit)=>y.1=i∧a'≤y.2.1∧y.2.1≤i-1∧Sm d' y.2.2.1∧(∀k,0≤k→((y.2.2.1).getD (k).toNat default)=if a'≤k∧k<y.2.1 then((d').getD (k+1).toNat default)else if k=y.2.1 then((d').getD (a').toNat default)else((d').getD (k).toNat default))) (fun y=>(i-y.2.1).toNat)
   ⟨rfl,by simp,by simp;omega,Sm.refl _,fun k hk=>by dsimp only;rw [if_neg (by omega)];split;(· congr 2);(· rfl)⟩ ?_
  rintro⟨(i':Int),(k:Int),(e:List aj),⟨⟩⟩ hI
  dsimp only at hI ⊢
  obtain⟨rfl,k1,k2,k3,k4⟩:=hI
  have hle:=k3.1
  simp (disch:=omega) only [RR,List.length_set]
  have e1:(e.set k.toNat ((e).getD (k+1).toNat default)).set (k+1).toNat ((e).getD (k).toNat default)=swp e k (k+1):=rfl
  rw [e1]
  refine⟨fun g7=>⟨by omega,by omega,by omega,by omega,by omega,by omega,by omega,by omega,by omega,by omega,by omega,by omega,by omega,by omega,by omega,by omega,⟨by omega,by omega,k3.trans (Og (by omega) (by omega) (by omega) (by omega)),fun q hq=> ?_⟩,by omega⟩,fun g7=> ?_⟩
  ·rw [wS (by omega) (by omega) (by omega) (by omega) hq,k4 _ (by omega),k4 _ (by omega),k4 _ hq]
   repeat' split
   all_goals first | rfl | (exfalso;omega) | (congr 2;omega)
  ·have hk:k=i'-1:=by omega
   subst hk
   refine⟨k3,fun q hq hq2=> ?_,fun q hq hq2=> ?_,fun q r q1 q2 q3=> ?_⟩
   ·rw [k4 q hq,if_neg (by omega),if_neg (by omega)]
   ·rw [k4 q (by omega)]
    repeat' split
    ·exact⟨q+1,by omega,by omega,rfl⟩
    ·exact⟨a',by omega,by omega,rfl⟩
    ·exact⟨q,by omega,by omega,rfl⟩
   ·rw [k4 q (by omega),k4 r (by omega)]
    by_cases c1:a'≤q∧q<i'-1
    ·rw [if_pos c1]
     by_cases c2:a'≤r∧r<i'-1
     ·rw [if_pos c2];exact hB _ _ (by omega) (by omega) (by omega)
     ·rw [if_neg c2]
      by_cases c3:r=i'-1
      ·rw [if_pos c3];exact le_of_lt (g4 _ (by omega) (by omega))
      ·rw [if_neg c3];exact hB _ _ (by omega) (by omega) (by omega)
    ·rw [if_neg c1,if_neg (by omega:¬(a'≤r∧r<i'-1))]
     by_cases c3:q=i'-1
     ·rw [if_pos c3]
      by_cases c4:r=i'-1
      ·rw [if_pos c4];exact le_refl _
      ·rw [if_neg c4];exact rW (g5 r (by omega) (by omega))
     ·rw [if_neg c3,if_neg (by omega)];exact hB _ _ (by omega) (by omega) (by omega)
 ·
  have hm:b=m+1:=by omega
  subst hm
  refine ak (fun(y:Int×Int×Int×List aj×Unit)=>y.1=m∧y.2.2.2.1=d∧a≤y.2.1∧y.2.1≤y.2.2.1∧y.2.2.1≤m∧(∀q,a≤q→q<y.2.1→¬dR ((d).getD (m).toNat default).atoms ((d).getD (q).toNat default).atoms<0)∧(∀q,y.2.2.1≤q→q<m→dR ((d).getD (m).toNat default).atoms ((d).getD (q).toNat default).atoms<0)) (fun y=>(y.2.2.1-y.2.1).toNat)
   ⟨rfl,rfl,by simp,by simp;omega,by simp,fun q g1 g2=>by dsimp only at g2;omega,fun q g1 g2=>by dsimp only at g1;omega⟩ ?_
  rintro⟨(m':Int),(i:Int),(j:Int),(d':List aj),⟨⟩⟩ hI
  dsimp only at hI ⊢
  obtain⟨rfl,rfl,g1,g2,g3,g4,g5⟩:=hI
  simp (disch:=omega) only [RR,half,hp _ _ (hs.at _),hf _ _ (hs.at _)]
  refine⟨fun g6=>⟨by omega,by omega,by omega,by omega,by omega,by omega,by omega,by omega,by omega,fun g7=>⟨⟨by omega,by omega,by omega,fun q k1 k2=> ?_,g5⟩,by omega⟩,fun g7=>⟨⟨by omega,by omega,by omega,g4,fun q k1 k2=> ?_⟩,by omega⟩⟩,fun g6=> ?_⟩
  ·intro g8
   have:=hA q ((i+j)/2) k1 (by omega) (by omega)
   apply g7
   have h7:=ku g8 this
   exact h7
  ·exact ku g7 (hA ((i+j)/2) q (by omega) (by omega) k2)
  have hij:i=j:=by omega
  subst hij
  refine ak (fun(y:Int×Int×List aj×Unit)=>y.1=i∧i≤y.2.1∧y.2.1≤m'∧Sm d' y.2.2.1∧(∀k,0≤k→((y.2.2.1).getD (k).toNat default)=if y.2.1<k∧k≤m' then((d').getD (k-1).toNat default)else if k=y.2.1 then((d').getD (m').toNat default)else((d').getD (k).toNat default))) (fun y=>(y.2.1-i).toNat)
   ⟨rfl,by simp;omega,by simp,Sm.refl _,fun k hk=>by dsimp only;rw [if_neg (by omega)];split;(· congr 2);(· rfl)⟩ ?_
  rintro⟨(i':Int),(k:Int),(e:List aj),⟨⟩⟩ hI
  dsimp only at hI ⊢
  obtain⟨rfl,k1,k2,k3,k4⟩:=hI
  have hle:=k3.1
  simp (disch:=omega) only [RR,List.length_set]
  have e1:(e.set k.toNat ((e).getD (k-1).toNat default)).set (k-1).toNat ((e).getD (k).toNat default)=swp e k (k-1):=rfl
  rw [e1]
  refine⟨fun g7=>⟨by omega,by omega,by omega,by omega,by omega,by omega,by omega,by omega,by omega,by omega,by omega,by omega,by omega,by omega,by omega,by omega,⟨by omega,by omega,k3.trans (Og (by omega) (by omega) (by omega) (by omega)),fun q hq=> ?_⟩,by omega⟩,fun g7=> ?_⟩
  ·rw [wS (by omega) (by omega) (by omega) (by omega) hq,k4 _ (by omega),k4 _ (by omega),k4 _ hq]
   repeat' split
   all_goals first | rfl | (exfalso;omega) | (congr 2;omega)
  ·have hk:k=i':=by omega
   subst hk
   refine⟨k3,fun q hq hq2=> ?_,fun q hq hq2=> ?_,fun q r q1 q2 q3=> ?_⟩
   ·rw [k4 q hq,if_neg (by omega),if_neg (by omega)]
   ·rw [k4 q (by omega)]
    repeat' split
    ·exact⟨q-1,by omega,by omega,rfl⟩
    ·exact⟨m',by omega,by omega,rfl⟩
    ·exact⟨q,by omega,by omega,rfl⟩
   ·rw [k4 q (by omega),k4 r (by omega)]
    by_cases c1:k<q∧q≤m'
    ·rw [if_pos c1,if_pos (by omega)];exact hA _ _ (by omega) (by omega) (by omega)
    ·rw [if_neg c1]
     by_cases c3:q=k
     ·rw [if_pos c3]
      by_cases c2:k<r∧r≤m'
      ·rw [if_pos c2];exact le_of_lt (g5 _ (by omega) (by omega))
      ·rw [if_neg c2,if_pos (by omega)];exact le_refl _
     ·rw [if_neg c3]
      by_cases c2:k<r∧r≤m'
      ·rw [if_pos c2];exact hA _ _ (by omega) (by omega) (by omega)
      ·rw [if_neg c2]
       by_cases c4:r=k
       ·rw [if_pos c4];exact rW (g4 _ (by omega) (by omega))
       ·rw [if_neg c4];exact hA _ _ (by omega) (by omega) (by omega)
 ·
  simp (disch:=omega) only [RR,half]
  refine⟨by omega,fun h7=> ?_,fun h7=> ?_⟩
  ·refine ak (fun(y:Int×Int×Int×Int×Int×Int×Int×Int×List aj×Unit)=>y.1=a∧y.2.1=m∧y.2.2.1=b∧y.2.2.2.1=(a+b)/2∧y.2.2.2.2.1=(a+b)/2+m∧y.2.2.2.2.2.2.2.1=(a+b)/2+m-1∧y.2.2.2.2.2.2.2.2.1=d∧(a+b)/2+m-b≤y.2.2.2.2.2.1∧y.2.2.2.2.2.1≤y.2.2.2.2.2.2.1∧y.2.2.2.2.2.2.1≤(a+b)/2
     ∧(∀q,(a+b)/2+m-b≤q→q<y.2.2.2.2.2.1→¬dR ((d).getD ((a+b)/2+m-1-q).toNat default).atoms ((d).getD (q).toNat default).atoms<0)∧(∀q,y.2.2.2.2.2.2.1≤q→q< (a+b)/2→dR ((d).getD ((a+b)/2+m-1-q).toNat default).atoms ((d).getD (q).toNat default).atoms<0)) (fun y=>(y.2.2.2.2.2.2.1-y.2.2.2.2.2.1).toNat)
    ⟨rfl,rfl,rfl,rfl,rfl,rfl,rfl,by simp,by simp;omega,by simp,fun q g1 g2=>by dsimp only at g2;omega,fun q g1 g2=>by dsimp only at g1;omega⟩ ?_
   rintro⟨(a':Int),(m':Int),(b':Int),(mid:Int),(n:Int),(i:Int),(j:Int),(r:Int),(d':List aj),⟨⟩⟩ hI
   dsimp only at hI ⊢
   obtain⟨rfl,rfl,rfl,hmid,hn,hr,rfl,g1,g2,g3,g4,g5⟩:=hI
   rw [←hmid]at g1 g3 g4 g5 h7
   simp (disch:=omega) only [RR,half,hp _ _ (hs.at _),hf _ _ (hs.at _)]
   refine⟨fun g6=>⟨by omega,by omega,by omega,by omega,by omega,by omega,by omega,by omega,by omega,fun g7=>⟨⟨hmid,hn,hr,by omega,by omega,by omega,fun q k1 k2=> ?_,by rw [←hmid];exact g5⟩,by omega⟩,fun g7=>⟨⟨hmid,hn,hr,by omega,by omega,by omega,by rw [←hmid];exact g4,fun q k1 k2=> ?_⟩,by omega⟩⟩,fun g6=> ?_⟩
   ·rw [←hmid]at k1 ⊢
    intro g8
    apply g7
    rw [hr,←hmid]
    exact dW (hB _ _ (by omega) (by omega) (by omega)) (ku g8 (hA _ _ (by omega) (by omega) (by omega)))
   ·rw [←hmid]at k2 ⊢
    rw [hr,←hmid]at g7
    exact dW (hB _ _ (by omega) (by omega) (by omega)) (ku g7 (hA _ _ (by omega) (by omega) (by omega)))
   ·have hij:i=j:=by omega
    subst hij
    refine Tf hp2 hf2 K hp3 hf3 a' m' b' mid i (n-i) d' ⟨hs,h1,h2,h3,h4,hA,hB⟩ hK hmid (by omega) (by omega) (by omega) (by omega) (by omega) (by omega) (by omega) ?_ ?_
    ·by_cases c:i=mid+m'-b'
     ·first | exact Or.inl (by omega) | exact Or.inr (Or.inl (by omega))
     ·refine Or.inr (Or.inr ?_)
      have:=g4 (i-1) (by omega) (by omega)
      rw [show mid+m'-1- (i-1)=n-i by omega]at this
      exact rW this
    ·by_cases c:i=mid
     ·first | exact Or.inl (by omega) | exact Or.inr (Or.inl (by omega))
     ·refine Or.inr (Or.inr ?_)
      have:=g5 i (by omega) (by omega)
      rw [show mid+m'-1-i=n-i-1 by omega]at this
      exact le_of_lt this
  ·refine ak (fun(y:Int×Int×Int×Int×Int×Int×Int×Int×List aj×Unit)=>y.1=a∧y.2.1=m∧y.2.2.1=b∧y.2.2.2.1=(a+b)/2∧y.2.2.2.2.1=(a+b)/2+m∧y.2.2.2.2.2.2.2.1=(a+b)/2+m-1∧y.2.2.2.2.2.2.2.2.1=d∧a≤y.2.2.2.2.2.1∧y.2.2.2.2.2.1≤y.2.2.2.2.2.2.1∧y.2.2.2.2.2.2.1≤m
     ∧(∀q,a≤q→q<y.2.2.2.2.2.1→¬dR ((d).getD ((a+b)/2+m-1-q).toNat default).atoms ((d).getD (q).toNat default).atoms<0)∧(∀q,y.2.2.2.2.2.2.1≤q→q<m→dR ((d).getD ((a+b)/2+m-1-q).toNat default).atoms ((d).getD (q).toNat default).atoms<0)) (fun y=>(y.2.2.2.2.2.2.1-y.2.2.2.2.2.1).toNat)
    ⟨rfl,rfl,rfl,rfl,rfl,rfl,rfl,by simp,by simp;omega,by simp,fun q g1 g2=>by dsimp only at g2;omega,fun q g1 g2=>by dsimp only at g1;omega⟩ ?_
   rintro⟨(a':Int),(m':Int),(b':Int),(mid:Int),(n:Int),(i:Int),(j:Int),(r:Int),(d':List aj),⟨⟩⟩ hI
   dsimp only at hI ⊢
   obtain⟨rfl,rfl,rfl,hmid,hn,hr,rfl,g1,g2,g3,g4,g5⟩:=hI
   rw [←hmid]at g4 g5 h7
   simp (disch:=omega) only [RR,half,hp _ _ (hs.at _),hf _ _ (hs.at _)]
   refine⟨fun g6=>⟨by omega,by omega,by omega,by omega,by omega,by omega,by omega,by omega,by omega,fun g7=>⟨⟨hmid,hn,hr,by omega,by omega,by omega,fun q k1 k2=> ?_,by rw [←hmid];exact g5⟩,by omega⟩,fun g7=>⟨⟨hmid,hn,hr,by omega,by omega,by omega,by rw [←hmid];exact g4,fun q k1 k2=> ?_⟩,by omega⟩⟩,fun g6=> ?_⟩
   ·rw [←hmid]
    intro g8
    apply g7
    rw [hr,←hmid]
    exact dW (hB _ _ (by omega) (by omega) (by omega)) (ku g8 (hA _ _ (by omega) (by omega) (by omega)))
   ·rw [←hmid]
    rw [hr,←hmid]at g7
    exact dW (hB _ _ (by omega) (by omega) (by omega)) (ku g7 (hA _ _ (by omega) (by omega) (by omega)))
   ·have hij:i=j:=by omega
    subst hij
    refine Tf hp2 hf2 K hp3 hf3 a' m' b' mid i (n-i) d' ⟨hs,h1,h2,h3,h4,hA,hB⟩ hK hmid (by omega) (by omega) (by omega) (by omega) (by omega) (by omega) (by omega) ?_ ?_
    ·by_cases c:i=a'
     ·first | exact Or.inl (by omega) | exact Or.inr (Or.inl (by omega))
     ·refine Or.inr (Or.inr ?_)
      have:=g4 (i-1) (by omega) (by omega)
      rw [show mid+m'-1- (i-1)=n-i by omega]at this
      exact rW this
    ·by_cases c:i=m'
     ·first | exact Or.inl (by omega) | exact Or.inr (Or.inl (by omega))
     ·refine Or.inr (Or.inr ?_)
      have:=g5 i (by omega) (by omega)
      rw [show mid+m'-1-i=n-i-1 by omega]at this
      exact le_of_lt this
end Go.TX.F
namespace Go.TX.F
open Go Go.AE Go.TX
theorem yB {s a x:Int} (h:s ∣ a) (h1:a<x) (h2:x<a+s):¬s ∣ x:=fun h3=>by
 have:=Int.le_of_dvd (by omega) (Int.dvd_sub h3 h);omega
theorem mM.adj {d:List aj} {a b:Int} (h:∀p,a≤p→p+1<b→le ((d).getD (p).toNat default) ((d).getD (p+1).toNat default)):mM d a b:=by
 intro p q h1 h2 h3
 obtain⟨n,hn⟩:∃n:Nat,q=p+n:=⟨(q-p).toNat,by omega⟩
 subst hn
 clear h2
 induction n with
 | zero=>rw [show p+((0:Nat):Int)=p by omega];exact le_refl _
 | succ n ih=>
  have:=h (p+n) (by omega) (by omega)
  rw [show p+((n+1:Nat):Int)=p+n+1 by omega]
  exact(ih (by omega)).trans this
theorem mM.at1 {d:List aj} {a b p:Int} (h:mM d a b) (h1:a≤p) (h2:p+1<b):le ((d).getD (p).toNat default) ((d).getD (p+1).toNat default):=h p (p+1) h1 (by omega) h2
def Bl (d:List aj) (s n:Int):Prop:=∀p,0≤p→p+1<n→¬s ∣ p+1→le ((d).getD (p).toNat default) ((d).getD (p+1).toNat default)
theorem aoJ {p:Int×Int×List aj×Unit→Bool} {f:Int×Int×List aj×Unit→List aj×Unit}
  (hp:∀(a b:Int) (d:List aj),Sh d→0≤a→a≤b→b≤d.length→p (a,b,d,())=true) (hf:∀(a b:Int) (d:List aj),Sh d→0≤a→a≤b→b≤d.length→Sm d (f (a,b,d,())).1∧Out d (f (a,b,d,())).1 a b∧mM (f (a,b,d,())).1 a b)
  {p3:Int×Int×Int×List aj×Unit→Bool} {f3:Int×Int×Int×List aj×Unit→List aj×Unit}
  (hp3:∀(a m b:Int) (d:List aj),DC a m b d→p3 (a,m,b,d,())=true) (hf3:∀(a m b:Int) (d:List aj),DC a m b d→Mrg d (f3 (a,m,b,d,())).1 a b)
  (n:Int) (d:List aj) (hd:Sh d) (hn:n=d.length):
  Wm (std 0).al p f p3 f3 (n,d,()) (fun y=>Sm d y.1∧mM y.1 0 n):=by
 have hlen:=hd.1
 dsimp only [Wm,Tup.q,Tup.o]
 simp (disch:=omega) only [RR]
 refine ak (fun(y:Int×Int×Int×Int×List aj×Unit)=>y.1=n∧y.2.1=20∧0≤y.2.2.1∧y.2.2.1≤n∧(20:Int) ∣ y.2.2.1∧y.2.2.2.1=y.2.2.1+20∧Sm d y.2.2.2.2.1∧Bl y.2.2.2.2.1 20 y.2.2.1) (fun y=>(n+20-y.2.2.2.1).toNat)
  ⟨rfl,rfl,by simp,by simp;omega,⟨0,by simp⟩,rfl,Sm.refl _,fun p h1 h2=>by dsimp only at h2;omega⟩ ?_
 rintro⟨(n':Int),(s:Int),(a:Int),(b:Int),(e:List aj),⟨⟩⟩ hI
 dsimp only at hI ⊢
 obtain⟨rfl,rfl,h1,h2,h3,rfl,h5,h6⟩:=hI
 have hle:=h5.1
 have hs:=h5.sh hd
 simp (disch:=omega) only [RR]
 have bl:∀a c (e e':List aj),0≤a→(20:Int) ∣ a→c≤a+20→Bl e 20 a→Out e e' a c→mM e' a c→Bl e' 20 c:=by
  intro a c e e' c0 c1 c2 c3 c4 c5 q q1 q2 q3
  by_cases k1:q+1<a
  ·rw [c4 q q1 (by omega),c4 (q+1) (by omega) (by omega)];exact c3 q q1 k1 q3
  ·exact c5.at1 (by omega) q2
 refine⟨fun h7=> ?_,fun h7=> ?_⟩
 ·obtain⟨t1,t2,t3⟩:=hf a (a+20) e hs h1 (by omega) (by omega)
  exact⟨hp a (a+20) e hs h1 (by omega) (by omega),⟨by omega,by omega,by omega,h5.trans t1,bl a (a+20) _ _ h1 h3 (by omega) h6 t2 t3⟩,by omega⟩
 obtain⟨t1,t2,t3⟩:=hf a n' e hs h1 (by omega) (by omega)
 refine⟨hp a n' e hs h1 (by omega) (by omega),?_⟩
 have t4:=bl a n' _ _ h1 h3 (by omega) h6 t2 t3
 generalize (f (a,n',e,())).1=e2 at t1 t2 t3 t4 ⊢
 have u1:=h5.trans t1
 clear t1 t2 t3 h5 h6
 refine ak (fun(y:Int×Int×List aj×Unit)=>y.1=n'∧0<y.2.1∧(y.2.1≤20∨y.2.1≤2*n')∧Sm d y.2.2.1∧Bl y.2.2.1 y.2.1 n') (fun y=>(n'-y.2.1).toNat)
  ⟨rfl,by simp,Or.inl (by simp),u1,t4⟩ ?_
 rintro⟨(n:Int),(s:Int),(e3:List aj),⟨⟩⟩ hI
 dsimp only at hI ⊢
 obtain⟨rfl,g1,g2,g3,g4⟩:=hI
 simp (disch:=omega) only [RR]
 refine⟨fun g5=> ?_,fun g5=>⟨g3,mM.adj fun q q1 q2=>g4 q q1 q2 (yB (a:=0) ⟨0,by simp⟩ (by omega) (by omega))⟩⟩
 refine ak (fun(y:Int×Int×Int×Int×List aj×Unit)=>y.1=n∧y.2.1=s∧0≤y.2.2.1∧y.2.2.1≤n∧(2*s) ∣ y.2.2.1∧y.2.2.2.1=y.2.2.1+2*s∧Sm d y.2.2.2.2.1
   ∧∀p,0≤p→p+1<n→¬(2*s) ∣ p+1→(p+1<y.2.2.1∨¬s ∣ p+1)→le ((y.2.2.2.2.1).getD (p).toNat default) ((y.2.2.2.2.1).getD (p+1).toNat default)) (fun y=>(n+2*s-y.2.2.2.1).toNat)
  ⟨rfl,rfl,by simp,by simp;omega,⟨0,by simp⟩,by simp,g3,fun q q1 q2 q3 q4=>g4 q q1 q2 (by dsimp only at q4;rcases q4 with q4 | q4;(· omega);(· exact q4))⟩ ?_
 rintro⟨(n':Int),(s':Int),(a:Int),(b:Int),(e4:List aj),⟨⟩⟩ hI
 dsimp only at hI ⊢
 obtain⟨rfl,rfl,k1,k2,k3,rfl,k5,k6⟩:=hI
 have hle:=k5.1
 have hs:=k5.sh hd
 have ks:s' ∣ a:=Int.dvd_trans ⟨2,by omega⟩ k3
 simp (disch:=omega) only [RR]
 have blk:∀x,x≤n'→a+s'<x→x≤a+2*s'→DC a (a+s') x e4:=fun x x1 x2 x3=>
  ⟨hs,k1,by omega,x2,by omega,mM.adj fun q q1 q2=>by
   refine k6 q (by omega) (by omega) (yB k3 (by omega) (by omega)) (Or.inr (yB ks (by omega) (by omega))),
   mM.adj fun q q1 q2=>by
   refine k6 q (by omega) (by omega) (yB k3 (by omega) (by omega)) (Or.inr (yB (Int.dvd_add ks (Int.dvd_refl s')) (by omega) (by omega)))⟩
 have stp:∀x e5,x≤n'→(x=a+2*s'∨x=n')→x≤a+2*s'→Mrg e4 e5 a x→∀p,0≤p→p+1<n'→¬(2*s') ∣ p+1→(p+1<x∨¬s' ∣ p+1)→le ((e5).getD (p).toNat default) ((e5).getD (p+1).toNat default):=by
  intro x e5 x1 x2 x3 m1 q q1 q2 q3 q4
  by_cases c1:q+1<a
  ·rw [m1.out q q1 (by omega),m1.out (q+1) (by omega) (by omega)];exact k6 q q1 q2 q3 (Or.inl c1)
  ·by_cases c2:q+1=a
   ·rw [c2]at q3;exact absurd k3 q3
   ·by_cases c3:q+1<x
    ·exact m1.srt.at1 (by omega) c3
    ·by_cases c4:q+1=x
     ·exfalso
      rcases x2 with x2 | x2
      ·rw [c4,x2]at q3;exact q3 (Int.dvd_add k3 (Int.dvd_refl _))
      ·omega
     ·rw [m1.out q q1 (by omega),m1.out (q+1) (by omega) (by omega)]
      refine k6 q q1 q2 q3 (Or.inr ?_)
      rcases q4 with q4 | q4
      ·omega
      ·exact q4
 refine⟨fun k7=> ?_,fun k7=>⟨fun k8=> ?_,fun k8=> ?_⟩⟩
 ·have pre:=blk (a+2*s') k7 (by omega) (by omega)
  have m1:=hf3 _ _ _ _ pre
  exact⟨hp3 _ _ _ _ pre,⟨by omega,by omega,Int.dvd_add k3 (Int.dvd_refl _),k5.trans m1.sm,stp _ _ k7 (Or.inl rfl) (by omega) m1⟩,by omega⟩
 ·have pre:=blk n' (by omega) k8 (by omega)
  have m1:=hf3 _ _ _ _ pre
  refine⟨hp3 _ _ _ _ pre,⟨by omega,Or.inr (by omega),k5.trans m1.sm,fun q q1 q2 q3=> ?_⟩,by omega⟩
  exact stp _ _ (by omega) (Or.inr rfl) (by omega) m1 q q1 q2 (by rw [Int.mul_comm];exact q3) (Or.inl q2)
 ·refine⟨⟨by omega,Or.inr (by omega),k5,fun q q1 q2 q3=> ?_⟩,by omega⟩
  rw [Int.mul_comm]at q3
  by_cases c1:q+1<a
  ·exact k6 q q1 q2 q3 (Or.inl c1)
  ·by_cases c2:q+1=a
   ·rw [c2]at q3;exact absurd k3 q3
   ·exact k6 q q1 q2 q3 (Or.inr (yB ks (by omega) (by omega)))
theorem aoK {p:Int×List aj×Unit→Bool} {f:Int×List aj×Unit→List aj×Unit} (hp:∀(n:Int) (d:List aj),Sh d→n=d.length→p (n,d,())=true)
  (hf:∀(n:Int) (d:List aj),Sh d→n=d.length→Sm d (f (n,d,())).1∧mM (f (n,d,())).1 0 n) (d:List aj) (hd:Sh d):
  Wn (std 0).al p f (d,()) (fun y=>Sm d y.1∧mM y.1 0 d.length):=by
 have:=hf _ d hd rfl
 dsimp only [Wn,Tup.q,Tup.o]
 exact⟨hp _ d hd rfl,this⟩
end Go.TX.F
namespace Go.TX.F
open Go Go.AE Go.TX
def cf (l:List aj) (k:List Int):Int:=(l.map fun m=>if m.atoms=k then m.bD else 0).sum
theorem kS (k:List Int):cf [] k=0:=rfl
theorem bY (m:aj) (l:List aj) (k:List Int):cf (m::l) k=(if m.atoms=k then m.bD else 0)+cf l k:=by simp [cf]
theorem dw (a b:List aj) (k:List Int):cf (a++b) k=cf a k+cf b k:=by simp [cf]
theorem iV {k:List Int}:∀ {l:List aj},(∀m∈l,m.atoms≠k)→cf l k=0
 | [],_=>rfl
 | m::l,h=>by rw [bY,if_neg (h m (by simp)),iV (fun m hm=>h m (by simp [hm]))];rfl
theorem Sm.cf {a b:List aj} (h:Sm a b) (k:List Int):cf b k=cf a k:=h.sum _
def lt (a b:aj):Prop:=dR a.atoms b.atoms<0
theorem lt.ne {a b:aj} (h:lt a b):a.atoms≠b.atoms:=fun e=>by unfold lt at h;rw [e,kr.2 rfl]at h;omega
structure Nf (o:List aj):Prop where
 ss:o.Pairwise lt
 co:∀m∈o,1≤m.bD∧m.bD≤65535
theorem ZW:∀ {o1 o2:List aj},Nf o1→Nf o2→(∀k,cf o1 k=cf o2 k)→o1=o2
 | [],[],_,_,_=>rfl
 | [],m::o,_,h2,h=>by
  have:=h m.atoms
  rw [bY,if_pos rfl,iV (fun m' hm'=>((List.rel_of_pairwise_cons h2.ss hm').ne).symm),kS]at this
  have:=(h2.co m (by simp));omega
 | m::o,[],h1,_,h=>by
  have:=h m.atoms
  rw [bY,if_pos rfl,iV (fun m' hm'=>((List.rel_of_pairwise_cons h1.ss hm').ne).symm),kS]at this
  have:=(h1.co m (by simp));omega
 | m1::o1,m2::o2,h1,h2,h=>by
  have c1:=h1.co m1 (by simp)
  have c2:=h2.co m2 (by simp)
  have z1:cf o1 m1.atoms=0:=iV fun m' hm'=>((List.rel_of_pairwise_cons h1.ss hm').ne).symm
  have z2:cf o2 m2.atoms=0:=iV fun m' hm'=>((List.rel_of_pairwise_cons h2.ss hm').ne).symm
  have tr:∀ {a b c:aj},lt a b→lt b c→lt a c:=fun g1 g2=>dW (le_of_lt g1) g2
  have e:m1.atoms=m2.atoms:=by
   by_cases g1:lt m1 m2
   ·have:=h m1.atoms
    rw [bY,if_pos rfl,z1,bY,if_neg (fun e=>g1.ne e.symm),iV (fun m' hm'=>((tr g1 (List.rel_of_pairwise_cons h2.ss hm')).ne).symm)]at this
    omega
   ·by_cases g2:lt m2 m1
    ·have:=h m2.atoms
     rw [bY,if_neg (fun e=>g2.ne e.symm),iV (fun m' hm'=>((tr g2 (List.rel_of_pairwise_cons h1.ss hm')).ne).symm),bY,if_pos rfl,z2]at this
     omega
    ·unfold lt at g1 g2
     rw [rV]at g2
     exact kr.1 (by omega)
  have ec:m1.bD=m2.bD:=by
   have:=h m1.atoms
   rw [bY,if_pos rfl,z1,bY,if_pos e.symm,e,z2]at this;omega
  have em:m1=m2:=by cases m1;cases m2;simp_all
  subst em
  refine congrArg _ (ZW ⟨h1.ss.tail,fun m hm=>h1.co m (by simp [hm])⟩ ⟨h2.ss.tail,fun m hm=>h2.co m (by simp [hm])⟩ (fun k=>by
   have:=h k;rw [bY,bY]at this;omega))
noncomputable def nf (l:List aj):List aj:= @dite _ (∃o,Nf o∧∀k,cf o k=cf l k%65536) (Classical.propDecidable _) (fun h=>Classical.choose h) (fun _=> [])
theorem ZX {l o:List aj} (h:Nf o) (h2:∀k,cf o k=cf l k%65536):nf l=o:=by
 have he:∃o,Nf o∧∀k,cf o k=cf l k%65536:=⟨o,h,h2⟩
 unfold nf;rw [dif_pos he]
 have:=Classical.choose_spec he
 exact ZW this.1 h (fun k=>(this.2 k).trans (h2 k).symm)
noncomputable def qV (l:List aj):Bool×List aj:=(bp (aI (nf l)),if bp (aI (nf l))then nf l else [])
def Cb (l:List aj):Prop:=∀m∈l,0≤m.bD∧m.bD≤65535
theorem awJ {p1:List Int×List Int×Unit→Bool} {f1:List Int×List Int×Unit→Int×Unit} (hp1:∀a b,a.length<1000000000→p1 (a,b,())=true) (hf1:∀a b,a.length<1000000000→f1 (a,b,())=(dR a b,()))
  {p2:List aj×Unit→Bool} {f2:List aj×Unit→Bool×Unit} (hp2:∀a,Sh a→p2 (a,())=true) (hf2:∀a,Sh a→f2 (a,())=(bp (aI a),()))
  {p3:Int×Unit→Bool} {f3:Int×Unit→Int×Unit} (hp3:∀a,p3 (a,())=true) (hf3:∀a,f3 (a,())=(a%65536,()))
  {p4:List Int×Unit→Bool} {f4:List Int×Unit→List Int×Unit} (hp4:∀a,a.length≤1073741824→p4 (a,())=true) (hf4:∀a,a.length≤1073741824→f4 (a,())=(a,()))
  {p5:List aj×Unit→Bool} {f5:List aj×Unit→List aj×Unit} (hp5:∀d,Sh d→p5 (d,())=true) (hf5:∀d,Sh d→Sm d (f5 (d,())).1∧mM (f5 (d,())).1 0 d.length)
  (l:List aj) (hl:Sh l) (hc:Cb l):adZ (std 0).al p1 f1 p2 f2 p3 f3 p4 f4 p5 f5 (l,()) (fun y=>y.1=(qV l).1∧y.2.2.1=(qV l).2):=by
 obtain⟨s1,s2⟩:=hf5 l hl
 dsimp only [adZ,Tup.q,Tup.o]
 simp (disch:=omega) only [RR,hp5 l hl]
 generalize (f5 (l,())).1=d at s1 s2 ⊢
 have hle:=s1.1
 have hs:=s1.sh hl
 have hlen:=hs.1
 have hcd:Cb d:=fun m hm=>hc m (s1.mem hm)
 refine ak (fun(y:Int×List aj×List aj×Unit)=>0≤y.1∧y.1≤d.length∧y.2.1=d∧Nf y.2.2.1∧y.2.2.1.length≤y.1∧(∀k,cf y.2.2.1 k=cf (d.take y.1.toNat) k%65536)∧(∀m∈y.2.2.1,m∈y.2.2.1→m.atoms.length<1000000000)
   ∧(y.1<d.length→(∀m∈y.2.2.1,lt m ((d).getD (y.1).toNat default))∧(∀m∈d.take y.1.toNat,lt m ((d).getD (y.1).toNat default)))) (fun y=>(d.length-y.1).toNat)
  ⟨by simp,by simp,rfl,⟨List.Pairwise.nil,fun m hm=>absurd hm (by simp)⟩,by simp,fun k=>by simp [cf],fun m hm=>absurd hm (by simp),fun _=>⟨fun m hm=>absurd hm (by simp),fun m hm=>absurd hm (by simp)⟩⟩ ?_
 rintro⟨(i:Int),(d':List aj),(o:List aj),⟨⟩⟩ hI
 dsimp only at hI ⊢
 obtain⟨h1,h2,rfl,h4,h5,h6,h7,h8⟩:=hI
 have ho:Sh o:=⟨by omega,fun m hm=>h7 m hm hm⟩
 simp (disch:=omega) only [RR,hp2 o ho,hf2 o ho]
 refine⟨fun h9=>⟨by omega,by omega,by omega,by omega,?_⟩,fun h9=> ?_⟩
 ·obtain⟨g1,g2⟩:=h8 h9
  have z:cf (d'.take i.toNat) ((d').getD (i).toNat default).atoms=0:=iV fun m hm=>(g2 m hm).ne
  refine ak (fun(y:Int×Int×List aj×aj×List aj×Unit)=>i≤y.1∧y.1≤d'.length∧y.2.2.1=d'∧y.2.2.2.1=((d').getD (i).toNat default)∧y.2.2.2.2.1=o∧y.2.1=cf (d'.take y.1.toNat) ((d').getD (i).toNat default).atoms%65536
    ∧(∀k,k≠((d').getD (i).toNat default).atoms→cf (d'.take y.1.toNat) k=cf (d'.take i.toNat) k)∧(∀m∈d'.take y.1.toNat,lt m ((d').getD (i).toNat default)∨m.atoms=((d').getD (i).toNat default).atoms)) (fun y=>(d'.length-y.1).toNat)
   ⟨by simp,by simp;omega,rfl,rfl,rfl,by rw [z];rfl,fun k _=>rfl,fun m hm=>Or.inl (g2 m hm)⟩ ?_
  rintro⟨(j:Int),(c:Int),(d'':List aj),(fi:aj),(o':List aj),⟨⟩⟩ hI
  dsimp only at hI ⊢
  obtain⟨k1,k2,rfl,rfl,rfl,k6,k7,k8⟩:=hI
  have hc0:0≤c∧c<65536:=by omega
  have hcj:j<d''.length→0≤((d'').getD (j).toNat default).bD∧((d'').getD (j).toNat default).bD≤65535:=fun h=>hcd _ (dJ (by omega) h)
  simp (disch:=omega) only [RR,hp1 _ _ (hs.at _),hf1 _ _ (hs.at _),hp3,hf3,hp4 _ (Nat.le_trans (Nat.le_of_lt (hs.at _)) (by omega)),hf4 _ (Nat.le_trans (Nat.le_of_lt (hs.at _)) (by omega))]
  refine⟨by omega,by omega,by omega,by omega,fun⟨m1,m2⟩=> ?_,fun m1=>⟨fun m2=>⟨?_,?_,?_⟩,fun m2=>⟨?_,?_⟩⟩⟩
  ·have e:=kr.1 m2
   have:=hcj m1
   rw [w64 (by omega) (by omega)]
   have ts:d''.take (j+1).toNat=d''.take j.toNat++ [((d'').getD (j).toNat default)]:=(bL (by omega) m1 rfl).symm
   refine⟨by omega,by omega,by omega,by omega,⟨by omega,by omega,?_,fun k hk=> ?_,fun m hm=> ?_⟩,by omega⟩
   ·rw [ts,dw,bY,if_pos e.symm,kS,k6];omega
   ·rw [ts,dw,bY,if_neg (fun h=>hk (by rw [e,h])),kS,k7 k hk];omega
   ·rw [ts,List.mem_append,List.mem_singleton]at hm
    rcases hm with hm | hm
    ·exact k8 m hm
    ·right;rw [hm,e]
  all_goals
   have hb:j<d''.length→lt ((d'').getD (i).toNat default) ((d'').getD (j).toNat default):=fun hj=>by
    rw [decide_eq_true hj,Bool.true_and,decide_eq_false_iff_not]at m1
    have:=s2 i j h1 k1 (by omega)
    unfold le at this;unfold lt;omega
   have hij:i<j:=by
    by_cases hj:j<d''.length
    ·by_cases e:i=j
     ·have:=(hb hj).ne;rw [e]at this;exact absurd rfl this
     ·omega
    ·omega
  ·simp only [List.length_append,List.length_cons,List.length_nil];omega
  ·have co:∀k,cf (o'++ [⟨c,((d'').getD (i).toNat default).atoms⟩]) k=cf (d''.take j.toNat) k%65536:=fun k=>by
    rw [dw,bY,kS]
    dsimp only
    by_cases hk:((d'').getD (i).toNat default).atoms=k
    ·subst hk
     rw [if_pos rfl,iV (fun m hm=>(g1 m hm).ne),k6];omega
    ·rw [if_neg hk,k7 k (fun e=>hk e.symm),h6 k];omega
   refine⟨by omega,by omega,⟨?_,?_⟩,?_,co,?_,fun hj=>⟨?_,?_⟩⟩
   ·rw [List.pairwise_append]
    exact⟨h4.ss,List.pairwise_singleton _ _,fun a ha b hb=>by rw [List.mem_singleton]at hb;subst hb;exact g1 a ha⟩
   ·intro m hm
    rw [List.mem_append,List.mem_singleton]at hm
    rcases hm with hm | rfl
    ·exact h4.co m hm
    ·dsimp only;omega
   ·simp only [List.length_append,List.length_cons,List.length_nil];omega
   ·intro m hm _
    rw [List.mem_append,List.mem_singleton]at hm
    rcases hm with hm | rfl
    ·exact h7 m hm hm
    ·exact hs.at _
   ·intro m hm
    rw [List.mem_append,List.mem_singleton]at hm
    rcases hm with hm | rfl
    ·exact dW (le_of_lt (g1 m hm)) (hb hj)
    ·exact hb hj
   ·intro m hm
    rcases k8 m hm with k | k
    ·exact dW (le_of_lt k) (hb hj)
    ·have:=hb hj;unfold lt at this ⊢;rw [k];exact this
  ·omega
  ·refine⟨by omega,by omega,h4,by omega,fun k=> ?_,h7,fun hj=>⟨?_,?_⟩⟩
   ·by_cases hk:((d'').getD (i).toNat default).atoms=k
    ·subst hk
     rw [iV (fun m hm=>(g1 m hm).ne)];omega
    ·rw [k7 k (fun e=>hk e.symm),h6 k]
   ·intro m hm
    exact dW (le_of_lt (g1 m hm)) (hb hj)
   ·intro m hm
    rcases k8 m hm with k | k
    ·exact dW (le_of_lt k) (hb hj)
    ·have:=hb hj;unfold lt at this ⊢;rw [k];exact this
  ·omega
 ·have e:nf l=o:=ZX h4 (fun k=>by rw [h6 k,List.take_of_length_le (by omega),s1.cf k])
  unfold qV
  rw [e]
  refine⟨fun h=> ?_,fun h=> ?_⟩
  ·rw [h];exact⟨rfl,by simp⟩
  ·rw [h];exact⟨rfl,by simp⟩
end Go.TX.F
namespace Go.TX.F
open Go Go.AE Go.TX
theorem awK (n:Int) (h1:0≤n) (h2:n≤1073741824):ad1 (std 0).al (n,()) (fun y=>y=([],())):=by
 dsimp only [ad1,Tup.q,Tup.o]
 simp (disch:=omega) only [RR]
 refine⟨fun h=>by omega,fun _ h=>⟨by omega,by omega,by rw [List.length_replicate];omega,by omega,by omega,by omega,by omega,by omega,?_⟩⟩
 rfl
theorem awL {p:Int×Unit→Bool} {f:Int×Unit→List aj×Unit} (hp:∀n:Int,0≤n→n≤1073741824→p (n,())=true) (hf:∀n:Int,0≤n→n≤1073741824→f (n,())=([],()))
  (a b:List aj) (ha:a.length≤100000000) (hb:b.length≤100000000):ad2 (std 0).al p f ([a,b],()) (fun y=>y=(a++b,())):=by
 dsimp only [ad2,Tup.q,Tup.o]
 refine ak (fun(y:List (List aj)×Int×List (List aj)×Int×Int×Unit)=>y.1=[a,b]∧y.2.2.1=[a,b]∧y.2.2.2.1=2∧((y.2.2.2.2.1=0∧y.2.1=0)∨(y.2.2.2.2.1=1∧y.2.1=a.length)∨(y.2.2.2.2.1=2∧y.2.1=a.length+b.length))) (fun y=>(2-y.2.2.2.2.1).toNat)
  ⟨rfl,rfl,rfl,Or.inl ⟨rfl,rfl⟩⟩ ?_
 rintro⟨(l:List (List aj)),(s:Int),(l2:List (List aj)),(n:Int),(i:Int),⟨⟩⟩ hI
 dsimp only at hI ⊢
 obtain⟨rfl,rfl,rfl,h⟩:=hI
 simp (disch:=omega) only [RR]
 have g0: [a,b].getD (Int.toNat 0) default=a:=rfl
 have g1: [a,b].getD (Int.toNat 1) default=b:=rfl
 have gl:([a,b].length:Int)=2:=rfl
 refine⟨fun hi=> ?_,fun hi=> ?_⟩
 ·rcases h with⟨rfl,rfl⟩ | ⟨rfl,rfl⟩ | ⟨rfl,rfl⟩
  ·rw [g0,w64 (by omega) (by omega)]
   exact⟨by omega,by omega,fun h=>by omega,fun h=>⟨Or.inr (Or.inl ⟨by omega,by omega⟩),by omega⟩⟩
  ·rw [g1,w64 (by omega) (by omega)]
   exact⟨by omega,by omega,fun h=>by omega,fun h=>⟨Or.inr (Or.inr ⟨by omega,by omega⟩),by omega⟩⟩
  ·omega
 ·have hs:0≤s∧s≤200000000:=by omega
  refine⟨hp s (by omega) (by omega),?_⟩
  rw [hf s (by omega) (by omega)]
  refine ak (fun(y:List (List aj)×Int×Int×List aj×Unit)=>y.1=[a,b]∧y.2.1=2∧((y.2.2.1=0∧y.2.2.2.1=[])∨(y.2.2.1=1∧y.2.2.2.1=a)∨(y.2.2.1=2∧y.2.2.2.1=a++b))) (fun y=>(2-y.2.2.1).toNat)
   ⟨rfl,rfl,Or.inl ⟨rfl,rfl⟩⟩ ?_
  rintro⟨(l:List (List aj)),(n:Int),(j:Int),(o:List aj),⟨⟩⟩ hI
  dsimp only at hI ⊢
  obtain⟨rfl,rfl,h3⟩:=hI
  simp (disch:=omega) only [RR]
  refine⟨fun hj=> ?_,fun hj=> ?_⟩
  ·rcases h3 with⟨rfl,rfl⟩ | ⟨rfl,rfl⟩ | ⟨rfl,rfl⟩
   ·rw [g0]
    exact⟨by omega,by omega,by simp only [List.length_nil];omega,Or.inr (Or.inl ⟨by omega,rfl⟩),by omega⟩
   ·rw [g1]
    exact⟨by omega,by omega,by omega,Or.inr (Or.inr ⟨by omega,rfl⟩),by omega⟩
   ·omega
  ·rcases h3 with⟨rfl,rfl⟩ | ⟨rfl,rfl⟩ | ⟨rfl,rfl⟩
   ·omega
   ·omega
   ·rfl
theorem ae1 (n:Int) (h1:0≤n) (h2:n≤1073741824):Wo (std 0).al (n,()) (fun y=>y=([],())):=by
 dsimp only [Wo,Tup.q,Tup.o]
 simp (disch:=omega) only [RR]
 refine⟨fun h=>by omega,fun _ h=>⟨by omega,by omega,by rw [List.length_replicate];omega,by omega,by omega,by omega,by omega,by omega,?_⟩⟩
 rfl
theorem awM {p:Int×Unit→Bool} {f:Int×Unit→List Int×Unit} (hp:∀n:Int,0≤n→n≤1073741824→p (n,())=true) (hf:∀n:Int,0≤n→n≤1073741824→f (n,())=([],()))
  (a b:List Int) (ha:a.length≤100000000) (hb:b.length≤100000000):ad6 (std 0).al p f ([a,b],()) (fun y=>y=(a++b,())):=by
 dsimp only [ad6,Tup.q,Tup.o]
 refine ak (fun(y:List (List Int)×Int×List (List Int)×Int×Int×Unit)=>y.1=[a,b]∧y.2.2.1=[a,b]∧y.2.2.2.1=2∧((y.2.2.2.2.1=0∧y.2.1=0)∨(y.2.2.2.2.1=1∧y.2.1=a.length)∨(y.2.2.2.2.1=2∧y.2.1=a.length+b.length))) (fun y=>(2-y.2.2.2.2.1).toNat)
  ⟨rfl,rfl,rfl,Or.inl ⟨rfl,rfl⟩⟩ ?_
 rintro⟨(l:List (List Int)),(s:Int),(l2:List (List Int)),(n:Int),(i:Int),⟨⟩⟩ hI
 dsimp only at hI ⊢
 obtain⟨rfl,rfl,rfl,h⟩:=hI
 simp (disch:=omega) only [RR]
 have g0: [a,b].getD (Int.toNat 0) default=a:=rfl
 have g1: [a,b].getD (Int.toNat 1) default=b:=rfl
 have gl:([a,b].length:Int)=2:=rfl
 refine⟨fun hi=> ?_,fun hi=> ?_⟩
 ·rcases h with⟨rfl,rfl⟩ | ⟨rfl,rfl⟩ | ⟨rfl,rfl⟩
  ·rw [g0,w64 (by omega) (by omega)]
   exact⟨by omega,by omega,fun h=>by omega,fun h=>⟨Or.inr (Or.inl ⟨by omega,by omega⟩),by omega⟩⟩
  ·rw [g1,w64 (by omega) (by omega)]
   exact⟨by omega,by omega,fun h=>by omega,fun h=>⟨Or.inr (Or.inr ⟨by omega,by omega⟩),by omega⟩⟩
  ·omega
 ·have hs:0≤s∧s≤200000000:=by omega
  refine⟨hp s (by omega) (by omega),?_⟩
  rw [hf s (by omega) (by omega)]
  refine ak (fun(y:List (List Int)×Int×Int×List Int×Unit)=>y.1=[a,b]∧y.2.1=2∧((y.2.2.1=0∧y.2.2.2.1=[])∨(y.2.2.1=1∧y.2.2.2.1=a)∨(y.2.2.1=2∧y.2.2.2.1=a++b))) (fun y=>(2-y.2.2.1).toNat)
   ⟨rfl,rfl,Or.inl ⟨rfl,rfl⟩⟩ ?_
  rintro⟨(l:List (List Int)),(n:Int),(j:Int),(o:List Int),⟨⟩⟩ hI
  dsimp only at hI ⊢
  obtain⟨rfl,rfl,h3⟩:=hI
  simp (disch:=omega) only [RR]
  refine⟨fun hj=> ?_,fun hj=> ?_⟩
  ·rcases h3 with⟨rfl,rfl⟩ | ⟨rfl,rfl⟩ | ⟨rfl,rfl⟩
   ·rw [g0]
    exact⟨by omega,by omega,by simp only [List.length_nil];omega,Or.inr (Or.inl ⟨by omega,rfl⟩),by omega⟩
   ·rw [g1]
    exact⟨by omega,by omega,by omega,Or.inr (Or.inr ⟨by omega,rfl⟩),by omega⟩
   ·omega
  ·rcases h3 with⟨rfl,rfl⟩ | ⟨rfl,rfl⟩ | ⟨rfl,rfl⟩
   ·omega
   ·omega
   ·rfl
theorem mOk.le {m:aj} (h:mOk m):m.atoms.length≤4:=h.2.1
theorem aI.at {p:List aj} (h:aI p) {m:aj} (hm:m∈p):mOk m:=by
 obtain⟨i,hi,rfl⟩:=List.getElem_of_mem hm
 have:=(h.1 i (by omega) (by omega)).1
 rw [show(i:Int).toNat=i from rfl,getD_lt hi]at this;exact this
theorem aI.len {p:List aj} (h:aI p):p.length≤12:=h.2.1
noncomputable def oH (a b:List aj):Bool×List aj:=if bp (aI a)&&bp (aI b)then qV (a++b)else(false,[])
theorem awN {p1:List aj×Unit→Bool} {f1:List aj×Unit→Bool×Unit} (hp1:∀a,Sh a→p1 (a,())=true) (hf1:∀a,Sh a→f1 (a,())=(bp (aI a),()))
  {p2:List aj×Unit→Bool} {f2:List aj×Unit→Bool×List aj×List aj×Unit} (hp2:∀a,Sh a→Cb a→p2 (a,())=true) (hf2:∀a,Sh a→Cb a→(f2 (a,())).1=(qV a).1∧(f2 (a,())).2.2.1=(qV a).2)
  {p3:List (List aj)×Unit→Bool} {f3:List (List aj)×Unit→List aj×Unit} (hp3:∀a b:List aj,a.length≤100000000→b.length≤100000000→p3 ([a,b],())=true) (hf3:∀a b:List aj,a.length≤100000000→b.length≤100000000→f3 ([a,b],())=(a++b,()))
  (a b:List aj) (ha:Sh a) (hb:Sh b):ad3 (std 0).al p1 f1 p2 f2 p3 f3 (a,b,()) (fun y=>y=((oH a b).1,(oH a b).2,())):=by
 dsimp only [ad3,Tup.q,Tup.o]
 simp (disch:=omega) only [RR,hp1 a ha,hf1 a ha,hp1 b hb,hf1 b hb,aT,jv]
 unfold oH
 refine⟨fun h=> ?_,fun⟨h1,h2⟩=> ?_⟩
 ·rw [if_neg]
  rw [Bool.and_eq_true,aT,aT];rintro⟨g1,g2⟩
  rcases h with h | h
  ·exact h g1
  ·exact h g2
 ·have l1:=h1.len
  have l2:=h2.len
  rw [hp3 a b (by omega) (by omega),hf3 a b (by omega) (by omega)]
  have hs:Sh (a++b):=⟨by rw [List.length_append];omega,fun m hm=>by
   rw [List.mem_append]at hm
   rcases hm with hm | hm
   ·exact ha.2 m hm
   ·exact hb.2 m hm⟩
  have hc:Cb (a++b):=fun m hm=>by
   rw [List.mem_append]at hm
   rcases hm with hm | hm
   ·have:=(h1.at hm).1;omega
   ·have:=(h2.at hm).1;omega
  obtain⟨g1,g2⟩:=hf2 _ hs hc
  refine⟨rfl,hp2 _ hs hc,?_⟩
  rw [if_pos (by rw [dz h1,dz h2];rfl),g1,g2]
def l8 (l:List Int):List Int:=l.mergeSort fun x y=>decide (x≤y)
theorem MO (l:List Int):(l8 l).length=l.length:=List.length_mergeSort l
def mulM (m n:aj):aj:=⟨m.bD*n.bD%65536,l8 (m.atoms++n.atoms)⟩
def prods (a b:List aj):List aj:=a.flatMap fun m=>b.map (mulM m)
theorem K4 (a b:List aj) (m:aj):prods (a++ [m]) b=prods a b++b.map (mulM m):=by simp [prods]
noncomputable def mO (a b:List aj):Bool×List aj:=if bp (aI a)&&bp (aI b)then qV (prods a b)else(false,[])
theorem Oh {a b:Int} (h1:0≤a) (h2:a≤65535) (h3:0≤b) (h4:b≤65535):0≤a*b∧a*b≤65535*65535:=⟨Int.mul_nonneg h1 h3,Int.mul_le_mul h2 h4 h3 (by omega)⟩
theorem awO {p1:List aj×Unit→Bool} {f1:List aj×Unit→Bool×Unit} (hp1:∀a,Sh a→p1 (a,())=true) (hf1:∀a,Sh a→f1 (a,())=(bp (aI a),()))
  {p0:Int×Unit→Bool} {f0:Int×Unit→Int×Unit} (hp0:∀a,p0 (a,())=true) (hf0:∀a,f0 (a,())=(a%65536,()))
  {p2:List aj×Unit→Bool} {f2:List aj×Unit→Bool×List aj×List aj×Unit} (hp2:∀a,Sh a→Cb a→p2 (a,())=true) (hf2:∀a,Sh a→Cb a→(f2 (a,())).1=(qV a).1∧(f2 (a,())).2.2.1=(qV a).2)
  {p3:List (List Int)×Unit→Bool} {f3:List (List Int)×Unit→List Int×Unit} (hp3:∀a b:List Int,a.length≤100000000→b.length≤100000000→p3 ([a,b],())=true) (hf3:∀a b:List Int,a.length≤100000000→b.length≤100000000→f3 ([a,b],())=(a++b,()))
  {p4:List Int×Unit→Bool} {f4:List Int×Unit→List Int×Unit} (hp4:∀a:List Int,a.length≤8→p4 (a,())=true) (hf4:∀a:List Int,a.length≤8→f4 (a,())=(l8 a,()))
  (a b:List aj) (ha:Sh a) (hb:Sh b):ad7 (std 0).al p1 f1 p0 f0 p2 f2 p3 f3 p4 f4 (a,b,()) (fun y=>y=((mO a b).1,(mO a b).2,())):=by
 dsimp only [ad7,Tup.q,Tup.o]
 simp (disch:=omega) only [RR,hp1 a ha,hf1 a ha,hp1 b hb,hf1 b hb,aT,jv]
 unfold mO
 refine⟨fun h=> ?_,fun⟨h1,h2⟩=> ?_⟩
 ·rw [if_neg]
  rw [Bool.and_eq_true,aT,aT];rintro⟨g1,g2⟩
  rcases h with h | h
  ·exact h g1
  ·exact h g2
 have l1:=h1.len
 have l2:=h2.len
 rw [if_pos (by rw [dz h1,dz h2];rfl)]
 have mm:∀i j:Int,0≤i→i<a.length→0≤j→j<b.length→mOk ((a).getD (i).toNat default)∧mOk ((b).getD (j).toNat default):=fun i j i1 i2 j1 j2=>⟨h1.at (dJ i1 i2),h2.at (dJ j1 j2)⟩
 refine ak (fun(y:List aj×Int×Int×List aj×List aj×Unit)=>y.1=a∧y.2.1=a.length∧0≤y.2.2.1∧y.2.2.1≤a.length∧y.2.2.2.1=b∧y.2.2.2.2.1=prods (a.take y.2.2.1.toNat) b∧y.2.2.2.2.1.length≤12*y.2.2.1∧Sh y.2.2.2.2.1∧Cb y.2.2.2.2.1) (fun y=>(a.length-y.2.2.1).toNat)
  ⟨rfl,rfl,by simp,by simp,rfl,rfl,by simp,⟨by simp,fun m hm=>absurd hm (by simp)⟩,fun m hm=>absurd hm (by simp)⟩ ?_
 rintro⟨(a':List aj),(n:Int),(i:Int),(b':List aj),(o:List aj),⟨⟩⟩ hI
 dsimp only at hI ⊢
 obtain⟨rfl,rfl,h3,h4,rfl,h5,h6,h7,h8⟩:=hI
 simp (disch:=omega) only [RR]
 refine⟨fun h9=>⟨by omega,by omega,?_⟩,fun h9=> ?_⟩
 ·refine ak (fun(y:List aj×Int×Int×List aj×Int×Int×List aj×List aj×aj×Unit)=>y.1=a'∧y.2.1=a'.length∧y.2.2.1=i∧y.2.2.2.1=b'∧y.2.2.2.2.1=b'.length∧0≤y.2.2.2.2.2.1∧y.2.2.2.2.2.1≤b'.length∧y.2.2.2.2.2.2.1=b'∧y.2.2.2.2.2.2.2.2.1=((a').getD (i).toNat default)
    ∧y.2.2.2.2.2.2.2.1=o++(b'.take y.2.2.2.2.2.1.toNat).map (mulM ((a').getD (i).toNat default))∧Sh y.2.2.2.2.2.2.2.1∧Cb y.2.2.2.2.2.2.2.1) (fun y=>(b'.length-y.2.2.2.2.2.1).toNat)
   ⟨rfl,rfl,rfl,rfl,rfl,by simp,by simp,rfl,rfl,by simp,h7,h8⟩ ?_
  rintro⟨(a'':List aj),(n:Int),(i':Int),(b'':List aj),(nb:Int),(j:Int),(b3:List aj),(o':List aj),(m:aj),⟨⟩⟩ hI
  dsimp only at hI ⊢
  obtain⟨rfl,rfl,rfl,rfl,rfl,k1,k2,rfl,rfl,k3,k4,k5⟩:=hI
  have lo:(o'.length:Int)≤12*i'+j:=by
   rw [k3,List.length_append,List.length_map];have:=List.length_take_le j.toNat b3;omega
  by_cases hj:j<b3.length
  ·obtain⟨m1,m2⟩:=mm i' j h3 h9 k1 hj
   have e1:=m1.le
   have e2:=m2.le
   have la:(((a'').getD (i').toNat default).atoms++((b3).getD (j).toNat default).atoms).length≤8:=by rw [List.length_append];omega
   have hm:=Oh (show 0≤((a'').getD (i').toNat default).bD by have:=m1.1;omega) (by have:=m1.1;omega) (show 0≤((b3).getD (j).toNat default).bD by have:=m2.1;omega) (by have:=m2.1;omega)
   simp (disch:=omega) only [RR,hp3 ((a'').getD (i').toNat default).atoms ((b3).getD (j).toNat default).atoms (by omega) (by omega),hf3 ((a'').getD (i').toNat default).atoms ((b3).getD (j).toNat default).atoms (by omega) (by omega),hp4 _ la,hf4 _ la,hp0,hf0]
   refine⟨fun _=>⟨by omega,by omega,by simp only [List.length_cons,List.length_nil];omega,⟨by omega,by omega,?_,⟨?_,?_⟩,?_⟩,by omega⟩,fun h=>by omega⟩
   ·rw [←bL (d:=default) k1 hj rfl,List.map_append,k3,List.append_assoc];rfl
   ·rw [List.length_append];simp only [List.length_cons,List.length_nil];omega
   ·intro m hm
    rw [List.mem_append,List.mem_singleton]at hm
    rcases hm with hm | rfl
    ·exact k4.2 m hm
    ·dsimp only;rw [MO];omega
   ·intro m hm
    rw [List.mem_append,List.mem_singleton]at hm
    rcases hm with hm | rfl
    ·exact k5 m hm
    ·dsimp only;omega
  ·simp (disch:=omega) only [RR]
   refine⟨fun h=>absurd h hj,fun _=>⟨⟨by omega,by omega,?_,by omega,k4,k5⟩,by omega⟩⟩
   rw [←bL (d:=default) h3 h9 rfl,K4,←h5,k3,List.take_of_length_le (by omega)]
 ·obtain⟨g1,g2⟩:=hf2 _ h7 h8
  refine⟨hp2 _ h7 h8,?_⟩
  rw [g1,g2,h5,List.take_of_length_le (by omega)]
noncomputable def jg (a:List aj) (n:Int):List aj:=if bp (aI a)&&inB n 0 65535 then(mO a (dG n)).2 else []
theorem MQ (n:Int):Sh (dG n):=by
 unfold dG;split
 ·exact⟨by simp,fun m hm=>by rw [List.mem_singleton]at hm;subst hm;simp⟩
 ·exact⟨by simp,fun m hm=>absurd hm (by simp)⟩
theorem awP {p1:List aj×Unit→Bool} {f1:List aj×Unit→Bool×Unit} (hp1:∀a,Sh a→p1 (a,())=true) (hf1:∀a,Sh a→f1 (a,())=(bp (aI a),()))
  {p2:Int×Unit→Bool} {f2:Int×Unit→List aj×Unit} (hp2:∀n,p2 (n,())=true) (hf2:∀n,f2 (n,())=(dG n,()))
  {p3:Int×Unit→Bool} {f3:Int×Unit→Bool×Unit} (hp3:∀a,p3 (a,())=true) (hf3:∀a,f3 (a,())=(inB a 0 65535,()))
  {p4:List aj×List aj×Unit→Bool} {f4:List aj×List aj×Unit→Bool×List aj×Unit} (hp4:∀a b,Sh a→Sh b→p4 (a,b,())=true) (hf4:∀a b,Sh a→Sh b→f4 (a,b,())=((mO a b).1,(mO a b).2,()))
  (a:List aj) (n:Int) (ha:Sh a):ad8 (std 0).al p1 f1 p2 f2 p3 f3 p4 f4 (a,n,()) (fun y=>y=(jg a n,())):=by
 dsimp only [ad8,Tup.q,Tup.o]
 simp (disch:=omega) only [RR,hp1 a ha,hf1 a ha,hp2,hf2,hp3,hf3,hp4 a _ ha (MQ n),hf4 a _ ha (MQ n)]
 unfold jg
 refine⟨fun h=> ?_,fun⟨h1,h2⟩=> ?_⟩
 ·rw [if_neg];rw [Bool.and_eq_true];rintro⟨g1,g2⟩
  rcases h with h | h
  ·rw [g1]at h;cases h
  ·rw [g2]at h;cases h
 ·rw [h1,h2];rfl
end Go.TX.F
namespace Go.TX.F
open Go Go.AE Go.TX
noncomputable def K6 (op:Int) (x y:List aj):List aj×Bool:=
 if(bN x).2&& (bN y).2 then(dG (wdo op (bN x).1 (bN y).1),true)
 else if fQ x y=0∧op=4 then(x,true)
 else if fQ x y=0 then([],true)
 else if(bN x).2 then
  (if op=4∧(bN x).1=0 then([],true)else if(op=4∧(bN x).1=65535)∨(op=5∧(bN x).1=0)then(y,true)else([],false))
 else if(bN y).2 then
  (if op=4∧(bN y).1=0 then([],true)else if(op=4∧(bN y).1=65535)∨(op=5∧(bN y).1=0)then(x,true)else([],false))
 else([],false)
noncomputable def jw (op:Int) (x y:List aj):List aj×Bool:=
 if op=1 then((oH x y).2,(oH x y).1)else if op=2 then((oH x (jg y 65535)).2,(oH x (jg y 65535)).1)else if op=3 then((mO x y).2,(mO x y).1)else K6 op x y
theorem aI.sh {l:List aj}:aI l→Sh l:=fun h=>⟨by have:=h.len;omega,fun m hm=>by have:=(h.at hm).le;omega⟩
theorem ahP (l:List aj):Sh (qV l).2:=by
 unfold qV
 by_cases h:aI (nf l)
 ·rw [dz h];exact h.sh
 ·rw [dD h];exact⟨by simp,fun m hm=>absurd hm (by simp)⟩
theorem oI:Sh []:=⟨by simp,fun m hm=>absurd hm (by simp)⟩
theorem ahQ (a b:List aj):Sh (mO a b).2:=by unfold mO;split;exact ahP _;exact oI
theorem yC (a:List aj) (n:Int):Sh (jg a n):=by unfold jg;split;exact ahQ _ _;exact oI
theorem awQ {p1:List aj×List aj×Unit→Bool} {f1:List aj×List aj×Unit→Bool×Unit} (hp1:∀a b,Sh a→p1 (a,b,())=true) (hf1:∀a b,Sh a→f1 (a,b,())=(decide (fQ a b=0),()))
  {p2:Int×Unit→Bool} {f2:Int×Unit→List aj×Unit} (hp2:∀n,p2 (n,())=true) (hf2:∀n,f2 (n,())=(dG n,()))
  {p3:Int×Int×Int×Unit→Bool} {f3:Int×Int×Int×Unit→Int×Unit} (hp3:∀op a b,p3 (op,a,b,())=true) (hf3:∀op a b,f3 (op,a,b,())=(wdo op a b,()))
  {p4:List aj×List aj×Unit→Bool} {f4:List aj×List aj×Unit→Bool×List aj×Unit} (hp4:∀a b,Sh a→Sh b→p4 (a,b,())=true) (hf4:∀a b,Sh a→Sh b→f4 (a,b,())=((oH a b).1,(oH a b).2,()))
  {p5:List aj×List aj×Unit→Bool} {f5:List aj×List aj×Unit→Bool×List aj×Unit} (hp5:∀a b,Sh a→Sh b→p5 (a,b,())=true) (hf5:∀a b,Sh a→Sh b→f5 (a,b,())=((mO a b).1,(mO a b).2,()))
  {p6:List aj×Int×Unit→Bool} {f6:List aj×Int×Unit→List aj×Unit} (hp6:∀a n,Sh a→p6 (a,n,())=true) (hf6:∀a n,Sh a→f6 (a,n,())=(jg a n,()))
  {p7:List aj×Unit→Bool} {f7:List aj×Unit→Int×Bool×Unit} (hp7:∀a,Sh a→p7 (a,())=true) (hf7:∀a,Sh a→f7 (a,())=((bN a).1,(bN a).2,()))
  (op:Int) (x y:List aj) (hx:Sh x) (hy:Sh y):aec (std 0).al p1 f1 p2 f2 p3 f3 p4 f4 p5 f5 p6 f6 p7 f7 (op,x,y,()) (fun z=>z=((jw op x y).1,(jw op x y).2,())):=by
 dsimp only [aec,Tup.q,Tup.o]
 simp (disch:=omega) only [RR,hp1 x y hx,hf1 x y hx,hp2,hf2,hp3,hf3,hp4 x y hx hy,hf4 x y hx hy,hp4 x _ hx (yC y 65535),hf4 x _ hx (yC y 65535),hp5 x y hx hy,hf5 x y hx hy,hp6 y _ hy,hf6 y _ hy,hp7 x hx,hf7 x hx,hp7 y hy,hf7 y hy]
 unfold jw
 refine⟨fun h=>by rw [if_pos h],fun h=>⟨fun h1=>by rw [if_neg h,if_pos h1],fun h1=>⟨fun h2=>by rw [if_neg h,if_neg h1,if_pos h2],fun h2=> ?_⟩⟩⟩
 rw [if_neg h,if_neg h1,if_neg h2]
 unfold K6
 generalize bN x=nx
 generalize bN y=ny
 obtain⟨n,bn⟩:=nx
 obtain⟨m,bm⟩:=ny
 dsimp only
 by_cases e:fQ x y=0<;>by_cases o4:op=4<;>cases bn<;>cases bm<;>simp [e,o4]
 ·by_cases c:m=0<;>by_cases c2:m=65535<;>simp [c,c2]
 ·by_cases c:n=0<;>by_cases c2:n=65535<;>simp [c,c2]
 ·by_cases c:op=5<;>by_cases c2:m=0<;>simp [c,c2]
 ·by_cases c:op=5<;>by_cases c2:n=0<;>simp [c,c2]
noncomputable def tDo (t:List Atom) (op:Int) (x y:List aj):List Atom×List aj:=
 if(jw op x y).2 then(t,(jw op x y).1)else
 if op≠2∧0<fQ x y then(if(bG t ⟨4,op,y,x⟩).2<0 then([],[])else((bG t ⟨4,op,y,x⟩).1,gK (bG t ⟨4,op,y,x⟩).2))
 else(if(bG t ⟨4,op,x,y⟩).2<0 then([],[])else((bG t ⟨4,op,x,y⟩).1,gK (bG t ⟨4,op,x,y⟩).2))
noncomputable def tOk (t:List Atom) (op:Int) (x y:List aj):Bool:=(jw op x y).2 || !decide ((if op≠2∧0<fQ x y then(bG t ⟨4,op,y,x⟩).2 else(bG t ⟨4,op,x,y⟩).2)<0)
theorem awR {p1:List aj×List aj×Unit→Bool} {f1:List aj×List aj×Unit→Int×Unit} (hp1:∀a b,Sh a→p1 (a,b,())=true) (hf1:∀a b,Sh a→f1 (a,b,())=(fQ a b,()))
  {p2:Int×List aj×List aj×Unit→Bool} {f2:Int×List aj×List aj×Unit→List aj×Bool×Unit} (hp2:∀op x y,Sh x→Sh y→p2 (op,x,y,())=true) (hf2:∀op x y,Sh x→Sh y→f2 (op,x,y,())=((jw op x y).1,(jw op x y).2,()))
  {p3:List Atom×Atom×Unit→Bool} {f3:List Atom×Atom×Unit→List Atom×Int×Unit} (hp3:∀t a,t.length<1000000000→ShA a→p3 (t,a,())=true) (hf3:∀t a,t.length<1000000000→ShA a→f3 (t,a,())=((bG t a).1,(bG t a).2,()))
  {p4:Int×Unit→Bool} {f4:Int×Unit→List aj×Unit} (hp4:∀n,p4 (n,())=true) (hf4:∀n,f4 (n,())=(gK n,()))
  (t:List Atom) (op:Int) (x y:List aj) (ht:t.length<1000000000) (hx:Sh x) (hy:Sh y):aed (std 0).al p1 f1 p2 f2 p3 f3 p4 f4 (t,op,x,y,()) (fun z=>z.1=(tDo t op x y).1∧z.2.1=(tDo t op x y).2∧z.2.2.1=tOk t op x y):=by
 have s1:ShA ⟨4,op,x,y⟩:=⟨hx,hy⟩
 have s2:ShA ⟨4,op,y,x⟩:=⟨hy,hx⟩
 dsimp only [aed,Tup.q,Tup.o]
 simp (disch:=omega) only [RR,hp1 x y hx,hf1 x y hx,hp2 op x y hx hy,hf2 op x y hx hy,hp3 t _ ht s1,hf3 t _ ht s1,hp3 t _ ht s2,hf3 t _ ht s2,hp4,hf4]
 unfold tDo tOk
 refine⟨fun h=>by rw [if_pos h,h];exact⟨rfl,rfl,rfl⟩,fun h=> ?_⟩
 rw [if_neg (by rw [h];simp),h,Bool.false_or]
 generalize bG t ⟨4,op,y,x⟩=r1
 generalize bG t ⟨4,op,x,y⟩=r2
 generalize fQ x y=o
 by_cases c1:op=2<;>by_cases c2:0<o<;>by_cases c3:r1.2<0<;>by_cases c4:r2.2<0<;>simp [c1,c2,c3,c4]
theorem ahR:ShT []:=⟨by simp,fun m hm=>absurd hm (by simp)⟩
theorem nJ {α:Type} {d:α} {a b:List α} (h:a.length=b.length) (h2:All a.length (fun i=>a.getD i.toNat d=b.getD i.toNat d)):a=b:=by
 refine List.ext_getElem h fun i h3 h4=> ?_
 have:=h2 i (by omega) (by omega)
 dsimp only at this
 rw [show(i:Int).toNat=i from rfl,getD_lt h3,getD_lt h4]at this;exact this
end Go.TX.F
namespace Go.TX.F
open Go Go.AE Go.TX
theorem ae2 {a b:Int}:or2 a b=0↔a=0∧b=0:=by unfold or2;split<;>omega
theorem MR {a b:aj}:Oc a b=0↔a=b:=by
 unfold Oc;rw [ae2,kr,jm]
 constructor
 ·rintro⟨h1,h2⟩;cases a;cases b;simp_all
 ·rintro rfl;exact⟨rfl,rfl⟩
theorem MS:∀ {a b:List aj},a.length=b.length→Dy a b=0→a=b
 | [],[],_,_=>rfl | [],_::_,h,_=>by simp at h
 | _::_,[],h,_=>by simp at h
 | a::az,b::bs,hl,h=>by
  simp only [Dy]at h
  split at h
  ·exact absurd h (by assumption)
  ·rename_i h1
   rw [MR.1 (Classical.not_not.1 h1),MS (by simpa using hl) h]
theorem MU:∀a:List aj,Dy a a=0
 | []=>rfl
 | a::az=>by simp only [Dy,MR.2 rfl];simp [MU az]
theorem iR {a b:List aj}:fQ a b=0↔a=b:=by
 unfold fQ
 constructor
 ·intro h
  split at h
  ·exact absurd h (by assumption)
  ·rename_i h1
   have:=jm.1 (Classical.not_not.1 h1)
   exact MS (by omega) h
 ·rintro rfl;rw [if_neg (by rw [jm.2 rfl];simp),MU]
theorem nK {a b:Atom}:pq a b=true↔a=b:=by
 unfold pq
 rw [Bool.and_eq_true,Bool.and_eq_true,Bool.and_eq_true,decide_eq_true_eq,decide_eq_true_eq,decide_eq_true_eq,decide_eq_true_eq,iR,iR]
 constructor
 ·rintro⟨⟨⟨h1,h2⟩,h3⟩,h4⟩;cases a;cases b;simp_all
 ·rintro rfl;exact⟨⟨⟨rfl,rfl⟩,rfl⟩,rfl⟩
theorem pz {α:Type} {d:α} {l:List α} {G:α→Prop}:All l.length (fun i=>G (l.getD i.toNat d))↔∀m∈l,G m:=by
 constructor
 ·intro h m hm
  obtain⟨i,hi,rfl⟩:=List.getElem_of_mem hm
  have:=h i (by omega) (by omega)
  dsimp only at this
  rw [show(i:Int).toNat=i from rfl,getD_lt hi]at this;exact this
 ·intro h i h1 h2
  exact h _ (dJ h1 h2)
theorem bZ {p:List aj} {n:Int}:aX p n↔∀m∈p,∀k∈m.atoms,k<n:=by
 unfold aX Ob
 rw [pz (d:=default) (G:=fun m:aj=>All m.atoms.length (fun i=>¬n≤m.atoms.getD i.toNat default))]
 refine forall_congr' fun m=>forall_congr' fun _=> ?_
 rw [pz (d:=default) (G:=fun k:Int=>¬n≤k)]
 exact forall_congr' fun k=>forall_congr' fun _=>by omega
theorem dF {α:Type} {d:α} {R:α→α→Prop} (tr:∀ {a b c},R a b→R b c→R a c) {l:List α}:l.Pairwise R↔∀i:Int,0<i→i<l.length→R (l.getD (i-1).toNat d) (l.getD i.toNat d):=by
 rw [List.pairwise_iff_getElem]
 constructor
 ·intro h i h1 h2
  rw [getD_lt (by omega),getD_lt (by omega)]
  exact h _ _ (by omega) (by omega) (by omega)
 ·intro h i j hi hj hij
  obtain⟨n,rfl⟩:∃n,j=i+1+n:=⟨j-i-1,by omega⟩
  clear hij
  induction n with
  | zero=>
   have:=h (i+1:Nat) (by omega) (by omega)
   rw [show(((i+1:Nat):Int)-1).toNat=i by omega,show(((i+1:Nat):Int)).toNat=i+1 by omega,getD_lt hi,getD_lt (by omega)]at this
   exact this
  | succ n ih=>
   have h1:=ih (by omega)
   have:=h (i+1+n+1:Nat) (by omega) (by omega)
   rw [show(((i+1+n+1:Nat):Int)-1).toNat=i+1+n by omega,show(((i+1+n+1:Nat):Int)).toNat=i+1+n+1 by omega,getD_lt (by omega),getD_lt (by omega)]at this
   exact tr h1 this
theorem Oi {l:List Int}:Srt l↔l.Pairwise (· ≤ ·):=by
 rw [dF (d:=default) (R:=fun a b:Int=>a≤b) (fun h1 h2=>Int.le_trans h1 h2)]
 unfold Srt
 constructor
 ·intro h i h1 h2
  have:=h (i-1) (by omega) (by omega)
  dsimp only at this
  rw [show i-1+1=i by omega]at this;exact this
 ·intro h i h1 h2
  have:=h (i+1) (by omega) (by omega)
  rw [show i+1-1=i by omega]at this;exact this
theorem fK {a b c:aj} (h1:lt a b) (h2:lt b c):lt a c:=dW (le_of_lt h1) h2
def aok (l:List Int):Prop:=l.Pairwise (· ≤ ·)∧∀k∈l,0≤k∧k≤199
theorem iC {p:List aj}:aI p↔Nf p∧p.length≤12∧∀m∈p,m.atoms.length≤4∧aok m.atoms:=by
 constructor
 ·rintro⟨h1,h2,h3,h4⟩
  have h1':∀m∈p,mOk m:=pz (d:=default) (G:=mOk).1 (fun i g1 g2=>(h1 i g1 g2).1)
  have h4':∀m∈p,¬(0<m.atoms.length∧m.atoms.getD 0 default<0):=pz (d:=default) (G:=fun m:aj=>¬(0<m.atoms.length∧m.atoms.getD 0 default<0)).1 h4
  refine⟨⟨(dF (d:=default) (R:=lt) fK).2 fun i g1 g2=>(h1 i (by omega) g2).2 g1,fun m hm=>(h1' m hm).1⟩,h2,fun m hm=>⟨(h1' m hm).2.1,Oi.1 (h1' m hm).2.2,fun k hk=>⟨?_,by have:=bZ.1 h3 m hm k hk;omega⟩⟩⟩
  have hs:=Oi.1 (h1' m hm).2.2
  have hn:=h4' m hm
  cases ha:m.atoms with
  | nil=>rw [ha]at hk;exact absurd hk (by simp)
  | cons b l=>
   rw [ha]at hk hs hn
   simp at hn
   rcases List.mem_cons.1 hk with rfl | hk
   ·exact hn
   ·have:=List.rel_of_pairwise_cons hs hk;omega
 ·rintro⟨h1,h2,h3⟩
  refine⟨fun i g1 g2=>⟨⟨h1.co _ (dJ g1 g2),(h3 _ (dJ g1 g2)).1,Oi.2 (h3 _ (dJ g1 g2)).2.1⟩,fun g3=>(dF (d:=default) (R:=lt) fK).1 h1.ss i g3 g2⟩,h2,bZ.2 fun m hm k hk=>by have:=((h3 m hm).2.2 k hk);omega,?_⟩
  refine pz (d:=default) (G:=fun m:aj=>¬(0<m.atoms.length∧m.atoms.getD 0 default<0)).2 fun m hm=> ?_
  rintro⟨g1,g2⟩
  have:=(h3 m hm).2.2 _ (dJ (i:=0) (d:=default) (xs:=m.atoms) (by omega) (by omega))
  rw [show Int.toNat 0=0 from rfl]at this;omega
theorem ae3 {l:List aj} {k:List Int} (h:cf l k≠0):∃m∈l,m.atoms=k:=Classical.byContradiction fun h2=>h (iV fun m hm e=>h2 ⟨m,hm,e⟩)
theorem Nf.cf {o:List aj} (h:Nf o) {m:aj} (hm:m∈o):cf o m.atoms=m.bD:=by
 induction o with
 | nil=>exact absurd hm (by simp)
 | cons a o ih=>
  rw [bY]
  rcases List.mem_cons.1 hm with rfl | hm
  ·rw [if_pos rfl,iV (fun m' hm'=>((List.rel_of_pairwise_cons h.ss hm').ne).symm)];omega
  ·rw [if_neg (List.rel_of_pairwise_cons h.ss hm).ne,ih ⟨h.ss.tail,fun m hm=>h.co m (by simp [hm])⟩ hm];omega
theorem Nf.from {o l:List aj} (h:Nf o) (h2:∀k,F.cf o k=F.cf l k%65536) {m:aj} (hm:m∈o):∃m'∈l,m'.atoms=m.atoms:=by
 refine ae3 fun e=> ?_
 have:=h2 m.atoms
 rw [h.cf hm,e]at this
 have:=h.co m hm;omega
theorem Nf.bnd {o:List aj} (h:Nf o) (k:List Int):0≤F.cf o k∧F.cf o k≤65535:=by
 by_cases e:F.cf o k=0
 ·omega
 ·obtain⟨m,hm,rfl⟩:=ae3 e
  rw [h.cf hm];have:=h.co m hm;omega
theorem ahS {l o:List aj} (h:Nf o) (h2:∀k,F.cf o k=F.cf l k%65536) (h3:∀m∈l,aok m.atoms):
  qV l=(decide (o.length≤12∧∀m∈o,m.atoms.length≤4),if o.length≤12∧∀m∈o,m.atoms.length≤4 then o else []):=by
 unfold qV
 rw [ZX h h2]
 by_cases c:o.length≤12∧∀m∈o,m.atoms.length≤4
 ·have:aI o:=iC.2 ⟨h,c.1,fun m hm=>⟨c.2 m hm,by obtain⟨m',g1,g2⟩:=h.from h2 hm;rw [←g2];exact h3 m' g1⟩⟩
  rw [dz this,decide_eq_true c,if_pos rfl,if_pos c]
 ·have:¬aI o:=fun g=>c ⟨(iC.1 g).2.1,fun m hm=>((iC.1 g).2.2 m hm).1⟩
  rw [dD this,decide_eq_false c,if_neg (by simp),if_neg c]
end Go.TX.F
namespace Go.TX.F
open Go Go.AE Go.TX
theorem ae4 (a b c:Int):UJ (std 0).al (a,b,c,()) (fun y=>y=(inB a b c,())):=by
 dsimp only [UJ,Tup.q,Tup.o]
 simp (disch:=omega) only [RR]
 rfl
theorem ae5 (a:Int):UK (std 0).al (a,()) (fun y=>y=(inB a 0 65535,())):=by
 dsimp only [UK,Tup.q,Tup.o]
 simp (disch:=omega) only [RR]
 refine congrArg (fun b=>(b,())) ?_
 rw [Bool.eq_iff_iff,dA,Bool.and_eq_true,decide_eq_true_eq,decide_eq_true_eq];omega
theorem aoL {p1:Int×Int×Int×Unit→Bool} {f1:Int×Int×Int×Unit→Bool×Unit} (hp1:∀a b c,p1 (a,b,c,())=true) (hf1:∀a b c,f1 (a,b,c,())=(inB a b c,())) (a:Int):
  Vj (std 0).al p1 f1 (a,()) (fun y=>y=(dG a,())):=by
 dsimp only [Vj,Tup.q,Tup.o]
 simp (disch:=omega) only [RR,hp1,hf1,dA,l7]
 unfold dG
 exact⟨fun h=>by rw [if_neg (by omega)],fun h=>by rw [if_pos (by omega)]⟩
theorem aoM {p1:Int×Int×Int×Unit→Bool} {f1:Int×Int×Int×Unit→Bool×Unit} (hp1:∀a b c,p1 (a,b,c,())=true) (hf1:∀a b c,f1 (a,b,c,())=(inB a b c,())) (a:Int):
  UU (std 0).al p1 f1 (a,()) (fun y=>y=(gK a,())):=by
 dsimp only [UU,Tup.q,Tup.o]
 simp (disch:=omega) only [RR,hp1,hf1,dA,l7]
 unfold gK
 exact⟨fun h=>by rw [if_neg (by omega)],fun h=>by rw [if_pos (by omega)]⟩
theorem ae6 (a:Int):a.tmod 65536=if 0≤a then a%65536 else- (-a%65536):=by
 split
 ·rw [Int.tmod_eq_emod_of_nonneg (by omega)]
 ·have:=Int.neg_tmod (-a) 65536
  rw [Int.neg_neg]at this;rw [this,Int.tmod_eq_emod_of_nonneg (by omega)]
theorem ae7 (a:Int):Vk (std 0).al (a,()) (fun y=>y=(a%65536,())):=by
 dsimp only [Vk,Tup.q,Tup.o]
 simp only [aeV]
 by_cases h:0≤a
 ·rw [show a.tmod 65536=a%65536 by rw [ae6,if_pos h]]
  simp (disch:=omega) only [RR]
  refine⟨by omega,fun h2=> ?_⟩
  exfalso;omega
 ·rw [show a.tmod 65536= - (-a%65536) by rw [ae6,if_neg h]]
  simp (disch:=omega) only [RR]
  refine⟨by omega,fun h2=> ?_,fun h2=> ?_⟩
  ·rw [show-(-a%65536)+65536=a%65536 by omega]
  ·rw [show-(-a%65536)=a%65536 by omega]
theorem ae8 (a b:List Int) (ha:a.length<1000000000):UY (std 0).al (a,b,()) (fun y=>y=(dR a b,())):=by
 dsimp only [UY,Tup.q,Tup.o]
 simp (disch:=omega) only [RR]
 refine⟨fun h=>⟨fun h1=> ?_,fun h1=> ?_⟩,fun h=> ?_⟩
 ·rw [show dR a b= -1 by(have e:gX a.length b.length= -1:=by unfold gX;rw [if_pos h1]);unfold dR or2;rw [e];rfl]
 ·rw [show dR a b=1 by(have e:gX a.length b.length=1:=by unfold gX;rw [if_neg h1,if_pos (by omega)]);unfold dR or2;rw [e];rfl]
 have hl:a.length=b.length:=by omega
 have e0:dR a b=kR a b:=by unfold dR or2;rw [jm.2 (by omega),if_neg (by simp)]
 refine ak (fun(y:List Int×List Int×Int×Unit)=>y.1=a∧y.2.1=b∧0≤y.2.2.1∧y.2.2.1≤a.length∧dR a b=kR (a.drop y.2.2.1.toNat) (b.drop y.2.2.1.toNat)) (fun y=>(a.length-y.2.2.1).toNat) ⟨rfl,rfl,by simp,by simp,by simpa using e0⟩ ?_
 rintro⟨(l1:List Int),(l2:List Int),(i:Int),⟨⟩⟩ hI
 dsimp only at hI ⊢
 obtain⟨rfl,rfl,h1,h2,h3⟩:=hI
 simp (disch:=omega) only [RR]
 refine⟨fun h4=> ?_,fun h4=> ?_⟩
 ·have e:=Dx l1 l2 i.toNat (by omega) (by omega)
  rw [getD_lt (by omega),getD_lt (by omega)]
  refine⟨by omega,by omega,by omega,by omega,fun h5=> ?_,fun h5=>⟨by omega,by omega,by omega,by omega,fun h6=> ?_,fun h6=>⟨⟨by omega,by omega,?_⟩,by omega⟩⟩⟩
  ·rw [h3,e,show gX l1[i.toNat] l2[i.toNat]= -1 by unfold gX;rw [if_pos h5]];rfl
  ·rw [h3,e,show gX l1[i.toNat] l2[i.toNat]=1 by unfold gX;rw [if_neg h5,if_pos h6]];rfl
  ·rw [h3,e,show gX l1[i.toNat] l2[i.toNat]=0 by unfold gX;rw [if_neg h5,if_neg h6],show(i+1).toNat=i.toNat+1 by omega];rfl
 ·rw [h3,List.drop_eq_nil_of_le (by omega),List.drop_eq_nil_of_le (by omega)];rfl
theorem aoN {p1:Int×Int×Int×Unit→Bool} {f1:Int×Int×Int×Unit→Bool×Unit} (hp1:∀a b c,p1 (a,b,c,())=true) (hf1:∀a b c,f1 (a,b,c,())=(inB a b c,())) (m:aj) (hm:m.atoms.length<1000000000):
  UZ (std 0).al p1 f1 (m,()) (fun y=>y=(bp ((1≤m.bD∧m.bD≤65535)∧m.atoms.length≤4∧aok m.atoms),())):=by
 dsimp only [UZ,Tup.q,Tup.o]
 simp (disch:=omega) only [RR,hp1,hf1,dA,l7]
 refine⟨fun h=> ?_,fun⟨h1,h2⟩=> ?_⟩
 ·rw [dD];rintro⟨g1,g2,g3⟩;omega
 refine ak (fun(y:Int×aj×Unit)=>y.2.1=m∧0≤y.1∧y.1≤m.atoms.length∧All y.1 (fun i=>(0≤m.atoms.getD i.toNat default∧m.atoms.getD i.toNat default≤199)∧(0<i→m.atoms.getD (i-1).toNat default≤m.atoms.getD i.toNat default))) (fun y=>(m.atoms.length-y.1).toNat) ⟨rfl,by simp,by simp,All.zero⟩ ?_
 rintro⟨(i:Int),(m':aj),⟨⟩⟩ hI
 dsimp only at hI ⊢
 obtain⟨rfl,h3,h4,h5⟩:=hI
 simp (disch:=omega) only [RR,hp1,hf1,dA,l7]
 refine⟨fun h6=>⟨by omega,by omega,by by_cases c:0<i;(· right;omega);(· left;simp [c]),by by_cases c:0<i;(· right;omega);(· left;simp [c]),by omega,by omega,fun h7=> ?_,fun h7=>⟨⟨by omega,by omega,h5.snoc ⟨h7.1,fun c=> ?_⟩⟩,by omega⟩⟩,fun h6=> ?_⟩
 ·rw [dD];rintro⟨g1,g2,g3,g4⟩
  rcases h7 with h7 | ⟨h7,h8⟩
  ·exact h7 (g4 _ (dJ h3 h6))
  ·have:=(dF (d:=default) (R:=fun a b:Int=>a≤b) (fun h1 h2=>Int.le_trans h1 h2)).1 g3 i h7 h6;omega
 ·have:=h7.2;rw [decide_eq_true c,Bool.true_and,decide_eq_false_iff_not]at this;omega
 ·have h8:=h5.le (by omega:(m'.atoms.length:Int)≤i)
  rw [dz]
  refine⟨by omega,by omega,(dF (d:=default) (R:=fun a b:Int=>a≤b) (fun h1 h2=>Int.le_trans h1 h2)).2 fun j j1 j2=>(h8 j (by omega) j2).2 j1,pz (d:=default) (G:=fun k:Int=>0≤k∧k≤199).1 fun j j1 j2=>(h8 j j1 j2).1⟩
theorem aoO {p1:aj×Unit→Bool} {f1:aj×Unit→Bool×Unit} (hp1:∀m:aj,m.atoms.length<1000000000→p1 (m,())=true) (hf1:∀m:aj,m.atoms.length<1000000000→f1 (m,())=(bp ((1≤m.bD∧m.bD≤65535)∧m.atoms.length≤4∧aok m.atoms),()))
  {p4:List Int×List Int×Unit→Bool} {f4:List Int×List Int×Unit→Int×Unit} (hp4:∀a b,a.length<1000000000→p4 (a,b,())=true) (hf4:∀a b,a.length<1000000000→f4 (a,b,())=(dR a b,()))
  (a:List aj) (ha:Sh a):U0 (std 0).al p1 f1 p4 f4 (a,()) (fun y=>y=(bp (aI a),())):=by
 have hlen:=ha.1
 dsimp only [U0,Tup.q,Tup.o]
 simp (disch:=omega) only [RR]
 refine⟨fun h=> ?_,fun h=> ?_⟩
 ·rw [dD (fun h2=>by have:=h2.len;omega)]
 refine ak (fun(y:Int×List aj×Unit)=>y.2.1=a∧0≤y.1∧y.1≤a.length∧All y.1 (fun i=>((1≤((a).getD (i).toNat default).bD∧((a).getD (i).toNat default).bD≤65535)∧((a).getD (i).toNat default).atoms.length≤4∧aok ((a).getD (i).toNat default).atoms)∧(0<i→lt ((a).getD (i-1).toNat default) ((a).getD (i).toNat default)))) (fun y=>(a.length-y.1).toNat) ⟨rfl,by simp,by simp,All.zero⟩ ?_
 rintro⟨(i:Int),(l':List aj),⟨⟩⟩ hI
 dsimp only at hI ⊢
 obtain⟨rfl,h1,h2,h3⟩:=hI
 simp (disch:=omega) only [RR,hp1 _ (ha.at _),hf1 _ (ha.at _),hp4 _ _ (ha.at _),hf4 _ _ (ha.at _),aT,jv]
 refine⟨fun h4=>⟨by omega,by omega,by by_cases c:0<i;(· right;omega);(· left;simp [c]),by by_cases c:0<i;(· right;omega);(· left;simp [c]),by omega,by omega,fun h5=> ?_,fun h5=>⟨⟨by omega,by omega,h3.snoc ⟨h5.1,fun c=> ?_⟩⟩,by omega⟩⟩,fun h4=> ?_⟩
 ·rw [dD (fun h=> ?_)]
  obtain⟨g1,g2,g3⟩:=iC.1 h
  rcases h5 with h5 | ⟨h5,h6⟩
  ·exact h5 ⟨g1.co _ (dJ h1 h4),g3 _ (dJ h1 h4)⟩
  ·have:=(dF (d:=default) (R:=lt) fK).1 g1.ss i h5 h4
   unfold lt at this;omega
 ·have:=h5.2;rw [decide_eq_true c,Bool.true_and,decide_eq_false_iff_not]at this;unfold lt;omega
 ·have h8:=h3.le (by omega:(l'.length:Int)≤i)
  rw [dz]
  have h9:=pz (d:=default) (G:=fun m:aj=>(1≤m.bD∧m.bD≤65535)∧m.atoms.length≤4∧aok m.atoms).1 fun j j1 j2=>(h8 j j1 j2).1
  exact iC.2 ⟨⟨(dF (d:=default) (R:=lt) fK).2 fun j j1 j2=>(h8 j (by omega) j2).2 j1,fun m hm=>(h9 m hm).1⟩,by omega,fun m hm=>(h9 m hm).2⟩
end Go.TX.F
namespace Go.TX.F
open Go Go.AE Go.TX
theorem ae9 (a:List aj) (n:Int) (ha:Sh a):U2 (std 0).al (a,n,()) (fun y=>y=(bp (aX a n),())):=by
 have hlen:=ha.1
 dsimp only [U2,Tup.q,Tup.o]
 simp (disch:=omega) only [RR]
 refine ak (fun(y:Int×Int×List aj×Unit)=>y.1=n∧y.2.2.1=a∧0≤y.2.1∧y.2.1≤a.length∧All y.2.1 (fun i=>Ob n ((a).getD (i).toNat default))) (fun y=>(a.length-y.2.1).toNat) ⟨rfl,rfl,by simp,by simp,All.zero⟩ ?_
 rintro⟨(n':Int),(i:Int),(l:List aj),⟨⟩⟩ hI
 dsimp only at hI ⊢
 obtain⟨rfl,rfl,h1,h2,h3⟩:=hI
 simp (disch:=omega) only [RR]
 refine⟨fun h4=> ?_,fun h4=> ?_⟩
 ·have h5:=ha.at i.toNat
  refine ak (fun(y:Int×Int×Int×List aj×Unit)=>y.1=n'∧y.2.1=i∧y.2.2.2.1=l∧0≤y.2.2.1∧y.2.2.1≤((l).getD (i).toNat default).atoms.length∧All y.2.2.1 (fun j=>¬n'≤((l).getD (i).toNat default).atoms.getD j.toNat default)) (fun y=>(((l).getD (i).toNat default).atoms.length-y.2.2.1).toNat) ⟨rfl,rfl,rfl,by simp,by simp,All.zero⟩ ?_
  rintro⟨(n'':Int),(i':Int),(j:Int),(l':List aj),⟨⟩⟩ hI
  dsimp only at hI ⊢
  obtain⟨rfl,rfl,rfl,g1,g2,g3⟩:=hI
  simp (disch:=omega) only [RR]
  refine⟨by omega,by omega,fun g4=>⟨by omega,by omega,by omega,by omega,fun g5=> ?_,fun g5=>⟨⟨by omega,by omega,g3.snoc g5⟩,by omega⟩⟩,fun g4=>⟨⟨by omega,by omega,h3.snoc (g3.le (by omega))⟩,by omega⟩⟩
  rw [dD (fun h=>h i' h1 h4 j g1 g4 g5)]
 ·rw [dz (show aX l n' from h3.le (by omega))]
theorem aoP {p4:List Int×List Int×Unit→Bool} {f4:List Int×List Int×Unit→Int×Unit} (hp4:∀a b,a.length<1000000000→p4 (a,b,())=true) (hf4:∀a b,a.length<1000000000→f4 (a,b,())=(dR a b,()))
  (a b:List aj) (ha:Sh a):U4 (std 0).al p4 f4 (a,b,()) (fun y=>y=(fQ a b,())):=by
 have hlen:=ha.1
 dsimp only [U4,Tup.q,Tup.o]
 simp (disch:=omega) only [RR]
 refine⟨fun h=>⟨fun h1=> ?_,fun h1=> ?_⟩,fun h=> ?_⟩
 ·rw [show fQ a b= -1 by(have e:gX a.length b.length= -1:=by unfold gX;rw [if_pos h1]);unfold fQ;rw [e];rfl]
 ·rw [show fQ a b=1 by(have e:gX a.length b.length=1:=by unfold gX;rw [if_neg h1,if_pos (by omega)]);unfold fQ;rw [e];rfl]
 have hl:a.length=b.length:=by omega
 have e0:fQ a b=Dy a b:=by unfold fQ;rw [jm.2 (by omega),if_neg (by simp)]
 refine ak (fun(y:Int×List aj×List aj×Unit)=>y.2.1=a∧y.2.2.1=b∧0≤y.1∧y.1≤a.length∧fQ a b=Dy (a.drop y.1.toNat) (b.drop y.1.toNat)) (fun y=>(a.length-y.1).toNat) ⟨rfl,rfl,by simp,by simp,by simpa using e0⟩ ?_
 rintro⟨(i:Int),(l:List aj),(l':List aj),⟨⟩⟩ hI
 dsimp only at hI ⊢
 obtain⟨rfl,rfl,h1,h2,h3⟩:=hI
 simp (disch:=omega) only [RR,hp4 _ _ (ha.at _),hf4 _ _ (ha.at _)]
 refine⟨fun h4=> ?_,fun h4=> ?_⟩
 ·have e:=Dz l l' i.toNat (by omega) (by omega)
  rw [getD_lt (by omega),getD_lt (by omega)]
  generalize hu:l[i.toNat]=u at e ⊢
  generalize hv:l'[i.toNat]=v at e ⊢
  have em:Oc u v=if dR u.atoms v.atoms≠0 then dR u.atoms v.atoms else gX u.bD v.bD:=rfl
  refine⟨by omega,by omega,by omega,by omega,fun h5=> ?_,fun h5=>⟨by omega,by omega,by omega,by omega,fun h6=>⟨by omega,by omega,by omega,by omega,fun h7=> ?_,fun h7=> ?_⟩,fun h6=>⟨⟨by omega,by omega,?_⟩,by omega⟩⟩⟩
  ·rw [if_pos h5]at em
   rw [h3,e,em,if_pos h5]
  ·rw [if_neg (by simpa using h5),show gX u.bD v.bD= -1 by unfold gX;rw [if_pos h7]]at em
   rw [h3,e,em];rfl
  ·rw [if_neg (by simpa using h5),show gX u.bD v.bD=1 by unfold gX;rw [if_neg h7,if_pos (by omega)]]at em
   rw [h3,e,em];rfl
  ·rw [if_neg (by simpa using h5),jm.2 h6]at em
   rw [h3,e,em,show(i+1).toNat=i.toNat+1 by omega];rfl
 ·rw [h3,List.drop_eq_nil_of_le (by omega)];rfl
theorem afa (a:Atom):U1 (std 0).al (a,()) (fun y=>y=(bp (a.x=[]∧a.y=[]),())):=by
 dsimp only [U1,Tup.q,Tup.o]
 simp (disch:=omega) only [RR]
 refine congrArg (fun b=>(b,())) ?_
 rw [Bool.eq_iff_iff,aT,Bool.and_eq_true,decide_eq_true_eq,decide_eq_true_eq]
 constructor
 ·rintro⟨h1,h2⟩;exact⟨List.eq_nil_of_length_eq_zero (by omega),List.eq_nil_of_length_eq_zero (by omega)⟩
 ·rintro⟨h1,h2⟩;rw [h1,h2];exact⟨rfl,rfl⟩
theorem aoQ {p1:Int×Int×Int×Unit→Bool} {f1:Int×Int×Int×Unit→Bool×Unit} (hp1:∀a b c,p1 (a,b,c,())=true) (hf1:∀a b c,f1 (a,b,c,())=(inB a b c,()))
  {p4:List aj×Unit→Bool} {f4:List aj×Unit→Bool×Unit} (hp4:∀a,Sh a→p4 (a,())=true) (hf4:∀a,Sh a→f4 (a,())=(bp (aI a),()))
  {p3:List aj×Int×Unit→Bool} {f3:List aj×Int×Unit→Bool×Unit} (hp3:∀a n,Sh a→p3 (a,n,())=true) (hf3:∀a n,Sh a→f3 (a,n,())=(bp (aX a n),()))
  {p5:Atom×Unit→Bool} {f5:Atom×Unit→Bool×Unit} (hp5:∀a,p5 (a,())=true) (hf5:∀a,f5 (a,())=(bp (a.x=[]∧a.y=[]),())) (a:Atom) (n:Int) (ha:ShA a):
  U3 (std 0).al p1 f1 p4 f4 p3 f3 p5 f5 (a,n,()) (fun y=>y=(bp (iD a n),())):=by
 obtain⟨hx,hy⟩:=ha
 dsimp only [U3,Tup.q,Tup.o]
 simp (disch:=omega) only [RR,hp1,hf1,hp5,hf5,hp3 a.x n hx,hf3 a.x n hx,hp3 a.y n hy,hf3 a.y n hy,hp4 a.x hx,hf4 a.x hx,hp4 a.y hy,hf4 a.y hy]
 unfold iD
 have E:∀(b:Bool) (P:Prop),(b=true↔P)→(b,())=(bp P,()):=fun b P h=>by
  rw [show b=bp P from Bool.eq_iff_iff.2 (h.trans aT.symm)]
 have T:∀ {P:Prop},¬P→(false,())=(bp P,()):=fun h=>by rw [dD h]
 refine⟨fun h=>E _ _ ?_,fun h=>⟨fun h1=>⟨fun _=>E _ _ ?_,fun h'=>absurd h1 h'⟩,fun h1=>⟨fun h2=>E _ _ ?_,fun h2=>⟨fun h3=>E _ _ ?_,fun h3=>T ?_⟩⟩⟩⟩
 ·rw [if_neg (by omega),Bool.and_eq_true,dA,aT]
  constructor
  ·rintro⟨g1,g2⟩;exact⟨g2,Or.inl ⟨h,g1⟩⟩
  ·rintro⟨g2,⟨_,g1⟩ | ⟨g3,g1⟩⟩
   ·exact⟨g1,g2⟩
   ·omega
 ·rw [if_neg (by omega),Bool.and_eq_true,dA,aT]
  constructor
  ·rintro⟨g1,g2⟩;exact⟨g2,Or.inr ⟨Or.inl h1,g1⟩⟩
  ·rintro⟨g2,⟨_,g1⟩ | ⟨g3,g1⟩⟩
   ·omega
   ·exact⟨g1,g2⟩
 ·rw [if_neg (by omega),Bool.and_eq_true,dA,aT]
  constructor
  ·rintro⟨g1,g2⟩;exact⟨g2,Or.inr ⟨Or.inr h2,g1⟩⟩
  ·rintro⟨g2,⟨_,g1⟩ | ⟨g3,g1⟩⟩
   ·omega
   ·exact⟨g1,g2⟩
 ·rw [if_pos h3]
  simp only [Bool.and_eq_true,dA,aT,and_assoc]
 ·rw [if_neg h3]
  rintro⟨_,⟨g,_⟩ | ⟨g,_⟩⟩<;>omega
theorem aoR {p1:List aj×List aj×Unit→Bool} {f1:List aj×List aj×Unit→Int×Unit} (hp1:∀a b,Sh a→p1 (a,b,())=true) (hf1:∀a b,Sh a→f1 (a,b,())=(fQ a b,())) (a b:Atom) (ha:ShA a):
  U5 (std 0).al p1 f1 (a,b,()) (fun y=>y=(pq a b,())):=by
 dsimp only [U5,Tup.q,Tup.o]
 simp (disch:=omega) only [RR,hp1 a.x b.x ha.1,hf1 a.x b.x ha.1,hp1 a.y b.y ha.2,hf1 a.y b.y ha.2]
 rfl
theorem afb (G:Int→Prop):∀n:Nat,∃r,Idx n G r
 | 0=>⟨-1,Or.inl ⟨rfl,All.zero⟩⟩
 | n+1=>by
  obtain⟨r,h⟩:=afb G n
  rcases h with⟨h1,h2⟩ | ⟨h1,h2,h3,h4⟩
  ·by_cases g:G n
   ·exact⟨n,Or.inr ⟨by omega,by omega,g,h2⟩⟩
   ·exact⟨-1,Or.inl ⟨rfl,by have:=h2.snoc g;exact this.le (by omega)⟩⟩
  ·exact⟨r,Or.inr ⟨h1,by omega,h3,h4⟩⟩
theorem XI (G:Int→Prop) (n:Nat):Idx n G (idxOf n G):=by
 obtain⟨r,h⟩:=afb G n
 rw [←h.eq];exact h
theorem lK (t:List Atom) (a:Atom):Idx t.length (fun i=>a=t.getD i.toNat default) (uD t a):=by
 have:=XI (fun i=>pq a (t.getD i.toNat default)=true) t.length
 simp only [nK]at this
 unfold uD;simp only [nK];exact this
theorem rX {t:List Atom}:aD t↔All t.length (fun i=>iD (t.getD i.toNat default) i∧All i (fun j=>¬t.getD i.toNat default=t.getD j.toNat default))∧t.length≤200:=by
 unfold aD
 refine and_congr ⟨fun h i h1 h2=>⟨(h i h1 h2).1,?_⟩,fun h i h1 h2=>⟨(h i h1 h2).1,?_⟩⟩ Iff.rfl
 ·have:=lK t (t.getD i.toNat default)
  rw [(h i h1 h2).2]at this
  rcases this with⟨g1,_⟩ | ⟨_,_,_,g⟩
  ·omega
  ·exact g
 ·exact((lK t (t.getD i.toNat default)).uniq (Or.inr ⟨h1,h2,rfl,(h i h1 h2).2⟩))
theorem aoS {p1:Atom×Int×Unit→Bool} {f1:Atom×Int×Unit→Bool×Unit} (hp1:∀a n,ShA a→p1 (a,n,())=true) (hf1:∀a n,ShA a→f1 (a,n,())=(bp (iD a n),()))
  {p2:Atom×Atom×Unit→Bool} {f2:Atom×Atom×Unit→Bool×Unit} (hp2:∀a b,ShA a→p2 (a,b,())=true) (hf2:∀a b,ShA a→f2 (a,b,())=(pq a b,())) (a:List Atom) (ha:ShT a):
  U6 (std 0).al p1 f1 p2 f2 (a,()) (fun y=>y=(bp (aD a),())):=by
 have hlen:=ha.1
 dsimp only [U6,Tup.q,Tup.o]
 simp (disch:=omega) only [RR]
 refine⟨fun h=> ?_,fun h=> ?_⟩
 ·rw [dD (fun h2=>by have:=h2.2;omega)]
 refine ak (fun(y:Int×List Atom×Unit)=>y.2.1=a∧0≤y.1∧y.1≤a.length∧All y.1 (fun i=>iD ((a).getD (i).toNat default) i∧All i (fun j=>¬((a).getD (i).toNat default)=((a).getD (j).toNat default)))) (fun y=>(a.length-y.1).toNat) ⟨rfl,by simp,by simp,All.zero⟩ ?_
 rintro⟨(i:Int),(l:List Atom),⟨⟩⟩ hI
 dsimp only at hI ⊢
 obtain⟨rfl,h1,h2,h3⟩:=hI
 simp (disch:=omega) only [RR,hp1 _ _ (ha.at _),hf1 _ _ (ha.at _),aT,jv]
 refine⟨fun h4=>⟨by omega,by omega,fun h5=> ?_,fun h5=> ?_⟩,fun h4=> ?_⟩
 ·rw [dD (fun h=>h5 (h.1 i h1 h4).1)]
 ·refine ak (fun(y:Int×Int×List Atom×Unit)=>y.1=i∧y.2.2.1=l∧0≤y.2.1∧y.2.1≤i∧All y.2.1 (fun j=>¬((l).getD (i).toNat default)=((l).getD (j).toNat default))) (fun y=>(i-y.2.1).toNat) ⟨rfl,rfl,by simp,by simp;omega,All.zero⟩ ?_
  rintro⟨(i':Int),(j:Int),(l':List Atom),⟨⟩⟩ hI
  dsimp only at hI ⊢
  obtain⟨rfl,rfl,g1,g2,g3⟩:=hI
  simp (disch:=omega) only [RR,hp2 _ _ (ha.at _),hf2 _ _ (ha.at _)]
  refine⟨fun g4=>⟨by omega,by omega,by omega,by omega,fun g5=> ?_,fun g5=>⟨⟨by omega,by omega,g3.snoc ?_⟩,by omega⟩⟩,fun g4=>⟨⟨by omega,by omega,h3.snoc ⟨h5,g3.le (by omega)⟩⟩,by omega⟩⟩
  ·rw [dD (fun h=>((rX.1 h).1 i' h1 h4).2 j g1 g4 (nK.1 g5).symm)]
  ·intro e;rw [nK.2 e.symm]at g5;cases g5
 ·rw [dz (rX.2 ⟨h3.le (by omega),by omega⟩)]
theorem aoT {p1:Int×Unit→Bool} {f1:Int×Unit→Bool×Unit} (hp1:∀a,p1 (a,())=true) (hf1:∀a,f1 (a,())=(inB a 0 65535,()))
  {p2:Int×Unit→Bool} {f2:Int×Unit→Int×Unit} (hp2:∀a,p2 (a,())=true) (hf2:∀a,f2 (a,())=(a%65536,())) (op a b:Int):
  Vy (std 0).al p2 f2 p1 f1 (op,a,b,()) (fun y=>y=(wdo op a b,())):=by
 dsimp only [Vy,Tup.q,Tup.o]
 simp (disch:=omega) only [RR,hp1,hf1,hp2,hf2,XG,XH,dA,l7]
 by_cases ha:(0≤a∧a≤65535)∧(0≤b∧b≤65535)
 ·have hm:0≤a*b∧a*b≤65535*65535:=⟨Int.mul_nonneg ha.1.1 ha.2.1,Int.mul_le_mul ha.1.2 ha.2.2 ha.2.1 (by omega)⟩
  rw [w64 (x:=a+b) (by omega) (by omega),w64 (x:=a-b) (by omega) (by omega),w64 (x:=a*b) (by omega) (by omega)]
  unfold wdo
  rw [if_pos ha]
  refine⟨fun h=>absurd h (by omega),fun _=>⟨fun h=> ?_,fun h=>⟨fun h1=> ?_,fun h1=>⟨fun h2=> ?_,fun h2=>⟨fun h3=> ?_,fun h3=>⟨fun h4=> ?_,fun h4=> ?_⟩⟩⟩⟩⟩⟩<;>(subst_vars;first | rfl | simp only [if_true,if_false, *])
 ·refine⟨fun h=> ?_,fun h=>absurd h ?_⟩
  ·unfold wdo;rw [if_neg ha]
  ·exact ha
theorem aoU {p1:List aj×Unit→Bool} {f1:List aj×Unit→Bool×Unit} (hp1:∀a,Sh a→p1 (a,())=true) (hf1:∀a,Sh a→f1 (a,())=(bp (aI a),())) (a:List aj) (ha:Sh a):
  Vx (std 0).al p1 f1 (a,()) (fun y=>y=((bN a).1,(bN a).2,())):=by
 dsimp only [Vx,Tup.q,Tup.o]
 simp (disch:=omega) only [RR,hp1 a ha,hf1 a ha]
 unfold bN
 have z:Int.toNat 0=0:=rfl
 rw [z]
 refine⟨fun h=> ?_,fun h=>⟨fun h1=> ?_,fun h1=>⟨by omega,by omega,fun h2=> ?_,fun h2=>⟨by omega,by omega,?_⟩⟩⟩⟩
 ·rw [if_neg (by simpa using h)]
 ·rw [if_pos h,if_pos (by omega)]
 ·rw [if_pos h,if_neg (by omega),if_neg (by omega)]
 ·rw [if_pos h,if_neg (by omega),if_pos (by omega)]
theorem afc (a:List aj) (ha:Sh a):Vb (std 0).al (a,()) (fun y=>y=(a,())):=by
 have hlen:=ha.1
 dsimp only [Vb,Tup.q,Tup.o]
 simp (disch:=omega) only [RR]
 refine ak (fun(y:List aj×Int×List aj×Unit)=>y.1=a∧y.2.2.1=a.take y.2.1.toNat∧0≤y.2.1∧y.2.1≤a.length) (fun y=>(a.length-y.2.1).toNat) ⟨rfl,by simp,by simp,by simp⟩ ?_
 rintro⟨(l:List aj),(i:Int),(o:List aj),⟨⟩⟩ hI
 dsimp only at hI ⊢
 obtain⟨rfl,rfl,h1,h2⟩:=hI
 have h3:=ha.at i.toNat
 have h4:=List.length_take_le' i.toNat l
 simp (disch:=omega) only [RR]
 simp only [List.length_nil,List.nil_append,List.length_cons]
 refine⟨fun h4=>⟨by omega,by omega,by omega,by omega,Or.inr (by omega),by omega,by omega,⟨bL h1 h4 rfl,by omega,by omega⟩,by omega⟩,fun h4=>by rw [List.take_of_length_le (by omega)]⟩
end Go.TX.F
namespace Go.TX.F
open Go Go.AE Go.TX
def K7 (l:List aj):Prop:=l.length≤12∧∀m∈l,m.atoms.length≤4
theorem aoV {p1:List aj×Unit→Bool} {f1:List aj×Unit→List aj×Unit} (hp1:∀a,Sh a→p1 (a,())=true) (hf1:∀a,Sh a→f1 (a,())=(a,())) (a:List aj) (ha:Sh a):
  Vn (std 0).al p1 f1 (a,()) (fun y=>y=(bp (K7 a),if bp (K7 a)then a else [],())):=by
 have hlen:=ha.1
 dsimp only [Vn,Tup.q,Tup.o]
 simp (disch:=omega) only [RR]
 refine⟨fun h=> ?_,fun h=> ?_⟩
 ·rw [dD (fun h2=>by have:=h2.1;omega)];rfl
 refine ak (fun(y:List aj×Int×Unit)=>y.1=a∧0≤y.2.1∧y.2.1≤a.length∧All y.2.1 (fun i=>((a).getD (i).toNat default).atoms.length≤4)) (fun y=>(a.length-y.2.1).toNat) ⟨rfl,by simp,by simp,All.zero⟩ ?_
 rintro⟨(l:List aj),(i:Int),⟨⟩⟩ hI
 dsimp only at hI ⊢
 obtain⟨rfl,h1,h2,h3⟩:=hI
 simp (disch:=omega) only [RR,hp1 l ha,hf1 l ha]
 refine⟨fun h4=>⟨by omega,by omega,fun h5=> ?_,fun h5=>⟨⟨by omega,by omega,h3.snoc (by omega)⟩,by omega⟩⟩,fun h4=> ?_⟩
 ·rw [dD (fun h=>by have:=h.2 _ (dJ (d:=default) h1 h4);omega)];rfl
 ·rw [dz (show K7 l from⟨by omega,pz (d:=default) (G:=fun m:aj=>m.atoms.length≤4).1 (h3.le (by omega))⟩)];rfl
theorem aoW {p1:List aj×Unit→Bool} {f1:List aj×Unit→List aj×Unit} (hp1:∀a,Sh a→p1 (a,())=true) (hf1:∀a,Sh a→f1 (a,())=(a,())) (a:Atom) (ha:ShA a):
  Vd (std 0).al p1 f1 (a,()) (fun y=>y=(a.kind,a.k,a.x,a.y,())):=by
 dsimp only [Vd,Tup.q,Tup.o]
 simp (disch:=omega) only [RR,hp1 a.x ha.1,hf1 a.x ha.1,hp1 a.y ha.2,hf1 a.y ha.2]
theorem aoX {p1:Atom×Unit→Bool} {f1:Atom×Unit→Int×Int×List aj×List aj×Unit} (hp1:∀a,ShA a→p1 (a,())=true) (hf1:∀a,ShA a→f1 (a,())=(a.kind,a.k,a.x,a.y,())) (a:List Atom) (ha:ShT a):
  Ve (std 0).al p1 f1 (a,()) (fun y=>y=(a,())):=by
 have hlen:=ha.1
 dsimp only [Ve,Tup.q,Tup.o]
 simp (disch:=omega) only [RR]
 refine ak (fun(y:Int×List Atom×List Atom×Unit)=>y.2.1=a∧y.2.2.1=a.take y.1.toNat∧0≤y.1∧y.1≤a.length) (fun y=>(a.length-y.1).toNat) ⟨rfl,by simp,by simp,by simp⟩ ?_
 rintro⟨(i:Int),(l:List Atom),(o:List Atom),⟨⟩⟩ hI
 dsimp only at hI ⊢
 obtain⟨rfl,rfl,h1,h2⟩:=hI
 simp (disch:=omega) only [RR,hp1 _ (ha.at _),hf1 _ (ha.at _)]
 have h5:=List.length_take_le' i.toNat l
 refine⟨fun h4=>⟨by omega,by omega,?_,⟨bL h1 h4 rfl,by omega,by omega⟩,by omega⟩,fun h4=>by rw [List.take_of_length_le (by omega)]⟩
 simp only [List.length_cons,List.length_nil];omega
theorem yD {p:List aj} {n m:Int} (h:aX p n) (h2:n≤m):aX p m:=bZ.2 fun a ha k hk=>by have:=bZ.1 h a ha k hk;omega
theorem afd {a:Atom} {n m:Int} (h:iD a n) (h2:n≤m):iD a m:=by
 unfold iD at h ⊢
 split
 ·rename_i h3;rw [if_pos h3]at h;exact⟨h.1,h.2.1,h.2.2.1,yD h.2.2.2.1 h2,yD h.2.2.2.2 h2⟩
 ·rename_i h3;rw [if_neg h3]at h;exact h
theorem aoY {p1:Atom×Int×Unit→Bool} {f1:Atom×Int×Unit→Bool×Unit} (hp1:∀a n,ShA a→p1 (a,n,())=true) (hf1:∀a n,ShA a→f1 (a,n,())=(bp (iD a n),()))
  {p2:Atom×Atom×Unit→Bool} {f2:Atom×Atom×Unit→Bool×Unit} (hp2:∀a b,ShA a→p2 (a,b,())=true) (hf2:∀a b,ShA a→f2 (a,b,())=(pq a b,()))
  {p3:Atom×Unit→Bool} {f3:Atom×Unit→Int×Int×List aj×List aj×Unit} (hp3:∀a,ShA a→p3 (a,())=true) (hf3:∀a,ShA a→f3 (a,())=(a.kind,a.k,a.x,a.y,()))
  (a:Atom) (t:List Atom) (ha:ShA a) (ht:ShT t) (hok:aD t):Vh (std 0).al p1 f1 p2 f2 p3 f3 (a,t,()) (fun y=>y=((bG t a).2,(bG t a).1,())):=by
 have hlen:=ht.1
 dsimp only [Vh,Tup.q,Tup.o]
 simp (disch:=omega) only [RR,hp1 _ _ ha,hf1 _ _ ha,aT,jv]
 have hsp:=lK t a
 refine⟨fun h=> ?_,fun h=> ?_⟩
 ·have:uD t a= -1:=by
   rcases hsp with⟨g,_⟩ | ⟨g1,g2,g3,_⟩
   ·exact g
   ·exfalso;apply h
    have:=(hok.1 _ g1 g2).1
    rw [←g3]at this;exact afd this (by omega)
  unfold bG
  rw [this,if_neg (by omega),if_pos (Or.inl h)]
 refine ak (fun(y:Int×List Atom×Atom×Unit)=>y.2.1=t∧y.2.2.1=a∧0≤y.1∧y.1≤t.length∧All y.1 (fun i=>¬a=t.getD i.toNat default)) (fun y=>(t.length-y.1).toNat) ⟨rfl,rfl,by simp,by simp,All.zero⟩ ?_
 rintro⟨(i:Int),(l:List Atom),(a':Atom),⟨⟩⟩ hI
 dsimp only at hI ⊢
 obtain⟨rfl,rfl,h1,h2,h3⟩:=hI
 simp (disch:=omega) only [RR,hp2 _ _ (ht.at _),hf2 _ _ (ht.at _),hp3 _ ha,hf3 _ ha]
 refine⟨fun h4=>⟨by omega,by omega,by omega,by omega,fun h5=> ?_,fun h5=>⟨⟨by omega,by omega,h3.snoc ?_⟩,by omega⟩⟩,fun h4=> ?_⟩
 ·have e:=(nK.1 h5).symm
  have:uD l a'=i:=hsp.uniq (Or.inr ⟨h1,h4,e,h3⟩)
  unfold bG;rw [this,if_pos h1]
 ·intro e;rw [nK.2 e.symm]at h5;cases h5
 ·have:uD l a'= -1:=hsp.uniq (Or.inl ⟨rfl,h3.le (by omega)⟩)
  unfold bG;rw [this,if_neg (by omega)]
  refine⟨fun h5=> ?_,fun h5=>⟨?_,?_⟩⟩
  ·rw [if_pos (Or.inr (by omega))]
  ·simp only [List.length_cons,List.length_nil];omega
  ·rw [if_neg (by rintro(g | g);exact g h;omega),List.length_append]
   rw [w64 (by simp only [List.length_cons,List.length_nil];omega) (by simp only [List.length_cons,List.length_nil];omega)]
   simp only [List.length_cons,List.length_nil]
   rw [show(((l.length+(0+1):Nat):Int)-1)=l.length by omega]
def EH (op n:Int) (y:List aj):List aj×Bool:=if op=4∧n=0 then([],true)else if(op=4∧n=65535)∨(op=5∧n=0)then(y,true)else([],false)
theorem aoZ {p1:List aj×Unit→Bool} {f1:List aj×Unit→List aj×Unit} (hp1:∀a,Sh a→p1 (a,())=true) (hf1:∀a,Sh a→f1 (a,())=(a,())) (op n:Int) (y:List aj) (hy:Sh y):
  Vz (std 0).al p1 f1 (op,n,y,()) (fun z=>z=((EH op n y).2,(EH op n y).1,())):=by
 dsimp only [Vz,Tup.q,Tup.o]
 simp (disch:=omega) only [RR,hp1 y hy,hf1 y hy]
 unfold EH
 by_cases c1:op=4<;>by_cases c2:n=0<;>by_cases c3:n=65535<;>by_cases c4:op=5<;>simp [c1,c2,c3,c4]<;>omega
theorem ahT (op:Int) (x y:List aj):K6 op x y=if(bN x).2&& (bN y).2 then(dG (wdo op (bN x).1 (bN y).1),true)
  else if fQ x y=0 then(if op=4 then(x,true)else([],true))else if(bN x).2 then EH op (bN x).1 y else if(bN y).2 then EH op (bN y).1 x else([],false):=by
 unfold K6 EH
 by_cases c1:fQ x y=0<;>by_cases c2:op=4<;>simp [c1,c2]
theorem ao0 {p1:List aj×List aj×Unit→Bool} {f1:List aj×List aj×Unit→Int×Unit} (hp1:∀a b,Sh a→p1 (a,b,())=true) (hf1:∀a b,Sh a→f1 (a,b,())=(fQ a b,()))
  {p2:List aj×Unit→Bool} {f2:List aj×Unit→List aj×Unit} (hp2:∀a,Sh a→p2 (a,())=true) (hf2:∀a,Sh a→f2 (a,())=(a,()))
  {p3:Int×Int×Int×Unit→Bool} {f3:Int×Int×Int×Unit→Int×Unit} (hp3:∀op a b,p3 (op,a,b,())=true) (hf3:∀op a b,f3 (op,a,b,())=(wdo op a b,()))
  {p4:Int×Unit→Bool} {f4:Int×Unit→List aj×Unit} (hp4:∀n,p4 (n,())=true) (hf4:∀n,f4 (n,())=(dG n,()))
  {p7:List aj×Unit→Bool} {f7:List aj×Unit→Int×Bool×Unit} (hp7:∀a,Sh a→p7 (a,())=true) (hf7:∀a,Sh a→f7 (a,())=((bN a).1,(bN a).2,()))
  {p8:Int×Int×List aj×Unit→Bool} {f8:Int×Int×List aj×Unit→Bool×List aj×Unit} (hp8:∀op n y,Sh y→p8 (op,n,y,())=true) (hf8:∀op n y,Sh y→f8 (op,n,y,())=((EH op n y).2,(EH op n y).1,()))
  (op:Int) (x y:List aj) (hx:Sh x) (hy:Sh y):VA (std 0).al p1 f1 p2 f2 p3 f3 p4 f4 p7 f7 p8 f8 (op,x,y,()) (fun z=>z=((K6 op x y).2,(K6 op x y).1,())):=by
 dsimp only [VA,Tup.q,Tup.o]
 simp (disch:=omega) only [RR,hp1 x y hx,hf1 x y hx,hp2 x hx,hf2 x hx,hp3,hf3,hp4,hf4,hp7 x hx,hf7 x hx,hp7 y hy,hf7 y hy,hp8 op _ y hy,hf8 op _ y hy,hp8 op _ x hx,hf8 op _ x hx]
 rw [ahT]
 generalize bN x=nx
 generalize bN y=ny
 obtain⟨n,bn⟩:=nx
 obtain⟨m,bm⟩:=ny
 dsimp only
 by_cases e:fQ x y=0<;>by_cases o4:op=4<;>cases bn<;>cases bm<;>simp [e,o4]
noncomputable def K8 (op:Int) (x y:List aj):List aj×Bool:=
 if op=1 then((oH x y).2,(oH x y).1)else if op=2 then((oH x (jg y 65535)).2,(oH x (jg y 65535)).1)else if op=3 then((mO x y).2,(mO x y).1)else([],false)
theorem ao1
  {p5:List aj×List aj×Unit→Bool} {f5:List aj×List aj×Unit→Bool×List aj×Unit} (hp5:∀a b,Sh a→Sh b→p5 (a,b,())=true) (hf5:∀a b,Sh a→Sh b→f5 (a,b,())=((mO a b).1,(mO a b).2,()))
  {p4:List aj×List aj×Unit→Bool} {f4:List aj×List aj×Unit→Bool×List aj×Unit} (hp4:∀a b,Sh a→Sh b→p4 (a,b,())=true) (hf4:∀a b,Sh a→Sh b→f4 (a,b,())=((oH a b).1,(oH a b).2,()))
  {p6:List aj×Int×Unit→Bool} {f6:List aj×Int×Unit→List aj×Unit} (hp6:∀a n,Sh a→p6 (a,n,())=true) (hf6:∀a n,Sh a→f6 (a,n,())=(jg a n,()))
  (op:Int) (x y:List aj) (hx:Sh x) (hy:Sh y):Vw (std 0).al p5 f5 p4 f4 p6 f6 (op,x,y,()) (fun z=>z=((K8 op x y).2,(K8 op x y).1,())):=by
 dsimp only [Vw,Tup.q,Tup.o]
 simp (disch:=omega) only [RR,hp4 x y hx hy,hf4 x y hx hy,hp4 x _ hx (yC y 65535),hf4 x _ hx (yC y 65535),hp5 x y hx hy,hf5 x y hx hy,hp6 y _ hy,hf6 y _ hy]
 unfold K8
 refine⟨fun h=>by rw [if_pos h],fun h=>⟨fun h1=>by rw [if_neg h,if_pos h1],fun h1=>⟨fun h2=>by rw [if_neg h,if_neg h1,if_pos h2],fun h2=>by rw [if_neg h,if_neg h1,if_neg h2]⟩⟩⟩
theorem ao2 {p1:Int×Unit→Bool} {f1:Int×Unit→List aj×Unit} (hp1:∀n,p1 (n,())=true) (hf1:∀n,f1 (n,())=(gK n,()))
  {p2:List aj×List aj×Unit→Bool} {f2:List aj×List aj×Unit→Int×Unit} (hp2:∀a b,Sh a→p2 (a,b,())=true) (hf2:∀a b,Sh a→f2 (a,b,())=(fQ a b,()))
  {p3:Int×List aj×List aj×Unit→Bool} {f3:Int×List aj×List aj×Unit→Bool×List aj×Unit} (hp3:∀op x y,Sh x→Sh y→p3 (op,x,y,())=true) (hf3:∀op x y,Sh x→Sh y→f3 (op,x,y,())=((K8 op x y).2,(K8 op x y).1,()))
  {p4:Int×List aj×List aj×Unit→Bool} {f4:Int×List aj×List aj×Unit→Bool×List aj×Unit} (hp4:∀op x y,Sh x→Sh y→p4 (op,x,y,())=true) (hf4:∀op x y,Sh x→Sh y→f4 (op,x,y,())=((K6 op x y).2,(K6 op x y).1,()))
  {p5:Atom×List Atom×Unit→Bool} {f5:Atom×List Atom×Unit→Int×List Atom×Unit} (hp5:∀a t,ShA a→ShT t→aD t→p5 (a,t,())=true) (hf5:∀a t,ShA a→ShT t→aD t→f5 (a,t,())=((bG t a).2,(bG t a).1,()))
  (op:Int) (x y:List aj) (t:List Atom) (hop:1≤op∧op≤5) (hx:Sh x) (hy:Sh y) (ht:ShT t) (hok:aD t):VG (std 0).al p1 f1 p2 f2 p3 f3 p4 f4 p5 f5 (op,x,y,t,()) (fun z=>z=((tDo t op x y).1,(tDo t op x y).2,())):=by
 have s1:ShA ⟨4,op,x,y⟩:=⟨hx,hy⟩
 have s2:ShA ⟨4,op,y,x⟩:=⟨hy,hx⟩
 dsimp only [VG,Tup.q,Tup.o]
 simp (disch:=omega) only [RR,hp1,hf1,hp2 x y hx,hf2 x y hx,hp3 op x y hx hy,hf3 op x y hx hy,hp4 op x y hx hy,hf4 op x y hx hy,hp5 _ _ s1 ht hok,hf5 _ _ s1 ht hok,hp5 _ _ s2 ht hok,hf5 _ _ s2 ht hok]
 have e1:(op=4∨op=5)→K6 op x y=jw op x y:=fun h=>by unfold jw;rw [if_neg (by omega),if_neg (by omega),if_neg (by omega)]
 have e2:¬(op=4∨op=5)→K8 op x y=jw op x y:=fun h=>by
  unfold jw K8
  by_cases c1:op=1
  ·rw [if_pos c1,if_pos c1]
  ·rw [if_neg c1,if_neg c1]
   by_cases c2:op=2
   ·rw [if_pos c2,if_pos c2]
   ·rw [if_neg c2,if_neg c2,if_pos (by omega),if_pos (by omega)]
 unfold tDo
 by_cases c:op=4∨op=5
 ·rw [e1 c]
  generalize bG t ⟨4,op,y,x⟩=r1
  generalize bG t ⟨4,op,x,y⟩=r2
  generalize fQ x y=o
  generalize jw op x y=s
  obtain⟨p,b⟩:=s
  have c':¬op=2:=by omega
  cases b<;>by_cases c2:0<o<;>by_cases c3:r1.2<0<;>by_cases c4:r2.2<0<;>simp [c,c',c2,c3,c4]<;>omega
 ·rw [e2 c]
  generalize bG t ⟨4,op,y,x⟩=r1
  generalize bG t ⟨4,op,x,y⟩=r2
  generalize fQ x y=o
  generalize jw op x y=s
  obtain⟨p,b⟩:=s
  obtain⟨n4,n5⟩:=not_or.1 c
  cases b<;>by_cases c1:op=2<;>by_cases c2:0<o<;>by_cases c3:r1.2<0<;>by_cases c4:r2.2<0<;>simp [n4,n5,c1,c2,c3,c4]
end Go.TX.F
namespace Go.TX.F
open Go Go.AE Go.TX
structure Plus (l:List aj) (m:aj) (o:List aj):Prop where
 nf:Nf o
 cf:∀k,cf o k=F.cf (l++ [m]) k%65536
 len:o.length≤l.length+1
theorem ao3 {p1:List Int×List Int×Unit→Bool} {f1:List Int×List Int×Unit→Int×Unit} (hp1:∀a b,a.length<1000000000→p1 (a,b,())=true) (hf1:∀a b,a.length<1000000000→f1 (a,b,())=(dR a b,()))
    {p2:Int×Unit→Bool} {f2:Int×Unit→Int×Unit} (hp2:∀a,p2 (a,())=true) (hf2:∀a,f2 (a,())=(a%65536,()))
    (l:List aj) (m:aj) (hl:l.length<1000000000) (hn:Nf l) (hm:1≤m.bD∧m.bD≤65535) (hma:m.atoms.length<1000000000):Vm (std 0).al p1 f1 p2 f2 (l,m,()) (fun y=>Plus l m y.1):=by
  dsimp only [Vm,Tup.q,Tup.o]
  refine ak (fun(y:List aj×Bool×Int×aj×List aj×Unit)=>y.1=l∧y.2.2.2.1=m∧0≤y.2.2.1∧y.2.2.1≤l.length∧
      ((y.2.1=false∧y.2.2.2.2.1=l.take y.2.2.1.toNat∧∀x∈l.take y.2.2.1.toNat,lt x m)∨
       (y.2.1=true∧Nf y.2.2.2.2.1∧(∀k,cf y.2.2.2.2.1 k=cf (l.take y.2.2.1.toNat++ [m]) k%65536)∧(y.2.2.2.2.1.length:Int)≤y.2.2.1+1∧(y.2.2.1<l.length→lt m ((l).getD (y.2.2.1).toNat default)∧∀x∈y.2.2.2.2.1,lt x ((l).getD (y.2.2.1).toNat default))))) (fun y=>(l.length-y.2.2.1).toNat)
    ⟨rfl,rfl,by simp,by simp,Or.inl ⟨rfl,by simp,by simp⟩⟩ ?_
  rintro⟨(l':List aj),(dn:Bool),(i:Int),(m':aj),(o:List aj),⟨⟩⟩ hI
  dsimp only at hI ⊢
  obtain⟨rfl,rfl,h1,h2,h3⟩:=hI
  simp (disch:=omega) only [RR,hp1 _ _ hma,hf1 _ _ hma,hp2,hf2]
  have hss:=hn.ss
  have nx:i+1<l'.length→lt ((l').getD (i).toNat default) ((l').getD (i+1).toNat default):=fun h=>by
    have:=(dF (d:=default) (R:=lt) fK).1 hss (i+1) (by omega) h
    rw [show i+1-1=i by omega]at this;exact this
  have tk:i<l'.length→l'.take (i+1).toNat=l'.take i.toNat++ [((l').getD (i).toNat default)]:=fun h=>(bL h1 h rfl).symm
  have bf:i<l'.length→∀x∈l'.take i.toNat,lt x ((l').getD (i).toNat default):=fun h x hx=>by
    have:=hss
    rw [←List.take_append_drop i.toNat l',List.pairwise_append]at this
    refine this.2.2 x hx _ ?_
    rw [getD_lt (by omega),List.drop_eq_getElem_cons (show i.toNat<l'.length by omega)];exact List.mem_cons_self
  have lt0:=List.length_take_le' i.toNat l'
  have lt1:=List.length_take_le i.toNat l'
  have co:i<l'.length→1≤((l').getD (i).toNat default).bD∧((l').getD (i).toNat default).bD≤65535:=fun h=>hn.co _ (dJ h1 h)
  have ntk:Nf (l'.take i.toNat):=⟨List.Pairwise.sublist (List.take_sublist _ _) hss,fun x hx=>hn.co x (List.mem_of_mem_take hx)⟩
  have afe:∀ {a:List aj} {x:aj},Nf a→(∀y∈a,lt y x)→1≤x.bD∧x.bD≤65535→Nf (a++ [x]):=fun {a x} g1 g2 g3=>⟨by
    rw [List.pairwise_append]
    exact⟨g1.ss,List.pairwise_singleton _ _,fun y hy z hz=>by rw [List.mem_singleton]at hz;subst hz;exact g2 y hy⟩,fun y hy=>by
    rw [List.mem_append,List.mem_singleton]at hy
    rcases hy with hy | rfl
    · exact g1.co y hy
    · exact g3⟩
  have l1:∀(x:List aj) (y:aj),(x++ [y]).length=x.length+1:=fun x y=>by rw [List.length_append];rfl
  have fin:∀o,i=l'.length→Nf o→(∀k,cf o k=cf (l'.take i.toNat++ [m']) k%65536)→(o.length:Int)≤i+1→Plus l' m' o:=fun o e g1 g2 g3=>⟨g1,fun k=>by rw [g2 k,List.take_of_length_le (by omega)],by omega⟩
  by_cases hi:i<l'.length
  · have nx:=nx
    have tk:=tk hi
    have bf:=bf hi
    have co:=co hi
    rw [tk]
    have hv:∀ {P:Prop},P→(∀x,x=((l').getD (i).toNat default)→P)→P:=fun h _=>h
    generalize ((l').getD (i).toNat default)=v at nx tk bf co h3 ⊢
    have cfs:∀k,cf (l'.take i.toNat++ [v]++ [m']) k=cf (l'.take i.toNat) k+(if v.atoms=k then v.bD else 0)+(if m'.atoms=k then m'.bD else 0):=fun k=>by
      rw [dw,dw,bY,bY,kS];simp only [Int.add_zero]
    have cfm:∀k,cf (l'.take i.toNat++ [m']) k=cf (l'.take i.toNat) k+(if m'.atoms=k then m'.bD else 0):=fun k=>by
      rw [dw,bY,kS,Int.add_zero]
    rcases h3 with⟨rfl,rfl,h4⟩ | ⟨rfl,h4,h5,h6,h7⟩
    ·
      simp (disch:=omega) only [RR,decide_true,Bool.not_false,Bool.true_and,decide_eq_true_eq,hi]
      by_cases c1:dR m'.atoms v.atoms<0
      · have c2:¬dR m'.atoms v.atoms=0:=by omega
        simp (disch:=omega) only [RR,c1,c2]
        have n1:=afe ntk h4 hm
        have b2:∀x∈l'.take i.toNat++ [m'],lt x v:=fun x hx=>by
          rw [List.mem_append,List.mem_singleton]at hx
          rcases hx with hx | rfl
          · exact bf x hx
          · exact c1
        have n2:=afe n1 b2 co
        refine⟨by omega,by rw [show([m']:List aj).length=1 from rfl];omega,by omega,by rw [l1,show([v]:List aj).length=1 from rfl];omega,⟨by omega,by omega,Or.inr ⟨n2,fun k=> ?_,by rw [l1,l1];omega,fun h=>⟨fK c1 (nx h),fun x hx=> ?_⟩⟩⟩,by omega⟩
        · have e1:=cfs k
          have e2:=n2.bnd k
          have e3:cf (l'.take i.toNat++ [m']++ [v]) k=cf (l'.take i.toNat++ [v]++ [m']) k:=by rw [e1,dw,cfm,bY,kS];omega
          rw [←e3];omega
        · rw [List.mem_append,List.mem_singleton]at hx
          rcases hx with hx | rfl
          · exact fK (b2 x hx) (nx h)
          · exact nx h
      · by_cases c2:dR m'.atoms v.atoms=0
        · have ev:=kr.1 c2
          simp (disch:=omega) only [RR,c1,c2,List.append_nil]
          have zz:cf (l'.take i.toNat) v.atoms=0:=iV fun x hx=>(bf x hx).ne
          refine⟨by omega,fun h=>absurd h (by omega),fun _=>⟨by omega,fun c3=> ?_,fun c3=> ?_⟩⟩
          · have n2:=afe (x:=⟨(v.bD+m'.bD)%65536,v.atoms⟩) ntk bf ⟨by dsimp only;omega,by dsimp only;omega⟩
            refine⟨by omega,by simp only [List.length_cons,List.length_nil];omega,⟨by omega,by omega,Or.inr ⟨n2,fun k=> ?_,by rw [l1];omega,fun h=>⟨?_,fun x hx=> ?_⟩⟩⟩,by omega⟩
            · have e1:=cfs k
              have e2:=n2.bnd k
              rw [e1]
              rw [dw,bY,kS]at e2 ⊢
              dsimp only at e2 ⊢
              by_cases ek:v.atoms=k
              · rw [if_pos ek]at e2 ⊢
                rw [if_pos ek,if_pos (ev.trans ek)]
                rw [←ek,zz]at e2 ⊢;omega
              · rw [if_neg ek]at e2 ⊢
                rw [if_neg ek,if_neg (fun e=>ek (ev.symm.trans e))];omega
            · have:=nx h;unfold lt at this ⊢;rw [ev];exact this
            · rw [List.mem_append,List.mem_singleton]at hx
              rcases hx with hx | rfl
              · exact fK (bf x hx) (nx h)
              · exact nx h
          · refine⟨⟨by omega,by omega,Or.inr ⟨ntk,fun k=> ?_,by omega,fun h=>⟨?_,fun x hx=>fK (bf x hx) (nx h)⟩⟩⟩,by omega⟩
            · have e1:=cfs k
              have e2:=ntk.bnd k
              rw [e1]
              by_cases ek:v.atoms=k
              · rw [if_pos ek,if_pos (ev.trans ek),←ek,zz];omega
              · rw [if_neg ek,if_neg (fun e=>ek (ev.symm.trans e))];omega
            · have:=nx h;unfold lt at this ⊢;rw [ev];exact this
        · simp (disch:=omega) only [RR,c1,c2]
          refine⟨by omega,by omega,by simp only [List.length_cons,List.length_nil];omega,⟨by omega,by omega,Or.inl (fun x hx=> ?_)⟩,by omega⟩
          rw [List.mem_append,List.mem_singleton]at hx
          rcases hx with hx | rfl
          · exact h4 x hx
          · unfold lt;rw [rV];omega
    · have c3:=(h7 hi).1
      have b2:=(h7 hi).2
      have c1:dR m'.atoms v.atoms<0:=c3
      have c2:¬dR m'.atoms v.atoms=0:=by omega
      simp (disch:=omega) only [RR,decide_true,Bool.not_true,Bool.false_and,decide_eq_true_eq,hi,c2]
      have n2:=afe h4 b2 co
      refine⟨by omega,fun h=>h.1.elim,by omega,by simp only [List.length_cons,List.length_nil];omega,⟨by omega,by omega,Or.inr ⟨n2,fun k=> ?_,by rw [l1];omega,fun h=>⟨fK c3 (nx h),fun x hx=> ?_⟩⟩⟩,by omega⟩
      · have e1:=cfs k
        have e2:=n2.bnd k
        have e3:=h5 k
        rw [cfm]at e3
        rw [dw,bY,kS]at e2 ⊢
        rw [e1]
        by_cases ek:v.atoms=k
        · rw [if_pos ek]at e2 ⊢;omega
        · rw [if_neg ek]at e2 ⊢;omega
      · rw [List.mem_append,List.mem_singleton]at hx
        rcases hx with hx | rfl
        · exact fK (b2 x hx) (nx h)
        · exact nx h
  · have ei:i=l'.length:=by omega
    rcases h3 with⟨rfl,rfl,h4⟩ | ⟨rfl,h4,h5,h6,h7⟩
    · simp (disch:=omega) only [RR,decide_true,Bool.not_false,Bool.true_and,decide_eq_true_eq,hi]
      have n1:=afe ntk h4 hm
      refine⟨by simp only [List.length_cons,List.length_nil];omega,fin _ ei n1 (fun k=> ?_) (by rw [l1];omega)⟩
      have e2:=n1.bnd k
      omega
    · simp (disch:=omega) only [RR,decide_true,Bool.not_true,Bool.false_and,decide_eq_true_eq,hi]
      exact fin _ ei h4 h5 h6
end Go.TX.F
namespace Go.TX.F
open Go Go.AE Go.TX
theorem AY {a o:List Int} (h:o.Pairwise (· ≤ ·)) (hp:o.Perm a):o=l8 a:=by
 refine List.Perm.eq_of_pairwise (le:=fun x y:Int=>x≤y) (fun a b _ _ h1 h2=>Int.le_antisymm h1 h2) h ?_ (hp.trans (List.mergeSort_perm a _).symm)
 have:=List.pairwise_mergeSort (le:=fun x y:Int=>decide (x≤y)) (fun a b c h1 h2=>by simp at*;omega) (fun a b=>by simp;omega) a
 exact this.imp (fun h=>by simpa using h)
theorem aff (a b:List Int) (ha:a.length<100000000) (hb:b.length<100000000) (sa:a.Pairwise (· ≤ ·)) (sb:b.Pairwise (· ≤ ·)):
  Vu (std 0).al (a,b,()) (fun y=>y=(l8 (a++b),())):=by
 dsimp only [Vu,Tup.q,Tup.o]
 have sa':=(dF (d:=default) (R:=fun a b:Int=>a≤b) (fun h1 h2=>Int.le_trans h1 h2)).1 sa
 have sb':=(dF (d:=default) (R:=fun a b:Int=>a≤b) (fun h1 h2=>Int.le_trans h1 h2)).1 sb
 let I:List Int→Int→Int→Prop:=fun o i k=>0≤i∧i≤a.length∧0≤k∧k≤b.length∧o.Pairwise (· ≤ ·)∧o.Perm (a.take i.toNat++b.take k.toNat)∧(i<a.length→∀x∈o,x≤((a).getD (i).toNat default))∧(k<b.length→∀x∈o,x≤((b).getD (k).toNat default))
 have sn:∀ {o:List Int} {y:Int},o.Pairwise (· ≤ ·)→(∀x∈o,x≤y)→(o++ [y]).Pairwise (· ≤ ·):=fun {o y} g1 g2=>by
  rw [List.pairwise_append]
  exact⟨g1,List.pairwise_singleton _ _,fun x hx z hz=>by rw [List.mem_singleton]at hz;subst hz;exact g2 x hx⟩
 have il:∀o i k,I o i k→(o.length:Int)=i+k:=fun o i k ⟨h1,h2,h3,h4,_,h5,_⟩=>by
  have:=h5.length_eq;rw [List.length_append,List.length_take,List.length_take]at this;omega
 have stA:∀o i k,I o i k→i<a.length→(k<b.length→((a).getD (i).toNat default)≤((b).getD (k).toNat default))→I (o++ [((a).getD (i).toNat default)]) (i+1) k:=by
  rintro o i k ⟨h1,h2,h3,h4,h5,h6,h7,h8⟩ hi hk
  refine⟨by omega,by omega,h3,h4,sn h5 (h7 hi),?_,fun g x hx=> ?_,fun g x hx=> ?_⟩
  ·rw [←bL (d:=default) h1 hi rfl]
   refine(h6.append_right _).trans ?_
   rw [List.append_assoc,List.append_assoc]
   exact(List.perm_append_comm).append_left _
  ·have:=sa' (i+1) (by omega) g
   rw [show i+1-1=i by omega]at this
   rw [List.mem_append,List.mem_singleton]at hx
   rcases hx with hx | rfl
   ·exact Int.le_trans (h7 hi x hx) this
   ·exact this
  ·rw [List.mem_append,List.mem_singleton]at hx
   rcases hx with hx | rfl
   ·exact h8 g x hx
   ·exact hk g
 have stB:∀o i k,I o i k→k<b.length→(i<a.length→((b).getD (k).toNat default)≤((a).getD (i).toNat default))→I (o++ [((b).getD (k).toNat default)]) i (k+1):=by
  rintro o i k ⟨h1,h2,h3,h4,h5,h6,h7,h8⟩ hk hi
  refine⟨h1,h2,by omega,by omega,sn h5 (h8 hk),?_,fun g x hx=> ?_,fun g x hx=> ?_⟩
  ·rw [←bL (d:=default) h3 hk rfl,←List.append_assoc]
   exact h6.append_right _
  ·rw [List.mem_append,List.mem_singleton]at hx
   rcases hx with hx | rfl
   ·exact h7 g x hx
   ·exact hi g
  ·have:=sb' (k+1) (by omega) g
   rw [show k+1-1=k by omega]at this
   rw [List.mem_append,List.mem_singleton]at hx
   rcases hx with hx | rfl
   ·exact Int.le_trans (h8 hk x hx) this
   ·exact this
 refine ak (fun(y:List Int×List Int×Int×Int×List Int×Unit)=>y.1=a∧y.2.1=b∧I y.2.2.2.2.1 y.2.2.1 y.2.2.2.1) (fun y=>(b.length-y.2.2.2.1).toNat)
  ⟨rfl,rfl,by simp,by simp,by simp,by simp,List.Pairwise.nil,by simp,fun _ x hx=>absurd hx (by simp),fun _ x hx=>absurd hx (by simp)⟩ ?_
 rintro⟨(a':List Int),(b':List Int),(i:Int),(k:Int),(o:List Int),⟨⟩⟩ hI
 dsimp only at hI ⊢
 obtain⟨rfl,rfl,hI⟩:=hI
 have hb1:=hI.1
 have hb2:=hI.2.1
 have hb3:=hI.2.2.1
 have hb4:=hI.2.2.2.1
 have hol:=il _ _ _ hI
 simp (disch:=omega) only [RR]
 refine⟨fun h9=> ?_,fun h9=> ?_⟩
 ·refine ak (fun(y:List Int×List Int×Int×Int×List Int×Unit)=>y.1=a'∧y.2.1=b'∧y.2.2.2.1=k∧I y.2.2.2.2.1 y.2.2.1 k) (fun y=>(a'.length-y.2.2.1).toNat) ⟨rfl,rfl,rfl,hI⟩ ?_
  rintro⟨(a2:List Int),(b2:List Int),(i2:Int),(k2:Int),(o2:List Int),⟨⟩⟩ hI2
  dsimp only at hI2 ⊢
  obtain⟨rfl,rfl,rfl,hI2⟩:=hI2
  have hc1:=hI2.1
  have hc2:=hI2.2.1
  have hol:=il _ _ _ hI2
  simp (disch:=omega) only [RR]
  refine⟨by omega,by omega,by omega,by omega,fun⟨g1,g2⟩=>⟨by omega,g1,by simp only [List.length_cons,List.length_nil];omega,stA _ _ _ hI2 g1 (fun _=>g2),by omega⟩,fun g=>⟨by omega,h9,by simp only [List.length_cons,List.length_nil];omega,stB _ _ _ hI2 h9 (fun g1=> ?_),by omega⟩⟩
  rw [decide_eq_true g1,Bool.true_and,decide_eq_false_iff_not]at g;omega
 ·have e1:List.drop i.toNat (List.take ((a'.length:Int)).toNat a')=a'.drop i.toNat:=by rw [List.take_of_length_le (by omega)]
  rw [e1]
  refine⟨by omega,by omega,by omega,by rw [List.length_drop];omega,?_⟩
  obtain⟨h1,h2,h3,h4,h5,h6,h7,h8⟩:=hI
  rw [AY (a:=a'++b') (o:=o++a'.drop i.toNat)]
  ·rw [List.pairwise_append]
   refine⟨h5,List.Pairwise.sublist (List.drop_sublist _ _) sa,fun x hx y hy=> ?_⟩
   by_cases hi:i<a'.length
   ·refine Int.le_trans (h7 hi x hx) ?_
    rw [List.drop_eq_getElem_cons (show i.toNat<a'.length by omega)]at hy
    have hd:=List.Pairwise.sublist (List.drop_sublist i.toNat _) sa
    rw [List.drop_eq_getElem_cons (show i.toNat<a'.length by omega)]at hd
    rw [getD_lt (show i.toNat<a'.length by omega)]
    rcases List.mem_cons.1 hy with rfl | hy
    ·exact Int.le_refl _
    ·exact List.rel_of_pairwise_cons hd hy
   ·rw [List.drop_eq_nil_of_le (by omega)]at hy;exact absurd hy (by simp)
  ·rw [List.take_of_length_le (show b'.length≤k.toNat by omega)]at h6
   refine(h6.append_right _).trans ?_
   rw [List.append_assoc]
   refine((List.perm_append_comm).append_left _).trans ?_
   rw [←List.append_assoc,List.take_append_drop]
end Go.TX.F
namespace Go.TX.F
open Go Go.AE Go.TX
theorem aI.nf {p:List aj} (h:aI p):Nf p:=(iC.1 h).1
theorem aI.aok {p:List aj} (h:aI p) {m:aj} (hm:m∈p):m.atoms.length≤4∧F.aok m.atoms:=(iC.1 h).2.2 m hm
theorem Oj {l o:List aj} (h:Nf o) (h2:∀k,cf o k=cf l k%65536) (h3:∀m∈l,aok m.atoms):(bp (K7 o),if bp (K7 o)then o else [])=((qV l).1,(qV l).2):=by
 rw [ahS h h2 h3]
 by_cases c:K7 o
 ·rw [dz c,if_pos rfl];dsimp only;rw [decide_eq_true (show o.length≤12∧∀m∈o,m.atoms.length≤4 from c),if_pos (show o.length≤12∧∀m∈o,m.atoms.length≤4 from c)]
 ·rw [dD c,if_neg (by simp)];dsimp only;rw [decide_eq_false (show¬(o.length≤12∧∀m∈o,m.atoms.length≤4)from c),if_neg (show¬(o.length≤12∧∀m∈o,m.atoms.length≤4)from c)]
theorem afg {o l:List aj} (h:Nf o) (h2:∀k,cf o k=cf l k%65536) (h3:∀m∈l,m.atoms.length<1000000000) (h4:o.length<1000000000):Sh o:=⟨h4,fun m hm=>by
 obtain⟨m',g1,g2⟩:=h.from h2 hm
 rw [←g2];exact h3 m' g1⟩
theorem ao4 {p1:List aj×Unit→Bool} {f1:List aj×Unit→Bool×Unit} (hp1:∀a,Sh a→p1 (a,())=true) (hf1:∀a,Sh a→f1 (a,())=(bp (aI a),()))
  {p2:List aj×aj×Unit→Bool} {f2:List aj×aj×Unit→List aj×Unit}
  (hp2:∀(l:List aj) m,l.length<1000000000→Nf l→1≤m.bD∧m.bD≤65535→m.atoms.length<1000000000→p2 (l,m,())=true) (hf2:∀(l:List aj) m,l.length<1000000000→Nf l→1≤m.bD∧m.bD≤65535→m.atoms.length<1000000000→Plus l m (f2 (l,m,())).1)
  {p3:List aj×Unit→Bool} {f3:List aj×Unit→Bool×List aj×Unit} (hp3:∀a,Sh a→p3 (a,())=true) (hf3:∀a,Sh a→f3 (a,())=(bp (K7 a),if bp (K7 a)then a else [],()))
  (a b:List aj) (ha:Sh a) (hb:Sh b):Vo (std 0).al p1 f1 p2 f2 p3 f3 (a,b,()) (fun y=>y=((oH a b).1,(oH a b).2,())):=by
 dsimp only [Vo,Tup.q,Tup.o]
 simp (disch:=omega) only [RR,hp1 a ha,hf1 a ha,hp1 b hb,hf1 b hb,aT,jv]
 unfold oH
 refine⟨fun h=> ?_,fun⟨h1,h2⟩=> ?_⟩
 ·rw [if_neg]
  rw [Bool.and_eq_true,aT,aT];rintro⟨g1,g2⟩
  rcases h with h | h
  ·exact h g1
  ·exact h g2
 rw [if_pos (by rw [dz h1,dz h2];rfl)]
 have l1:=h1.len
 have l2:=h2.len
 have hl:∀m∈a++b,F.aok m.atoms∧m.atoms.length<1000000000:=fun m hm=>by
  rw [List.mem_append]at hm
  rcases hm with hm | hm
  ·exact⟨(h1.aok hm).2,ha.2 m hm⟩
  ·exact⟨(h2.aok hm).2,hb.2 m hm⟩
 refine ak (fun(y:List aj×Int×List aj×Unit)=>y.2.2.1=b∧0≤y.2.1∧y.2.1≤b.length∧Nf y.1∧(∀k,cf y.1 k=cf (a++b.take y.2.1.toNat) k%65536)∧(y.1.length:Int)≤12+y.2.1) (fun y=>(b.length-y.2.1).toNat)
  ⟨rfl,by simp,by simp,h1.nf,fun k=>by have:=h1.nf.bnd k;simp only [Int.toNat_zero,List.take_zero,List.append_nil];omega,by simp only;omega⟩ ?_
 rintro⟨(o:List aj),(i:Int),(b':List aj),⟨⟩⟩ hI
 dsimp only at hI ⊢
 obtain⟨rfl,h3,h4,h5,h6,h7⟩:=hI
 have so:Sh o:=afg h5 h6 (fun m hm=>(hl m (by rw [List.mem_append]at hm ⊢;exact hm.imp id List.mem_of_mem_take)).2) (by omega)
 simp (disch:=omega) only [RR,hp3 o so,hf3 o so]
 refine⟨fun h9=> ?_,fun h9=> ?_⟩
 ·have hm:=h2.nf.co _ (dJ (d:=default) h3 h9)
  have pl:=hf2 o ((b').getD (i).toNat default) so.1 h5 hm (hb.at _)
  refine⟨by omega,by omega,hp2 o ((b').getD (i).toNat default) so.1 h5 hm (hb.at _),⟨by omega,by omega,pl.nf,fun k=> ?_,by have:=pl.len;omega⟩,by omega⟩
  rw [pl.cf k,dw,h6 k,←bL (d:=default) h3 h9 rfl,←List.append_assoc,dw (a++_)];omega
 ·have:=Oj h5 (fun k=>by rw [h6 k,List.take_of_length_le (by omega)]) (fun m hm=>(hl m hm).1)
  exact congrArg (fun z:Bool×List aj=>(z.1,z.2,())) this
theorem ao5 {p1:List aj×Unit→Bool} {f1:List aj×Unit→Bool×Unit} (hp1:∀a,Sh a→p1 (a,())=true) (hf1:∀a,Sh a→f1 (a,())=(bp (aI a),()))
  {p0:Int×Unit→Bool} {f0:Int×Unit→Int×Unit} (hp0:∀a,p0 (a,())=true) (hf0:∀a,f0 (a,())=(a%65536,()))
  {p2:List aj×aj×Unit→Bool} {f2:List aj×aj×Unit→List aj×Unit}
  (hp2:∀(l:List aj) m,l.length<1000000000→Nf l→1≤m.bD∧m.bD≤65535→m.atoms.length<1000000000→p2 (l,m,())=true) (hf2:∀(l:List aj) m,l.length<1000000000→Nf l→1≤m.bD∧m.bD≤65535→m.atoms.length<1000000000→Plus l m (f2 (l,m,())).1)
  {p4:List Int×List Int×Unit→Bool} {f4:List Int×List Int×Unit→List Int×Unit}
  (hp4:∀a b:List Int,a.length<100000000→b.length<100000000→a.Pairwise (· ≤ ·)→b.Pairwise (· ≤ ·)→p4 (a,b,())=true) (hf4:∀a b:List Int,a.length<100000000→b.length<100000000→a.Pairwise (· ≤ ·)→b.Pairwise (· ≤ ·)→f4 (a,b,())=(l8 (a++b),()))
  {p3:List aj×Unit→Bool} {f3:List aj×Unit→Bool×List aj×Unit} (hp3:∀a,Sh a→p3 (a,())=true) (hf3:∀a,Sh a→f3 (a,())=(bp (K7 a),if bp (K7 a)then a else [],()))
  (a b:List aj) (ha:Sh a) (hb:Sh b):Vv (std 0).al p1 f1 p0 f0 p2 f2 p4 f4 p3 f3 (a,b,()) (fun y=>y=((mO a b).1,(mO a b).2,())):=by
 dsimp only [Vv,Tup.q,Tup.o]
 simp (disch:=omega) only [RR,hp1 a ha,hf1 a ha,hp1 b hb,hf1 b hb,aT,jv]
 unfold mO
 refine⟨fun h=> ?_,fun⟨h1,h2⟩=> ?_⟩
 ·rw [if_neg]
  rw [Bool.and_eq_true,aT,aT];rintro⟨g1,g2⟩
  rcases h with h | h
  ·exact h g1
  ·exact h g2
 rw [if_pos (by rw [dz h1,dz h2];rfl)]
 have l1:=h1.len
 have l2:=h2.len
 have am:∀m∈a,∀n∈b,aok (mulM m n).atoms∧(mulM m n).atoms.length≤8:=fun m hm n hn=>by
  obtain⟨g1,g2⟩:=h1.aok hm
  obtain⟨g3,g4⟩:=h2.aok hn
  refine⟨⟨?_,fun k hk=> ?_⟩,?_⟩
  ·have:=List.pairwise_mergeSort (le:=fun x y:Int=>decide (x≤y)) (fun a b c h1 h2=>by simp at*;omega) (fun a b=>by simp;omega) (m.atoms++n.atoms)
   exact this.imp (fun h=>by simpa using h)
  ·have:k∈m.atoms++n.atoms:=List.mem_mergeSort.1 hk
   rw [List.mem_append]at this
   rcases this with hk | hk
   ·exact g2.2 k hk
   ·exact g4.2 k hk
  ·show(l8 _).length≤8
   rw [MO,List.length_append];omega
 have pm:∀m∈prods a b,aok m.atoms∧m.atoms.length≤8:=fun m hm=>by
  unfold prods at hm
  rw [List.mem_flatMap]at hm
  obtain⟨x,hx,hm⟩:=hm
  rw [List.mem_map]at hm
  obtain⟨y,hy,rfl⟩:=hm
  exact am x hx y hy
 let J:List aj→Int→Int→Prop:=fun o i k=>Nf o∧(∀t,cf o t=cf (prods (a.take i.toNat) b++(b.take k.toNat).map (mulM ((a).getD (i).toNat default))) t%65536)∧(o.length:Int)≤12*i+k
 refine ak (fun(y:Int×List aj×List aj×List aj×Unit)=>y.2.1=a∧y.2.2.1=b∧0≤y.1∧y.1≤a.length∧J y.2.2.2.1 y.1 0) (fun y=>(a.length-y.1).toNat)
  ⟨rfl,rfl,by simp,by simp,⟨⟨List.Pairwise.nil,fun m hm=>absurd hm (by simp)⟩,fun k=>by simp [cf,prods],by simp⟩⟩ ?_
 rintro⟨(i:Int),(a':List aj),(b':List aj),(o:List aj),⟨⟩⟩ hI
 dsimp only at hI ⊢
 obtain⟨rfl,rfl,h3,h4,hJ⟩:=hI
 have hJ1:=hJ.2.2
 have so:Sh o:=afg (l:=prods (a'.take i.toNat) b') hJ.1 (fun t=>by rw [hJ.2.1 t];simp) (fun m hm=>by
  have:m∈prods a' b':=by
   unfold prods at hm ⊢
   rw [List.mem_flatMap]at hm ⊢
   obtain⟨x,hx,hm⟩:=hm
   exact⟨x,List.mem_of_mem_take hx,hm⟩
  have:=(pm m this).2;omega) (by omega)
 simp (disch:=omega) only [RR,hp3 o so,hf3 o so]
 refine⟨fun h9=> ?_,fun h9=> ?_⟩
 ·refine ak (fun(y:Int×Int×List aj×List aj×List aj×Unit)=>y.1=i∧y.2.2.1=a'∧y.2.2.2.1=b'∧0≤y.2.1∧y.2.1≤b'.length∧J y.2.2.2.2.1 i y.2.1) (fun y=>(b'.length-y.2.1).toNat) ⟨rfl,rfl,rfl,by simp,by simp,hJ⟩ ?_
  rintro⟨(i':Int),(k:Int),(a2:List aj),(b2:List aj),(o2:List aj),⟨⟩⟩ hI
  dsimp only at hI ⊢
  obtain⟨rfl,rfl,rfl,g1,g2,hK⟩:=hI
  have hK1:=hK.2.2
  by_cases g3:k<b2.length
  ·have ma:((a2).getD (i').toNat default)∈a2:=dJ h3 h9
   have mb:((b2).getD (k).toNat default)∈b2:=dJ g1 g3
   have ca:=h1.nf.co _ ma
   have cb:=h2.nf.co _ mb
   obtain⟨q1,q2⟩:=h1.aok ma
   obtain⟨q3,q4⟩:=h2.aok mb
   have hm:=Oh (show 0≤((a2).getD (i').toNat default).bD by omega) (by omega) (show 0≤((b2).getD (k).toNat default).bD by omega) (by omega)
   have am':=(am _ ma _ mb).2
   simp (disch:=omega) only [RR,hp0,hf0,hp4 _ _ (show((a2).getD (i').toNat default).atoms.length<100000000 by omega) (show((b2).getD (k).toNat default).atoms.length<100000000 by omega) q2.1 q4.1,hf4 _ _ (show((a2).getD (i').toNat default).atoms.length<100000000 by omega) (show((b2).getD (k).toNat default).atoms.length<100000000 by omega) q2.1 q4.1]
   have tk:prods (a2.take i'.toNat) b2++(b2.take (k+1).toNat).map (mulM ((a2).getD (i').toNat default))=prods (a2.take i'.toNat) b2++(b2.take k.toNat).map (mulM ((a2).getD (i').toNat default))++ [mulM ((a2).getD (i').toNat default) ((b2).getD (k).toNat default)]:=by
    rw [←bL (d:=default) g1 g3 rfl,List.map_append,List.append_assoc];rfl
   refine⟨fun _=>⟨by omega,by omega,by omega,by omega,fun g4=> ?_,fun g4=>⟨⟨by omega,by omega,hK.1,fun t=> ?_,by omega⟩,by omega⟩⟩,fun h=>absurd g3 h⟩
   ·have awS:(⟨((a2).getD (i').toNat default).bD*((b2).getD (k).toNat default).bD%65536,l8 (((a2).getD (i').toNat default).atoms++((b2).getD (k).toNat default).atoms)⟩:aj).atoms.length<1000000000:=by have:(l8 (((a2).getD (i').toNat default).atoms++((b2).getD (k).toNat default).atoms)).length≤8:=am';dsimp only;omega
    have cc:1≤(⟨((a2).getD (i').toNat default).bD*((b2).getD (k).toNat default).bD%65536,l8 (((a2).getD (i').toNat default).atoms++((b2).getD (k).toNat default).atoms)⟩:aj).bD∧(⟨((a2).getD (i').toNat default).bD*((b2).getD (k).toNat default).bD%65536,l8 (((a2).getD (i').toNat default).atoms++((b2).getD (k).toNat default).atoms)⟩:aj).bD≤65535:=by dsimp only;omega
    have pl:=hf2 o2 _ (by omega) hK.1 cc awS
    refine⟨by omega,by omega,by omega,by omega,hp2 o2 _ (by omega) hK.1 cc awS,⟨by omega,by omega,pl.nf,fun t=> ?_,by have:=pl.len;omega⟩,by omega⟩
    rw [pl.cf t,dw,hK.2.1 t,tk,dw (prods _ _++_)]
    show(_+cf [mulM ((a2).getD (i').toNat default) ((b2).getD (k).toNat default)] t)%65536=_
    omega
   ·rw [tk,dw,hK.2.1 t]
    have:cf [mulM ((a2).getD (i').toNat default) ((b2).getD (k).toNat default)] t=0:=by
     rw [bY,kS]
     have:(mulM ((a2).getD (i').toNat default) ((b2).getD (k).toNat default)).bD=0:=by show((a2).getD (i').toNat default).bD*((b2).getD (k).toNat default).bD%65536=0;omega
     rw [this];split<;>rfl
    rw [this];omega
  ·simp (disch:=omega) only [RR]
   refine⟨fun h=>absurd h g3,fun _=>⟨⟨by omega,by omega,hK.1,fun t=> ?_,by omega⟩,by omega⟩⟩
   rw [hK.2.1 t,List.take_of_length_le (show b2.length≤k.toNat by omega),←K4,bL (d:=default) h3 h9 rfl];simp
 ·have:=Oj hJ.1 (l:=prods a' b') (fun t=>by rw [hJ.2.1 t,List.take_of_length_le (show a'.length≤i.toNat by omega)];simp) (fun m hm=>(pm m hm).1)
  exact congrArg (fun z:Bool×List aj=>(z.1,z.2,())) this
end Go.TX.F
namespace Go.TX.F
open Go Go.AE Go.TX
theorem K9 {m:aj} (n:Int) (h:aok m.atoms):mulM m ⟨n,[]⟩=⟨m.bD*n%65536,m.atoms⟩:=by
 unfold mulM
 rw [←AY (a:=m.atoms++ []) (o:=m.atoms) h.1 (by simp)]
theorem DJ (a:List aj) (n:aj):prods a [n]=a.map (fun m=>mulM m n):=by
 induction a with
 | nil=>rfl
 | cons x a ih=>simp only [prods,List.flatMap_cons,List.map_cons,List.map_nil]at ih ⊢;rw [ih];rfl
theorem Tg {t:List Int}:∀ {l:List aj},(∀m∈l,m.bD=0)→cf l t=0
 | [],_=>rfl
 | m::l,h=>by rw [bY,Tg (fun m hm=>h m (by simp [hm])),h m (by simp)];split<;>rfl
theorem eT:aI []:=iC.2 ⟨⟨List.Pairwise.nil,fun m hm=>absurd hm (by simp)⟩,by simp,fun m hm=>absurd hm (by simp)⟩
theorem pE (n:Int):aI (dG n):=by
 unfold dG;split
 ·refine iC.2 ⟨⟨List.pairwise_singleton _ _,fun m hm=> ?_⟩,by simp,fun m hm=> ?_⟩
  ·rw [List.mem_singleton]at hm;subst hm;assumption
  ·rw [List.mem_singleton]at hm;subst hm;exact⟨by simp,List.Pairwise.nil,fun k hk=>absurd hk (by simp)⟩
 ·exact eT
theorem oJ (n:Int):aI (gK n):=by
 unfold gK;split
 ·refine iC.2 ⟨⟨List.pairwise_singleton _ _,fun m hm=> ?_⟩,by simp,fun m hm=> ?_⟩
  ·rw [List.mem_singleton]at hm;subst hm;dsimp only;omega
  ·rw [List.mem_singleton]at hm;subst hm;exact⟨by simp,List.pairwise_singleton _ _,fun k hk=>by rw [List.mem_singleton]at hk;omega⟩
 ·exact eT
theorem ao6 {p1:List aj×Unit→Bool} {f1:List aj×Unit→Bool×Unit} (hp1:∀a,Sh a→p1 (a,())=true) (hf1:∀a,Sh a→f1 (a,())=(bp (aI a),()))
  {p0:Int×Unit→Bool} {f0:Int×Unit→Int×Unit} (hp0:∀a,p0 (a,())=true) (hf0:∀a,f0 (a,())=(a%65536,()))
  {p4:List aj×Unit→Bool} {f4:List aj×Unit→List aj×Unit} (hp4:∀a,Sh a→p4 (a,())=true) (hf4:∀a,Sh a→f4 (a,())=(a,()))
  {p3:Int×Unit→Bool} {f3:Int×Unit→Bool×Unit} (hp3:∀a,p3 (a,())=true) (hf3:∀a,f3 (a,())=(inB a 0 65535,()))
  (a:List aj) (n:Int) (ha:Sh a):Vt (std 0).al p1 f1 p0 f0 p4 f4 p3 f3 (a,n,()) (fun y=>y=(jg a n,())):=by
 dsimp only [Vt,Tup.q,Tup.o]
 simp (disch:=omega) only [RR,hp1 a ha,hf1 a ha,hp3,hf3,aT,jv,dA,l7]
 unfold jg
 refine⟨fun h=> ?_,fun⟨h1,h2⟩=> ?_⟩
 ·rw [if_neg];rw [Bool.and_eq_true,aT,dA];rintro⟨g1,g2⟩
  rcases h with h | h
  ·exact h g1
  ·exact h g2
 rw [if_pos (by rw [dz h1,Bool.true_and,dA];exact h2)]
 have l1:=h1.len
 have hss:=h1.nf.ss
 refine ak (fun(y:Int×Int×List aj×List aj×Unit)=>y.1=n∧y.2.2.1=a∧0≤y.2.1∧y.2.1≤a.length∧Nf y.2.2.2.1∧(y.2.2.2.1.length:Int)≤y.2.1∧(∀t,cf y.2.2.2.1 t=cf ((a.take y.2.1.toNat).map (fun m=>⟨m.bD*n%65536,m.atoms⟩)) t%65536)
   ∧(∀x∈y.2.2.2.1,x.atoms.length≤4∧(y.2.1<a.length→lt x ((a).getD (y.2.1).toNat default)))) (fun y=>(a.length-y.2.1).toNat)
  ⟨rfl,rfl,by simp,by simp,⟨List.Pairwise.nil,fun m hm=>absurd hm (by simp)⟩,by simp,fun t=>by simp [cf],fun x hx=>absurd hx (by simp)⟩ ?_
 rintro⟨(n':Int),(i:Int),(a':List aj),(o:List aj),⟨⟩⟩ hI
 dsimp only at hI ⊢
 obtain⟨rfl,rfl,h3,h4,h5,h6,h7,h8⟩:=hI
 have so:Sh o:=⟨by omega,fun m hm=>by have:=(h8 m hm).1;omega⟩
 by_cases h9:i<a'.length
 ·have ma:((a').getD (i).toNat default)∈a':=dJ h3 h9
  have ca:=h1.nf.co _ ma
  have qa:=h1.aok ma
  have hm:=Oh (show 0≤((a').getD (i).toNat default).bD by omega) (by omega) h2.1 h2.2
  have nx:i+1<a'.length→lt ((a').getD (i).toNat default) ((a').getD (i+1).toNat default):=fun h=>by
   have:=(dF (d:=default) (R:=lt) fK).1 hss (i+1) (by omega) h
   rw [show i+1-1=i by omega]at this;exact this
  have tk:(a'.take (i+1).toNat).map (fun m:aj=>(⟨m.bD*n'%65536,m.atoms⟩:aj))=(a'.take i.toNat).map (fun m:aj=>(⟨m.bD*n'%65536,m.atoms⟩:aj))++ [⟨((a').getD (i).toNat default).bD*n'%65536,((a').getD (i).toNat default).atoms⟩]:=by
   rw [←bL (d:=default) h3 h9 rfl,List.map_append];rfl
  simp (disch:=omega) only [RR,hp0,hf0]
  refine⟨fun _=>⟨by omega,by omega,fun g=>⟨by omega,by omega,by simp only [List.length_cons,List.length_nil];omega,⟨by omega,by omega,?_,?_,fun t=> ?_,fun x hx=> ?_⟩,by omega⟩,fun g=>⟨⟨by omega,by omega,h5,by omega,fun t=> ?_,fun x hx=>⟨(h8 x hx).1,fun g2=>fK ((h8 x hx).2 h9) (nx g2)⟩⟩,by omega⟩⟩,fun h=>absurd h9 h⟩
  ·refine⟨?_,fun x hx=> ?_⟩
   ·rw [List.pairwise_append]
    exact⟨h5.ss,List.pairwise_singleton _ _,fun x hx z hz=>by rw [List.mem_singleton]at hz;subst hz;exact(h8 x hx).2 h9⟩
   ·rw [List.mem_append,List.mem_singleton]at hx
    rcases hx with hx | rfl
    ·exact h5.co x hx
    ·dsimp only;omega
  ·rw [List.length_append];simp only [List.length_cons,List.length_nil];omega
  ·rw [tk,dw,dw,h7 t,bY,kS]
   dsimp only
   by_cases et:((a').getD (i).toNat default).atoms=t
   ·rw [if_pos et]
    have z:cf o t=0:=iV fun x hx e=>((h8 x hx).2 h9).ne (e.trans et.symm)
    rw [h7 t]at z;omega
   ·rw [if_neg et];omega
  ·rw [List.mem_append,List.mem_singleton]at hx
   rcases hx with hx | rfl
   ·exact⟨(h8 x hx).1,fun g2=>fK ((h8 x hx).2 h9) (nx g2)⟩
   ·exact⟨qa.1,fun g2=>nx g2⟩
  ·rw [tk,dw,h7 t,bY,kS]
   dsimp only
   have:((a').getD (i).toNat default).bD*n'%65536=0:=by omega
   rw [this];split<;>omega
 ·simp (disch:=omega) only [RR,hp4 o so,hf4 o so]
  refine⟨fun h=>absurd h h9,fun _=> ?_⟩
  have eq:∀t,cf o t=cf (prods a' (dG n')) t%65536:=fun t=>by
   rw [h7 t,List.take_of_length_le (by omega)]
   unfold dG
   by_cases hn:1≤n'∧n'≤65535
   ·rw [if_pos hn,DJ]
    congr 2
    exact List.map_congr_left fun m hm=>(K9 n' (h1.aok hm).2).symm
   ·rw [if_neg hn]
    have hz:n'=0:=by omega
    have hz2:cf (a'.map (fun m=>(⟨m.bD*n'%65536,m.atoms⟩:aj))) t=0:=Tg fun m hm=>by
     rw [List.mem_map]at hm
     obtain⟨x,_,rfl⟩:=hm
     dsimp only;rw [hz];simp
    rw [hz2,show prods a' []=[] by simp [prods]];rfl
  have fb:K7 o:=⟨by omega,fun m hm=>(h8 m hm).1⟩
  have:=Oj h5 eq (fun m hm=>by
   unfold dG at hm
   split at hm
   ·rw [DJ,List.mem_map]at hm
    obtain⟨x,hx,rfl⟩:=hm
    rw [K9 n' (h1.aok hx).2];exact(h1.aok hx).2
   ·rw [show prods a' []=[] by simp [prods]]at hm;exact absurd hm (by simp))
  unfold mO
  rw [if_pos (by rw [dz h1,dz (pE n')];rfl),←congrArg Prod.snd this]
  dsimp only;rw [dz fb];rfl
theorem afh (l:List aj):(Nf (nf l)∧∀k,cf (nf l) k=cf l k%65536)∨nf l=[]:=by
 by_cases he:∃o,Nf o∧∀k,cf o k=cf l k%65536
 ·obtain⟨o,h1,h2⟩:=he
  rw [ZX h1 h2];exact Or.inl ⟨h1,h2⟩
 ·right;unfold nf;rw [dif_neg he]
theorem afi {l:List aj} {n:Int} (h:aX l n):aX (nf l) n:=by
 rcases afh l with⟨h1,h2⟩ | h1
 ·refine bZ.2 fun m hm k hk=> ?_
  obtain⟨m',g1,g2⟩:=h1.from h2 hm
  exact bZ.1 h m' g1 k (g2▸hk)
 ·rw [h1];exact bZ.2 fun m hm=>absurd hm (by simp)
theorem jo (n:Int):aX [] n:=bZ.2 fun m hm=>absurd hm (by simp)
theorem ZY (l:List aj):aI (qV l).2:=by
 unfold qV
 by_cases h:aI (nf l)
 ·rw [dz h];exact h
 ·rw [dD h];exact eT
theorem La {l:List aj} {n:Int} (h:aX l n):aX (qV l).2 n:=by
 unfold qV
 dsimp only
 split
 ·exact afi h
 ·exact jo n
theorem abl {a b:List aj} {n:Int} (h1:aX a n) (h2:aX b n):aX (a++b) n:=bZ.2 fun m hm k hk=>by
 rw [List.mem_append]at hm
 rcases hm with hm | hm
 ·exact bZ.1 h1 m hm k hk
 ·exact bZ.1 h2 m hm k hk
theorem Ti {a b:List aj} {n:Int} (h1:aX a n) (h2:aX b n):aX (prods a b) n:=bZ.2 fun m hm k hk=>by
 unfold prods at hm
 rw [List.mem_flatMap]at hm
 obtain⟨x,hx,hm⟩:=hm
 rw [List.mem_map]at hm
 obtain⟨y,hy,rfl⟩:=hm
 have:k∈x.atoms++y.atoms:=List.mem_mergeSort.1 hk
 rw [List.mem_append]at this
 rcases this with hk | hk
 ·exact bZ.1 h1 x hx k hk
 ·exact bZ.1 h2 y hy k hk
theorem Z0 (a b:List aj):aI (oH a b).2:=by unfold oH;split;exact ZY _;exact eT
theorem ahU (a b:List aj):aI (mO a b).2:=by unfold mO;split;exact ZY _;exact eT
theorem Lb {a b:List aj} {n:Int} (h1:aX a n) (h2:aX b n):aX (oH a b).2 n:=by unfold oH;split;exact La (abl h1 h2);exact jo n
theorem Lc {a b:List aj} {n:Int} (h1:aX a n) (h2:aX b n):aX (mO a b).2 n:=by unfold mO;split;exact La (Ti h1 h2);exact jo n
theorem wT (c n:Int):aX (dG c) n:=bZ.2 fun m hm k hk=>by
 unfold dG at hm;split at hm
 ·rw [List.mem_singleton]at hm;subst hm;exact absurd hk (by simp)
 ·exact absurd hm (by simp)
theorem tL {k n:Int} (h:k<n):aX (gK k) n:=bZ.2 fun m hm j hj=>by
 unfold gK at hm;split at hm
 ·rw [List.mem_singleton]at hm;subst hm;rw [List.mem_singleton]at hj;omega
 ·exact absurd hm (by simp)
theorem aD.sh {t:List Atom} (h:aD t):ShT t:=⟨by have:=h.2;omega,fun a ha=>by
 obtain⟨i,hi,rfl⟩:=List.getElem_of_mem ha
 have:=(h.1 i (by omega) (by omega)).1
 rw [show(i:Int).toNat=i from rfl,getD_lt hi]at this
 unfold iD at this
 split at this
 ·exact⟨this.2.1.sh,this.2.2.1.sh⟩
 ·rw [ShA,this.1.1,this.1.2];exact⟨oI,oI⟩⟩
theorem Fj {t:List Atom} {a:Atom} (h:aD t) (h2:t.length<200):aD (bG t a).1∧t.length≤(bG t a).1.length∧(bG t a).1.length≤t.length+1∧(iD a t.length→0≤(bG t a).2):=by
 have hsp:=lK t a
 unfold bG
 split
 ·rename_i h3;exact⟨h,Nat.le_refl _,Nat.le_succ _,fun _=>h3⟩
 ·rename_i h3
  split
  ·rename_i h4;exact⟨h,Nat.le_refl _,Nat.le_succ _,fun h5=>by rcases h4 with h4 | h4;exact absurd h5 h4;omega⟩
  ·rename_i h4
   have h5:iD a t.length:=Classical.byContradiction fun h5=>h4 (Or.inl h5)
   refine⟨rX.2 ⟨?_,by rw [List.length_append];simp only [List.length_cons,List.length_nil];omega⟩,by rw [List.length_append];exact Nat.le_add_right _ _,by rw [List.length_append];exact Nat.le_refl _,fun _=>by dsimp only;omega⟩
   have hl:((t++ [a]).length:Int)=t.length+1:=by rw [List.length_append];rfl
   have g1:∀i:Int,0≤i→i<t.length→(t++ [a]).getD i.toNat default=t.getD i.toNat default:=fun i i1 i2=>by
    rw [getD_lt (show i.toNat< (t++ [a]).length by omega),getD_lt (show i.toNat<t.length by omega),List.getElem_append_left]
   have g2:(t++ [a]).getD ((t.length:Int)).toNat default=a:=by
    rw [getD_lt (show((t.length:Int)).toNat< (t++ [a]).length by omega)];simp
   rw [hl]
   intro i i1 i2
   dsimp only
   by_cases i3:i<t.length
   ·rw [g1 i i1 i3]
    have:=(rX.1 h).1 i i1 i3
    exact⟨this.1,fun j j1 j2=>by dsimp only;rw [g1 j j1 (by omega)];exact this.2 j j1 j2⟩
   ·have:i=t.length:=by omega
    subst this
    rw [g2]
    refine⟨h5,fun j j1 j2=> ?_⟩
    dsimp only;rw [g1 j j1 j2]
    rcases hsp with⟨_,g⟩ | ⟨g,_⟩
    ·exact g j j1 j2
    ·exact absurd g h3
end Go.TX.F
namespace Go.TX.F
open Go Go.AE Go.TX
def By (b:List Int):Prop:=∀z∈b,0≤z∧z≤255
structure Bt (b:List Int):Prop where
 len:b.length≤2000
 rng:By b
theorem By.at {b:List Int} (h:By b) (n:Nat):0≤b.getD n default∧b.getD n default≤255:=by
 by_cases h1:n<b.length
 ·rw [getD_lt h1];exact h _ (List.getElem_mem _)
 ·simp only [List.getD,List.getElem?_eq_none (by omega:b.length≤n)];decide
theorem afj (b:List Int) (hb:By b) (hl:b.length<1000000000):Ww (std 0).al (b,()) (fun y=>Bt y.1∧y.2.1=0):=by
 dsimp only [Ww,Tup.q,Tup.o]
 simp (disch:=omega) only [RR]
 refine⟨fun h=>⟨by omega,by omega,by omega,⟨?_,?_⟩⟩,fun h=>⟨by omega,hb⟩⟩
 ·rw [List.length_drop,List.length_take];omega
 ·intro z hz;exact hb z (List.mem_of_mem_take (List.mem_of_mem_drop hz))
theorem ao7 {a b:Int} (h1:0≤a) (h2:a<4611686018427387904) (h3:0≤b) (h4:b<4611686018427387904):0≤q8 .xor .i64 a b∧q8 .xor .i64 a b<4611686018427387904:=by
 have e:((2^IntKind.i64.bits:Nat):Int)=18446744073709551616:=by decide
 have e2:q8 .xor .i64 a b=((a.toNat^^^b.toNat:Nat):Int):=by
  unfold q8;dsimp only
  rw [BitVec.toNat_xor,BitVec.toNat_ofInt,BitVec.toNat_ofInt,e,show a%18446744073709551616=a by omega,show b%18446744073709551616=b by omega]
  have:=Nat.xor_lt_two_pow (show a.toNat<2^62 by omega) (show b.toNat<2^62 by omega)
  rw [w64 (by omega) (by omega)]
 rw [e2]
 have:=Nat.xor_lt_two_pow (show a.toNat<2^62 by omega) (show b.toNat<2^62 by omega)
 omega
theorem Fp {a b:Int} (h:0≤a):a.tmod b=a%b:=Int.tmod_eq_emod_of_nonneg h
theorem Z4 {a b:Int} (h:0≤a):a.tdiv b=a/b:=Int.tdiv_eq_ediv_of_nonneg h
def Pk (n:Int) (b:List Int) (p:Int) (y:Int×List Int×Int×Unit):Prop:=y.2.1=b∧y.2.2.1=p+1∧0≤y.1∧(y.1<n∨y.1=0)
theorem afk (n:Int) (b:List Int) (p:Int) (hb:Bt b) (h1:0≤p) (h2:p<1000000000):Wx (std 0).al (n,b,p,()) (fun y=>Pk n b p y):=by
 have hl:=hb.1
 have cvu:∀k:Nat,IntKind.i64.wrap (b.getD k default)=b.getD k default:=fun k=>by have:=hb.2.at k;exact w64 (by omega) (by omega)
 dsimp only [Wx,Tup.q,Tup.o]
 simp (disch:=omega) only [RR,cvu]
 refine⟨fun h=>⟨rfl,rfl,by omega,Or.inr rfl⟩,fun⟨h3,h4⟩=> ?_⟩
 have e1:p+1-1=p:=by omega
 rw [e1]
 refine⟨fun h=>⟨by omega,by omega,by omega,?_⟩,fun h=> ?_⟩
 ·have:=hb.2.at p.toNat
  rw [Fp this.1]
  exact⟨rfl,rfl,Int.emod_nonneg _ (by omega),Or.inl (Int.emod_lt_of_pos _ (by omega))⟩
 ·have hb0:(0:Int)<b.length:=by omega
  have k1:=Int.emod_nonneg p (show(b.length:Int)≠0 by omega)
  have k2:=Int.emod_lt_of_pos p hb0
  have k3:=Int.emod_nonneg (p*7+3) (show(b.length:Int)≠0 by omega)
  have k4:=Int.emod_lt_of_pos (p*7+3) hb0
  have k5:0≤p/b.length:=Int.ediv_nonneg h1 (by omega)
  have k6:p/b.length≤p:=Int.ediv_le_self _ h1
  simp (disch:=omega) only [w64,Fp,Z4]
  have q1:=hb.2.at (p%b.length).toNat
  have q2:=hb.2.at ((p*7+3)%b.length).toNat
  generalize (b.getD (p%b.length).toNat default)=u at q1 ⊢
  generalize (b.getD ((p*7+3)%b.length).toNat default)=v at q2 ⊢
  generalize p/b.length=w at k5 k6 ⊢
  simp (disch:=omega) only [w64,Fp,Z4]
  have q:=ao7 (a:=u*131+v*1117+p*29+w*53) (b:=(u*131+v*1117+p*29+w*53)/64) (by omega) (by omega) (by omega) (by omega)
  rw [XH]
  generalize q8 .xor .i64 (u*131+v*1117+p*29+w*53) ((u*131+v*1117+p*29+w*53)/64)=g at q ⊢
  rw [Fp q.1]
  exact⟨h4,k1,k2,h4,k3,k4,h4,by omega,by omega,rfl,rfl,Int.emod_nonneg _ (by omega),Or.inl (Int.emod_lt_of_pos _ (by omega))⟩
theorem ao8 {p1:Int×List Int×Int×Unit→Bool} {f1:Int×List Int×Int×Unit→Int×List Int×Int×Unit} (hp1:∀n b p,Bt b→0≤p→p<1000000000→p1 (n,b,p,())=true) (hf1:∀n b p,Bt b→0≤p→p<1000000000→Pk n b p (f1 (n,b,p,())))
  (n:Int) (b:List Int) (p:Int) (hb:Bt b) (h1:0≤p) (h2:p<1000000000):Xw (std 0).al p1 f1 (n,b,p,()) (fun y=>y.2.1=b∧y.2.2.1=p+1):=by
 obtain⟨e1,e2,_⟩:=hf1 n b p hb h1 h2
 dsimp only [Xw,Tup.q,Tup.o]
 simp (disch:=omega) only [RR,hp1 n b p hb h1 h2,e1,e2]
end Go.TX.F
namespace Go.TX.F
open Go Go.AE Go.TX
structure aAm (n:Int) (b:List Int) (p:Int) (y:List Int×Int×List aj×Unit):Prop where
 b:y.1=b
 lo:p≤y.2.1
 hi:y.2.1≤p+200
 ok:aI y.2.2.1
 un:aX y.2.2.1 n
end Go.TX.F
namespace Go.TX.F
open Go Go.AE Go.TX
def Tj (n:Int) (t:List Atom):Prop:=(t.length:Int)=n∧All n (fun i=>((t).getD (i).toNat default)=⟨1,i,[],[]⟩)
theorem ao9 {p2:Int×Unit→Bool} {f2:Int×Unit→List aj×Unit} (hp2:∀n,p2 (n,())=true) (hf2:∀n,f2 (n,())=(gK n,())):UW (std 0).al p2 f2 () (fun y=>Tj 4 y.1∧y.2.1.length=4∧∀p∈y.2.1,Sh p):=by
 dsimp only [UW,Tup.q,Tup.o]
 simp (disch:=omega) only [RR,hp2,hf2]
 refine ak (fun(y:Int×List (List aj)×List Atom×Unit)=>0≤y.1∧y.1≤4∧(y.2.1.length:Int)=y.1∧(∀p∈y.2.1,Sh p)∧Tj y.1 y.2.2.1) (fun y=>(4-y.1).toNat) ⟨by simp,by simp,by simp,by simp,by simp,All.zero⟩ ?_
 rintro⟨(i:Int),(q:List (List aj)),(t:List Atom),⟨⟩⟩ hI
 dsimp only at hI ⊢
 obtain⟨h1,h2,h3,h0,h4,h5⟩:=hI
 simp (disch:=omega) only [RR,hp2,hf2,List.length_cons,List.length_nil]
 refine⟨fun h6=>⟨by omega,by omega,⟨by omega,by omega,by rw [List.length_append];simp only [List.length_cons,List.length_nil];omega,fun p hp=>(List.mem_append.1 hp).elim (h0 p) (fun g=>by rw [List.mem_singleton.1 g];exact(oJ _).sh),by rw [List.length_append];simp only [List.length_cons,List.length_nil];omega,fun j j1 j2=> ?_⟩,by omega⟩,fun h6=> ?_⟩
 ·dsimp only
  have hl:((t++ [(⟨1,i,[],[]⟩:Atom)]).length:Int)=t.length+1:=by rw [List.length_append];rfl
  by_cases c:j<i
  ·have:=h5 j j1 c
   dsimp only at this
   rw [getD_lt (show j.toNat<t.length by omega)]at this
   rw [getD_lt (show j.toNat< (t++ [(⟨1,i,[],[]⟩:Atom)]).length by omega),List.getElem_append_left (show j.toNat<t.length by omega)];exact this
  ·have:j=i:=by omega
   subst this
   rw [getD_lt (show j.toNat< (t++ [(⟨1,j,[],[]⟩:Atom)]).length by omega),List.getElem_append_right (by omega)]
   simp
 ·rw [show i=4 by omega]at h4 h5;exact⟨⟨h4,h5⟩,by omega,h0⟩
structure aAr (b:List Int) (p n:Int) (y:List Int×Int×List Atom×Unit):Prop where
 b:y.1=b
 lo:p≤y.2.1
 hi:y.2.1≤p+10000
 sh:ShT y.2.2.1
 ne:0<y.2.2.1.length
 le:(y.2.2.1.length:Int)≤n
end Go.TX.F
namespace Go.TX.F
open Go Go.AE Go.TX
theorem Z5 {l o:List aj} (h:aI o) (h2:∀k,cf o k=cf l k%65536):qV l=(true,o):=by
 unfold qV;rw [ZX h.nf h2,dz h,if_pos rfl]
theorem XJ {x:List aj} (h:aI x):aI (jg x 65535)∧∀k,cf (jg x 65535) k=(65535*cf x k)%65536:=by
 have hc:∀(l:List aj) k,cf (l.map fun m=>(⟨m.bD*65535%65536,m.atoms⟩:aj)) k%65536=(65535*cf l k)%65536:=fun l k=>by
  induction l with
  | nil=>rfl
  | cons m l ih=>rw [List.map_cons,bY,bY];dsimp only;split<;>omega
 have no:Nf (x.map fun m=>(⟨m.bD*65535%65536,m.atoms⟩:aj)):=⟨by
  rw [List.pairwise_map];exact h.nf.ss,fun m hm=>by
  rw [List.mem_map]at hm
  obtain⟨n,hn,rfl⟩:=hm
  have:=h.nf.co n hn
  dsimp only;omega⟩
 have ok:aI (x.map fun m=>(⟨m.bD*65535%65536,m.atoms⟩:aj)):=iC.2 ⟨no,by rw [List.length_map];exact h.len,fun m hm=>by
  rw [List.mem_map]at hm
  obtain⟨n,hn,rfl⟩:=hm
  exact show n.atoms.length≤4∧aok n.atoms from h.aok hn⟩
 have pe:prods x (dG 65535)=x.map fun m=>(⟨m.bD*65535%65536,m.atoms⟩:aj):=by
  unfold dG;rw [if_pos (by omega),DJ]
  exact List.map_congr_left fun m hm=>K9 65535 (h.aok hm).2
 have e:jg x 65535=x.map fun m=>(⟨m.bD*65535%65536,m.atoms⟩:aj):=by
  unfold jg mO
  rw [if_pos (by rw [dz h];rfl),if_pos (by rw [dz h,dz (pE _)];rfl),pe,Z5 ok (fun k=>by have:=no.bnd k;omega)]
 rw [e]
 exact⟨ok,fun k=>by rw [←hc];have:=no.bnd k;omega⟩
theorem sub_self {x:List aj} (h:aI x):jw 2 x x=([],true):=by
 obtain⟨h1,h2⟩:=XJ h
 unfold jw oH
 rw [if_neg (by omega),if_pos rfl,if_pos (by rw [dz h,dz h1];rfl),Z5 eT (fun k=>by rw [dw,h2,kS];omega)]
theorem tN {x:List aj} (h:(bN x).2=true):aI x∧x=dG (bN x).1∧0≤(bN x).1∧(bN x).1≤65535:=by
 unfold bN at h ⊢
 by_cases c:aI x
 ·rw [dz c,if_pos rfl]at h ⊢
  refine⟨c,?_⟩
  by_cases c1:x.length=0
  ·rw [if_pos c1];exact⟨by rw [List.eq_nil_of_length_eq_zero c1];rfl,by omega,by omega⟩
  ·rw [if_neg c1]at h ⊢
   by_cases c2:x.length=1∧(x.getD 0 default).atoms.length=0
   ·rw [if_pos c2]
    match x,c,c2 with
    | [m],c,c2=>
     have hc:=c.nf.co m (by simp)
     have ha:m.atoms=[]:=List.eq_nil_of_length_eq_zero c2.2
     refine⟨?_,by show 0≤m.bD;omega,by show m.bD≤65535;omega⟩
     show [m]=dG m.bD
     unfold dG;rw [if_pos hc,←ha]
   ·rw [if_neg c2]at h;exact absurd h (by simp)
 ·rw [dD c]at h;exact absurd h (by simp)
end Go.TX.F
namespace Go.TX.F
open Go Go.AE Go.TX
end Go.TX.F
namespace Go.TX.F
open Go Go.AE Go.TX
theorem Z6 {d:List Int} {i j x:Int} (h1:0≤i) (h2:i<d.length) (h3:0≤j):((d.set i.toNat x).getD (j).toNat default)=if j=i then x else((d).getD (j).toNat default):=by
 simp only [List.getD]
 by_cases h:j=i
 ·subst h;rw [if_pos rfl,List.getElem?_set_self (by omega)];rfl
 ·rw [if_neg h,List.getElem?_set_ne (by omega)]
theorem abm {d:List Int} {i j:Int} (h1:0≤i) (h2:i<d.length) (h3:0≤j) (h4:j<d.length) (h5:i≠j):((d.set i.toNat ((d).getD (j).toNat default)).set j.toNat ((d).getD (i).toNat default)).Perm d:=by
 rw [List.perm_iff_count]
 intro x
 rw [getD_lt (show i.toNat<d.length by omega),getD_lt (show j.toNat<d.length by omega),List.count_set (by simp;omega),List.count_set (by omega),List.getElem_set_ne (by omega)]
 have h6:(if d[i.toNat]==x then 1 else 0)≤List.count x d:=by
  split
  ·rename_i h;exact List.count_pos_iff.2 (by rw [←eq_of_beq h];exact List.getElem_mem _)
  ·omega
 split<;>split<;>simp_all<;>omega
theorem apa {p:Int×Int×Unit→Bool} {f:Int×Int×Unit→Bool×Unit} (hp:∀a b,p (a,b,())=true) (hf:∀a b,f (a,b,())=(decide (a<b),()))
  (a b:Int) (d:List Int) (hd:d.length<1000000000) (h1:a=0) (h2:b=d.length):
  Wp (std 0).al p f (a,b,d,()) (fun y=>y.1=l8 d):=by
 subst h1
 dsimp only [Wp,Tup.q,Tup.o]
 simp (disch:=omega) only [RR]
 have fin:∀e:List Int,e.Perm d→(∀q:Int,1≤q→q<e.length→((e).getD (q-1).toNat default)≤((e).getD (q).toNat default))→e=l8 d:=fun e g1 g2=>
  AY ((dF (d:=default) (R:=fun a b:Int=>a≤b) (fun h1 h2=>Int.le_trans h1 h2)).2 g2) g1
 refine ak (fun(y:Int×Int×Int×List Int×Unit)=>y.1=0∧y.2.1=b∧1≤y.2.2.1∧(y.2.2.1≤b∨y.2.2.1=1)∧y.2.2.2.1.Perm d∧∀q,1≤q→q<y.2.2.1→((y.2.2.2.1).getD (q-1).toNat default)≤((y.2.2.2.1).getD (q).toNat default)) (fun y=>(b-y.2.2.1).toNat)
  ⟨rfl,rfl,by simp,Or.inr rfl,List.Perm.refl d,fun q g1 g2=>by dsimp only at g2;omega⟩ ?_
 rintro⟨(a':Int),(b':Int),(i:Int),(e:List Int),⟨⟩⟩ hI
 dsimp only at hI ⊢
 obtain⟨rfl,rfl,h4,h5,h6,h7⟩:=hI
 have hle:=h6.length_eq
 simp (disch:=omega) only [RR]
 refine⟨fun h9=> ?_,fun h9=>fin e h6 fun q g1 g2=>h7 q g1 (by omega)⟩
 refine ak (fun(y:Int×Int×Int×Int×List Int×Unit)=>y.1=0∧y.2.1=b'∧y.2.2.1=i∧0≤y.2.2.2.1∧y.2.2.2.1≤i∧y.2.2.2.2.1.Perm d
   ∧(∀q,1≤q→q≤i→q≠y.2.2.2.1→((y.2.2.2.2.1).getD (q-1).toNat default)≤((y.2.2.2.2.1).getD (q).toNat default))∧(1≤y.2.2.2.1→y.2.2.2.1+1≤i→((y.2.2.2.2.1).getD (y.2.2.2.1-1).toNat default)≤((y.2.2.2.2.1).getD (y.2.2.2.1+1).toNat default))) (fun y=>y.2.2.2.1.toNat)
  ⟨rfl,rfl,rfl,by simp;omega,by simp,h6,fun q g1 g2 g3=>h7 q g1 (by dsimp only at g3;omega),fun g1 g2=>by dsimp only at g2;omega⟩ ?_
 rintro⟨(a'':Int),(b'':Int),(i':Int),(j:Int),(e':List Int),⟨⟩⟩ hI
 dsimp only at hI ⊢
 obtain⟨rfl,rfl,rfl,h10,h11,h12,h13,h14⟩:=hI
 have hle':=h12.length_eq
 simp (disch:=omega) only [RR,List.length_set,hp,hf]
 repeat' (refine And.intro ?_ ?_)
 all_goals try omega
 ·intro ⟨g1,g2⟩
  have at2:∀k,0≤k→(((e'.set j.toNat ((e').getD (j-1).toNat default)).set (j-1).toNat ((e').getD (j).toNat default)).getD (k).toNat default)=if k=j-1 then((e').getD (j).toNat default)else if k=j then((e').getD (j-1).toNat default)else((e').getD (k).toNat default):=fun k hk=>by
   rw [Z6 (by omega) (by simp;omega) hk,Z6 (by omega) (by omega) hk]
  repeat' (refine And.intro ?_ ?_)
  all_goals try omega
  ·exact(abm (by omega) (by omega) (by omega) (by omega) (by omega)).trans h12
  ·intro q k1 k2 k3
   rw [at2 _ (by omega),at2 _ (by omega)]
   by_cases c1:q=j
   ·subst c1;rw [if_pos rfl,if_neg (by omega),if_pos rfl];omega
   ·rw [if_neg (by omega)]
    by_cases c2:q=j+1
    ·subst c2
     rw [if_pos (by omega),if_neg (by omega),if_neg (by omega)]
     exact h14 (by omega) (by omega)
    ·rw [if_neg (by omega),if_neg (by omega),if_neg (by omega)]
     exact h13 q k1 k2 c1
  ·intro k1 k2
   rw [at2 _ (by omega),at2 _ (by omega),if_neg (by omega),if_neg (by omega),if_neg (by omega),if_pos (by omega)]
   have:=h13 (j-1) (by omega) (by omega) (by omega)
   exact this
 ·intro g
  refine⟨⟨by omega,by omega,h12,fun q k1 k2=> ?_⟩,by omega⟩
  by_cases c:q=j
  ·subst c
   rw [Bool.and_eq_false_iff,decide_eq_false_iff_not,decide_eq_false_iff_not]at g
   omega
  ·exact h13 q k1 (by omega) c
theorem apb {p:Int×Int×Unit→Bool} {f:Int×Int×Unit→Bool×Unit}
  {p1:Int×Int×List Int×Unit→Bool} {f1:Int×Int×List Int×Unit→List Int×Unit} (hp1:∀(a b:Int) (d:List Int),d.length<1000000000→a=0→b=d.length→p1 (a,b,d,())=true) (hf1:∀(a b:Int) (d:List Int),d.length<1000000000→a=0→b=d.length→(f1 (a,b,d,())).1=l8 d)
  (p2 p3 f2 f3 p4 f4 p5 f5 p6 f6 p7 f7 p8 f8 p9 f9) (a b k:Int) (d:List Int) (hd:d.length≤12) (h1:a=0) (h2:b=d.length):
  Wq (std 0).al p f p1 f1 p2 f2 p3 f3 p4 f4 p5 f5 p6 f6 p7 f7 p8 f8 p9 f9 (a,b,k,d,()) (fun y=>y.1=l8 d):=by
 subst h1
 dsimp only [Wq,Tup.q,Tup.o]
 simp (disch:=omega) only [RR]
 refine ak (fun(y:Int×Int×Int×Bool×Bool×List Int×Unit)=>y.1=0∧y.2.1=b∧y.2.2.2.2.2.1=d) (fun y=>0) ⟨rfl,rfl,rfl⟩ ?_
 rintro⟨(a':Int),(b':Int),(k':Int),(u:Bool),(v:Bool),(e:List Int),⟨⟩⟩ hI
 dsimp only at hI ⊢
 obtain⟨rfl,rfl,rfl⟩:=hI
 simp (disch:=omega) only [RR]
 exact⟨fun _=>⟨hp1 0 b' e (by omega) rfl h2,hf1 0 b' e (by omega) rfl h2⟩,fun h=>absurd h (by omega)⟩
theorem apc {p1:Int×Int×Int×List Int×Unit→Bool} {f1:Int×Int×Int×List Int×Unit→List Int×Unit} (hp1:∀(a b k:Int) (d:List Int),d.length≤12→a=0→b=d.length→p1 (a,b,k,d,())=true) (hf1:∀(a b k:Int) (d:List Int),d.length≤12→a=0→b=d.length→(f1 (a,b,k,d,())).1=l8 d)
  {p2:Int×Unit→Bool} {f2:Int×Unit→Int×Unit} (hp2:∀n,0≤n→n≤18446744073709551615→p2 (n,())=true) (a:List Int) (ha:a.length≤8):
  Ws (std 0).al p1 f1 p2 f2 (a,()) (fun y=>y=(l8 a,())):=by
 dsimp only [Ws,Tup.q,Tup.o]
 have e:IntKind.u64.wrap (a.length:Int)=(a.length:Int):=IntWalk.u64_in _ (by omega)
 refine⟨?_,hp1 _ _ _ _ (by omega) rfl rfl,by rw [hf1 _ _ _ _ (by omega) rfl rfl]⟩
 rw [e];exact hp2 _ (by omega) (by omega)
end Go.TX.F
namespace Go.TX.F
open Go Go.AE Go.TX
end Go.TX.F
namespace Go.TX.F
open Go Go.AE Go.TX
def ins (c:Int) (at_:List Int):List aj→List aj
 | []=>if c%65536=0 then []else [⟨c%65536,at_⟩]
 | m::o=>if dR at_ m.atoms<0 then(if c%65536=0 then m::o else⟨c%65536,at_⟩::m::o)
  else if at_=m.atoms then(if(c+m.bD)%65536=0 then o else⟨(c+m.bD)%65536,at_⟩::o)else m::ins c at_ o
theorem afl {op:Int} (hop:1≤op∧op≤5) {x y:List aj} (hx:aI x) (hy:aI y):aI (jw op x y).1:=by
 unfold jw
 split
 ·exact Z0 _ _
 ·split
  ·exact Z0 _ _
  ·split
   ·exact ahU _ _
   ·unfold K6
    repeat' split
    all_goals first | exact pE _ | exact eT | assumption
end Go.TX.F
namespace Go.TX.F
open Go Go.AE Go.TX
end Go.TX.F
namespace Go.TX.F
open Go Go.AE Go.TX
@[reducible] def hX (o : IOp) : Prop := o.kind ≠ 1 ∧ o.kind ≠ 2 ∧ o.kind ≠ 6
@[reducible] def hY (o : IOp) : Prop := o.kind = 3 ∨ o.kind = 5
@[reducible] def mkV (o : IOp) : Prop := (1 ≤ o.kind ∧ o.kind ≤ 4) ∨ o.kind = 6
@[reducible] def evO (o : IOp) : Prop := 4 ≤ o.kind ∧ o.kind ≤ 7
def Vl (ops:List IOp) (x n:Int):Prop:=0≤x∧x<n∧mkV ((ops).getD (x).toNat default)
structure Ld (ops:List IOp) (len i:Int) (o:IOp):Prop where
 kd:1≤o.kind∧o.kind≤8
 x1:hX o→Vl ops o.x i
 x0:¬hX o→o.x=0
 y1:hY o→Vl ops o.y i
 y0:¬hY o→o.y=0
 k1:o.kind=1→0≤o.k∧o.k≤65535
 k2:o.kind=2∨o.kind=8→0≤o.k∧o.k≤3
 k3:o.kind=3→1≤o.k∧o.k≤5
 k0:4≤o.kind→o.kind≤7→o.k=0
 a1:evO o→0≤o.at_∧o.at_<len
 a0:¬evO o→o.at_=0
structure BS (b:Blk):Prop where
 f:1≤b.fin∧b.fin≤4
 x1:b.fin≠1→Vl b.ops b.x b.ops.length
 x0:b.fin=1→b.x=0
 y1:3≤b.fin→Vl b.ops b.y b.ops.length
 y0:b.fin≤2→b.y=0
 k1:b.fin≠2→0≤b.k∧b.k≤65535
 k0:b.fin=2→b.k=0
structure gH (b:Blk):Prop where
 ln:1≤b.len∧b.len≤8
 pc:0≤b.pc∧b.pc≤64-b.len
 sz:b.ops.length≤48
 op:∀i:Int,0≤i→i<b.ops.length→Ld b.ops b.len i ((b.ops).getD (i).toNat default)
 en:BS b
structure SS where
 t:List Atom
 regs:List (List aj)
 vals:List (List aj)
 ld:Int
 inn:Int
 evs:List Ev
def xOf (s:SS) (o:IOp):List aj:=if hX o then((s.vals).getD (o.x).toNat default)else []
def yOf (s:SS) (o:IOp):List aj:=if hY o then((s.vals).getD (o.y).toNat default)else []
def aOf (s:SS) (o:IOp):Atom:=if o.kind=4 then⟨2,s.ld,[],[]⟩else⟨3,s.inn,[],[]⟩
noncomputable def nT (s:SS) (o:IOp):List Atom:=if o.kind=3 then(tDo s.t o.k (xOf s o) (yOf s o)).1 else if o.kind=4∨o.kind=6 then(bG s.t (aOf s o)).1 else s.t
noncomputable def nV (s:SS) (o:IOp):List aj:=if o.kind=1 then dG o.k else if o.kind=2 then((s.regs).getD (o.k).toNat default)else if o.kind=3 then(tDo s.t o.k (xOf s o) (yOf s o)).2 else if o.kind=4∨o.kind=6 then gK (bG s.t (aOf s o)).2 else []
def nR (s:SS) (o:IOp):List (List aj):=if o.kind=8 then s.regs.set o.k.toNat (xOf s o)else s.regs
def nE (s:SS) (o:IOp):List Ev:=if evO o then s.evs++ [⟨o.kind,o.at_,xOf s o,yOf s o,if o.kind=4∨o.kind=5 then s.regs else []⟩]else s.evs
noncomputable def stp (s:SS) (o:IOp):SS:=⟨nT s o,nR s o,s.vals++ [nV s o],if o.kind=4 then s.ld+1 else s.ld,if o.kind=6 then s.inn+1 else s.inn,nE s o⟩
noncomputable def rN (t:List Atom):Nat→List Atom×List (List aj)
 | 0=>(t,[])
 | n+1=>((bG (rN t n).1 ⟨1,n,[],[]⟩).1,(rN t n).2++ [gK (bG (rN t n).1 ⟨1,n,[],[]⟩).2])
noncomputable def s0 (t:List Atom):SS:=⟨(rN t 4).1,(rN t 4).2,[],0,0,[]⟩
noncomputable def iO (t:List Atom) (b:Blk):SS:=b.ops.foldl stp (s0 t)
def BU (b:Blk) (s:SS):Sym:=⟨s.evs,s.regs,b.fin,if b.fin=1 then []else((s.vals).getD (b.x).toNat default),if 3≤b.fin then((s.vals).getD (b.y).toNat default)else [],b.k⟩
def abn:Sym:=⟨[],[],0,[],[],0⟩
noncomputable def symEnd (s:Sym) (behind:Int):Sym:=
 if bp (aI s.x∧aI s.y)=false then abn
 else if s.fin=2∧(bN s.x).2=true then⟨s.events,s.regs,1,[],[],(bN s.x).1⟩
 else if s.fin≠3∧s.fin≠4 then s
 else if s.x=s.y∨(bN s.x).2=true∧(bN s.y).2=true then
  ⟨s.events,s.regs,1,[],[],if s.x=s.y∧s.fin=3∨((bN s.x).2=true∧(bN s.y).2=true)∧(s.fin=3∧(bN s.x).1=(bN s.y).1∨s.fin=4∧(bN s.x).1< (bN s.y).1)then s.k else behind⟩
 else if s.fin=3∧0<fQ s.x s.y then⟨s.events,s.regs,s.fin,s.y,s.x,s.k⟩else s
noncomputable def dH (t:List Atom) (b:Blk):List Atom×Sym:=if bp (aD t∧t.length≤100∧gH b)=true then((iO t b).t,symEnd (BU b (iO t b)) (b.pc+b.len))else([],abn)
theorem BX (t:List Atom) (a:Atom):t<+:(bG t a).1:=by
 unfold bG
 split
 ·exact List.prefix_refl _
 ·split
  ·exact List.prefix_refl _
  ·exact List.prefix_append _ _
theorem Ol {α:Type} {a b:List α} (h:a<+:b):a.length≤b.length:=h.length_le
theorem apd {α:Type} {d:α} {a b:List α} (h:a<+:b) {i:Int} (h1:i.toNat<a.length):b.getD i.toNat d=a.getD i.toNat d:=by
 obtain⟨c,rfl⟩:=h
 rw [getD_lt h1,getD_lt (by rw [List.length_append];omega),List.getElem_append_left h1]
theorem BZ {t:List Atom} {a:Atom} (h:0≤(bG t a).2):(bG t a).2< (bG t a).1.length∧(((bG t a).1).getD ((bG t a).2).toNat default)=a:=by
 have hsp:=lK t a
 revert h
 unfold bG
 split
 ·intro h
  rcases hsp with⟨h1,_⟩ | ⟨_,h2,h3,_⟩
  ·exact absurd h (by dsimp only;omega)
  ·exact⟨h2,h3.symm⟩
 ·split
  ·intro h;exact absurd h (by dsimp only;omega)
  ·intro _
   dsimp only
   refine⟨by rw [List.length_append];simp only [List.length_cons,List.length_nil];omega,?_⟩
   rw [getD_lt (by rw [List.length_append];simp only [List.length_cons,List.length_nil];omega)]
   simp
theorem Tk {op n:Int} {x y:List aj} (ux:aX x n) (uy:aX y n):aX (jw op x y).1 n:=by
 unfold jw
 split
 ·exact Lb ux uy
 ·split
  ·refine Lb ux ?_
   unfold jg
   split
   ·exact Lc uy (wT _ _)
   ·exact jo _
  ·split
   ·exact Lc ux uy
   ·unfold K6
    repeat' split
    all_goals first | exact ux | exact uy | exact jo _ | exact wT _ _
structure ape (t:List Atom) (op:Int) (x y:List aj):Prop where
 tok:aD (tDo t op x y).1
 pre:t<+:(tDo t op x y).1
 len:(tDo t op x y).1.length≤t.length+1
 pok:aI (tDo t op x y).2
 und:aX (tDo t op x y).2 (tDo t op x y).1.length
 ok:tOk t op x y=true
theorem ahV {t:List Atom} {op:Int} {x y:List aj} (h:aD t) (h2:t.length<200) (h3:1≤op∧op≤5) (hx:aI x) (hy:aI y) (ux:aX x t.length) (uy:aX y t.length):ape t op x y:=by
 by_cases c:(jw op x y).2=true
 ·have e:tDo t op x y=(t,(jw op x y).1):=by unfold tDo;rw [if_pos c]
  refine⟨?_,?_,?_,?_,?_,by unfold tOk;rw [c];rfl⟩<;>rw [e]
  ·exact h
  ·exact List.prefix_refl _
  ·exact Nat.le_succ _
  ·exact afl h3 hx hy
  ·exact Tk ux uy
 ·have key:∀x' y',aI x'→aI y'→aX x' t.length→aX y' t.length→0≤(bG t ⟨4,op,x',y'⟩).2∧aD (bG t ⟨4,op,x',y'⟩).1∧(bG t ⟨4,op,x',y'⟩).1.length≤t.length+1:=fun x' y' a1 a2 a3 a4=>by
   have p1:=Fj (a:=⟨4,op,x',y'⟩) h h2
   have q1:=p1.2.2.2 (by unfold iD;rw [if_pos rfl];exact⟨h3,a1,a2,a3,a4⟩)
   exact⟨q1,p1.1,p1.2.2.1⟩
  by_cases c2:op≠2∧0<fQ x y
  ·obtain⟨k1,k2,k3⟩:=key y x hy hx uy ux
   have e:tDo t op x y=((bG t ⟨4,op,y,x⟩).1,gK (bG t ⟨4,op,y,x⟩).2):=by unfold tDo;rw [if_neg c,if_pos c2,if_neg (by omega)]
   refine⟨?_,?_,?_,?_,?_,by unfold tOk;rw [if_pos c2,decide_eq_false (by omega),Bool.not_false,Bool.or_true]⟩<;>rw [e]
   ·exact k2
   ·exact BX _ _
   ·exact k3
   ·exact oJ _
   ·exact tL (BZ k1).1
  ·obtain⟨k1,k2,k3⟩:=key x y hx hy ux uy
   have e:tDo t op x y=((bG t ⟨4,op,x,y⟩).1,gK (bG t ⟨4,op,x,y⟩).2):=by unfold tDo;rw [if_neg c,if_neg c2,if_neg (by omega)]
   refine⟨?_,?_,?_,?_,?_,by unfold tOk;rw [if_neg c2,decide_eq_false (by omega),Bool.not_false,Bool.or_true]⟩<;>rw [e]
   ·exact k2
   ·exact BX _ _
   ·exact k3
   ·exact oJ _
   ·exact tL (BZ k1).1
end Go.TX.F
namespace Go.TX.F
open Go Go.AE Go.TX
structure SI (n:Int) (i:Nat) (s:SS):Prop where
 tok:aD s.t
 tl:(s.t.length:Int)≤n+i
 r4:s.regs.length=4
 rok:∀p∈s.regs,aI p∧aX p s.t.length
 vl:s.vals.length=i
 vok:∀p∈s.vals,aI p∧aX p s.t.length
 ld:0≤s.ld∧s.ld≤i
 inn:0≤s.inn∧s.inn≤i
theorem DK {l:List (List aj)} {n:Int} (h:∀p∈l,aI p∧aX p n) (i:Int):aI ((l).getD (i).toNat default)∧aX ((l).getD (i).toNat default) n:=by
 by_cases c:i.toNat<l.length
 ·rw [getD_lt c];exact h _ (List.getElem_mem _)
 ·rw [List.getD_eq_getElem?_getD,List.getElem?_eq_none (by omega)];exact⟨eT,jo _⟩
theorem SI.x {n:Int} {i:Nat} {s:SS} (h:SI n i s) (o:IOp):aI (xOf s o)∧aX (xOf s o) s.t.length:=by
 unfold xOf;split
 ·exact DK h.vok _
 ·exact⟨eT,jo _⟩
theorem SI.y {n:Int} {i:Nat} {s:SS} (h:SI n i s) (o:IOp):aI (yOf s o)∧aX (yOf s o) s.t.length:=by
 unfold yOf;split
 ·exact DK h.vok _
 ·exact⟨eT,jo _⟩
theorem ahW {n:Int} {i:Nat} {s:SS} (h:SI n i s) (hi:i<200) (o:IOp) (m:Int):iD (aOf s o) m:=by
 have h1:=h.ld
 have h2:=h.inn
 unfold aOf
 split
 ·unfold iD;rw [if_neg (by simp)];exact⟨⟨rfl,rfl⟩,Or.inr ⟨Or.inl rfl,by dsimp only;omega,by dsimp only;omega⟩⟩
 ·unfold iD;rw [if_neg (by simp)];exact⟨⟨rfl,rfl⟩,Or.inr ⟨Or.inr rfl,by dsimp only;omega,by dsimp only;omega⟩⟩
structure SOK (s:SS) (o:IOp):Prop where
 pre:s.t<+:(stp s o).t
 d:o.kind=3→ape s.t o.k (xOf s o) (yOf s o)
 p:o.kind=4∨o.kind=6→0≤(bG s.t (aOf s o)).2
theorem Om {n:Int} {i:Nat} {s:SS} {o:IOp} (h:SI n i s) (hk:o.kind=3→1≤o.k∧o.k≤5) (hn:n+i<200) (hi:i<200):SI n (i+1) (stp s o)∧SOK s o:=by
 have hl:=h.tl
 have tl:s.t.length<200:=by omega
 have hd:o.kind=3→ape s.t o.k (xOf s o) (yOf s o):=fun e=>ahV h.tok tl (hk e) (h.x o).1 (h.y o).1 (h.x o).2 (h.y o).2
 have hput:=Fj (a:=aOf s o) h.tok tl
 have hp:=hput.2.2.2 (ahW h hi o _)
 have T:aD (nT s o)∧(nT s o).length≤s.t.length+1∧s.t<+:nT s o:=by
  unfold nT
  split
  ·rename_i e;have:=hd e;exact⟨this.tok,this.len,this.pre⟩
  ·split
   ·exact⟨hput.1,hput.2.2.1,BX _ _⟩
   ·exact⟨h.tok,Nat.le_succ _,List.prefix_refl _⟩
 have up:∀ {p:List aj},aI p∧aX p s.t.length→aI p∧aX p (nT s o).length:=fun hp=>⟨hp.1,yD hp.2 (by have:=Ol T.2.2;omega)⟩
 have V:aI (nV s o)∧aX (nV s o) (nT s o).length:=by
  unfold nV
  split
  ·exact⟨pE _,wT _ _⟩
  ·split
   ·exact up (DK h.rok _)
   ·split
    ·rename_i e
     have:=hd e
     refine⟨this.pok,?_⟩
     have e2:nT s o=(tDo s.t o.k (xOf s o) (yOf s o)).1:=by unfold nT;rw [if_pos e]
     rw [e2];exact this.und
    ·split
     ·rename_i e1 e2
      have e3:nT s o=(bG s.t (aOf s o)).1:=by unfold nT;rw [if_neg (by omega),if_pos e2]
      rw [e3]
      exact⟨oJ _,tL (BZ hp).1⟩
     ·exact⟨eT,jo _⟩
 have g1:=h.ld
 have g2:=h.inn
 refine⟨⟨T.1,?_,?_,?_,?_,?_,?_,?_⟩,⟨T.2.2,hd,fun _=>hp⟩⟩
 ·have:=T.2.1;show((nT s o).length:Int)≤_;omega
 ·show(nR s o).length=4
  unfold nR;split
  ·rw [List.length_set];exact h.r4
  ·exact h.r4
 ·show∀p∈nR s o,_
  intro p hp
  unfold nR at hp;split at hp
  ·rcases List.mem_or_eq_of_mem_set hp with hp | rfl
   ·exact up (h.rok p hp)
   ·exact up (h.x o)
  ·exact up (h.rok p hp)
 ·show(s.vals++ [nV s o]).length=i+1
  rw [List.length_append,h.vl];rfl
 ·show∀p∈s.vals++ [nV s o],_
  intro p hp
  rw [List.mem_append,List.mem_singleton]at hp
  rcases hp with hp | rfl
  ·exact up (h.vok p hp)
  ·exact V
 ·show 0≤(if o.kind=4 then s.ld+1 else s.ld)∧(if o.kind=4 then s.ld+1 else s.ld)≤_
  split<;>omega
 ·show 0≤(if o.kind=6 then s.inn+1 else s.inn)∧(if o.kind=6 then s.inn+1 else s.inn)≤_
  split<;>omega
theorem Le {n:Int}:∀(ops:List IOp) (i:Nat) (s:SS),SI n i s→(∀o∈ops,o.kind=3→1≤o.k∧o.k≤5)→n+i+ops.length≤200→i+ops.length≤200→SI n (i+ops.length) (ops.foldl stp s)∧s.t<+:(ops.foldl stp s).t
 | [],i,s,h,_,_,_=>⟨h,List.prefix_refl _⟩
 | o::r,i,s,h,hk,h1,h2=>by
  rw [List.length_cons]at h1 h2
  obtain⟨a1,a2⟩:=Om h (hk o List.mem_cons_self) (by omega) (by omega)
  obtain⟨b1,b2⟩:=Le r (i+1) (stp s o) a1 (fun o ho=>hk o (List.mem_cons_of_mem _ ho)) (by omega) (by omega)
  rw [List.foldl_cons,List.length_cons,show i+(r.length+1)=i+1+r.length by omega]
  exact⟨b1,a2.pre.trans b2⟩
structure RI (t:List Atom) (n:Nat) (r:List Atom×List (List aj)):Prop where
 tok:aD r.1
 tl:r.1.length≤t.length+n
 pre:t<+:r.1
 r4:r.2.length=n
 rok:∀p∈r.2,aI p∧aX p r.1.length
theorem EI {t:List Atom} (h:aD t) (hl:t.length≤196):∀n:Nat,n≤4→RI t n (rN t n)
 | 0,_=>⟨h,Nat.le_refl _,List.prefix_refl _,rfl,fun p hp=>absurd hp (by simp [rN])⟩
 | n+1,hn=>by
  have ih:=EI h hl n (by omega)
  have l:=ih.tl
  have hp:=Fj (a:=⟨1,n,[],[]⟩) ih.tok (by omega)
  have h0:=hp.2.2.2 (by unfold iD;rw [if_neg (by simp)];exact⟨⟨rfl,rfl⟩,Or.inl ⟨rfl,by dsimp only;omega,by dsimp only;omega⟩⟩)
  have pr:=BX (rN t n).1 ⟨1,n,[],[]⟩
  unfold rN
  refine⟨hp.1,?_,ih.pre.trans pr,?_,fun p h=> ?_⟩
  ·have:=hp.2.2.1;dsimp only;omega
  ·dsimp only;rw [List.length_append,ih.r4];rfl
  ·dsimp only at h ⊢
   rw [List.mem_append,List.mem_singleton]at h
   rcases h with h | rfl
   ·have:=ih.rok p h;exact⟨this.1,yD this.2 (by have:=Ol pr;omega)⟩
   ·exact⟨oJ _,tL (BZ h0).1⟩
theorem XK {t:List Atom} (h:aD t) (hl:t.length≤196) {n:Nat} (hn:n<4):0≤(bG (rN t n).1 ⟨1,n,[],[]⟩).2:=by
 have ih:=EI h hl n (by omega)
 have l:=ih.tl
 exact(Fj (a:=⟨1,n,[],[]⟩) ih.tok (by omega)).2.2.2 (by unfold iD;rw [if_neg (by simp)];exact⟨⟨rfl,rfl⟩,Or.inl ⟨rfl,by dsimp only;omega,by dsimp only;omega⟩⟩)
theorem Tm {t:List Atom} (h:aD t) (hl:t.length≤196):SI (t.length+4) 0 (s0 t):=by
 have:=EI h hl 4 (by omega)
 have l:=this.tl
 exact⟨this.tok,by show((rN t 4).1.length:Int)≤_;omega,this.r4,this.rok,rfl,fun p hp=>absurd hp (by simp [s0]),by simp [s0],by simp [s0]⟩
theorem gH.k3 {b:Blk} (h:gH b):∀o∈b.ops,o.kind=3→1≤o.k∧o.k≤5:=fun o ho=>by
 obtain⟨i,hi,rfl⟩:=List.getElem_of_mem ho
 have:=(h.op i (by omega) (by omega)).k3
 rw [show(i:Int).toNat=i from rfl,getD_lt hi]at this
 exact this
theorem Z7 {t:List Atom} {b:Blk} (h:aD t) (hl:t.length≤100) (hb:gH b):SI (t.length+4) b.ops.length (iO t b)∧t<+:(iO t b).t:=by
 have sz:=hb.sz
 obtain⟨h1,h2⟩:=Le b.ops 0 (s0 t) (Tm h (by omega)) hb.k3 (by omega) (by omega)
 rw [Nat.zero_add]at h1
 exact⟨h1,(EI h (by omega) 4 (by omega)).pre.trans h2⟩
def SS.on (s:SS) (u:List Atom):SS:=⟨u,s.regs,s.vals,s.ld,s.inn,s.evs⟩
theorem Lf {t:List Atom} {b:Blk} (h:aD t) (hl:t.length≤100) (hb:gH b):dH t b=((iO t b).t,symEnd (BU b (iO t b)) (b.pc+b.len)):=by
 unfold dH;rw [if_pos (dz ⟨h,hl,hb⟩)]
theorem abo {t:List Atom} {b:Blk} (h:aD t) (hl:t.length≤100) (hb:gH b):aD (dH t b).1∧t<+:(dH t b).1∧(dH t b).1.length≤t.length+b.ops.length+4:=by
 unfold dH
 rw [if_pos (dz ⟨h,hl,hb⟩)]
 obtain⟨h1,h2⟩:=Z7 h hl hb
 have:=h1.tl
 exact⟨h1.tok,h2,by dsimp only;omega⟩
end Go.TX.F
namespace Go.TX.F
open Go Go.AE Go.TX
def ShP (l:List (List aj)):Prop:=l.length<1000000000∧∀p∈l,Sh p
def ShE (e:Ev):Prop:=Sh e.x∧Sh e.y∧ShP e.regs
def abp (l:List Ev):Prop:=l.length<1000000000∧∀e∈l,ShE e
structure ShY (s:Sym):Prop where
 e:abp s.events
 r:ShP s.regs
 x:Sh s.x
 y:Sh s.y
theorem ShP.at {l:List (List aj)} (h:ShP l) (n:Nat):Sh (l.getD n default):=by
 by_cases c:n<l.length
 ·rw [getD_lt c];exact h.2 _ (List.getElem_mem _)
 ·rw [List.getD_eq_getElem?_getD,List.getElem?_eq_none (by omega)];exact oI
theorem Oo:ShP []:=⟨by simp,fun p h=>absurd h (by simp)⟩
theorem abp.at {l:List Ev} (h:abp l) (n:Nat):ShE (l.getD n default):=by
 by_cases c:n<l.length
 ·rw [getD_lt c];exact h.2 _ (List.getElem_mem _)
 ·rw [List.getD_eq_getElem?_getD,List.getElem?_eq_none (by omega)];exact⟨oI,oI,Oo⟩
theorem ahX:ShY abn:=⟨⟨by simp [abn],fun e h=>absurd h (by simp [abn])⟩,Oo,oI,oI⟩
theorem SI.regs {n:Int} {i:Nat} {s:SS} (h:SI n i s):ShP s.regs:=⟨by have:=h.r4;omega,fun p hp=>(h.rok p hp).1.sh⟩
theorem ahY {n:Int} {i:Nat} {s:SS} {o:IOp} (h:SI n i s) (h2:s.evs.length≤i∧∀e∈s.evs,ShE e):(stp s o).evs.length≤i+1∧∀e∈(stp s o).evs,ShE e:=by
 show(nE s o).length≤i+1∧∀e∈nE s o,ShE e
 unfold nE
 split
 ·refine⟨by rw [List.length_append];have:=h2.1;simp only [List.length_cons,List.length_nil];omega,fun e he=> ?_⟩
  rw [List.mem_append,List.mem_singleton]at he
  rcases he with he | rfl
  ·exact h2.2 e he
  ·refine⟨(h.x o).1.sh,(h.y o).1.sh,?_⟩
   dsimp only
   split
   ·exact h.regs
   ·exact Oo
 ·exact⟨by have:=h2.1;omega,h2.2⟩
theorem Oq {n:Int}:∀(ops:List IOp) (i:Nat) (s:SS),SI n i s→(∀o∈ops,o.kind=3→1≤o.k∧o.k≤5)→n+i+ops.length≤200→i+ops.length≤200→(s.evs.length≤i∧∀e∈s.evs,ShE e)→(ops.foldl stp s).evs.length≤i+ops.length∧∀e∈(ops.foldl stp s).evs,ShE e
 | [],i,s,h,_,_,_,h3=>h3
 | o::r,i,s,h,hk,h1,h2,h3=>by
  rw [List.length_cons]at h1 h2
  obtain⟨a1,a2⟩:=Om h (hk o List.mem_cons_self) (by omega) (by omega)
  have:=Oq r (i+1) (stp s o) a1 (fun o ho=>hk o (List.mem_cons_of_mem _ ho)) (by omega) (by omega) (ahY h h3)
  rw [List.foldl_cons,List.length_cons,show i+(r.length+1)=i+1+r.length by omega]
  exact this
def evT (e:Ev):Int×Int×Nat:=(e.kind,e.at_,e.regs.length)
def opT (o:IOp):Int×Int×Nat:=(o.kind,o.at_,if o.kind=4∨o.kind=5 then 4 else 0)
def Z8 (ops:List IOp):List IOp:=ops.filter fun o=>decide (evO o)
theorem Z9:∀(ops:List IOp) (s:SS),s.regs.length=4→(ops.foldl stp s).evs.map evT=s.evs.map evT++(Z8 ops).map opT
 | [],s,_=>by simp [Z8]
 | o::r,s,h=>by
  have h':(stp s o).regs.length=4:=by
   show(nR s o).length=4
   unfold nR;split
   ·rw [List.length_set];exact h
   ·exact h
  rw [List.foldl_cons,Z9 r (stp s o) h']
  show(nE s o).map evT++_=_
  unfold nE Z8
  by_cases c:evO o
  ·have e:evT ⟨o.kind,o.at_,xOf s o,yOf s o,if o.kind=4∨o.kind=5 then s.regs else []⟩=opT o:=by
    unfold evT opT
    dsimp only
    split
    ·rw [h]
    ·rfl
   rw [if_pos c,List.filter_cons_of_pos (by simpa using c),List.map_append,List.append_assoc]
   refine congrArg (s.evs.map evT++ ·) ?_
   show evT _::_=opT o::_
   rw [e];rfl
  ·rw [if_neg c,List.filter_cons_of_neg (by simpa using c)]
theorem Ou {n:Int} {i:Nat} {s:SS} {b:Blk} (h:SI n i s):aI (BU b s).x∧aI (BU b s).y:=by
 unfold BU
 dsimp only
 constructor
 ·split
  ·exact eT
  ·exact(DK h.vok _).1
 ·split
  ·exact(DK h.vok _).1
  ·exact eT
theorem Ov {s:Sym} {n:Int} (h:aI s.x∧aI s.y):(symEnd s n).events=s.events∧(symEnd s n).regs=s.regs∧aI (symEnd s n).x∧aI (symEnd s n).y:=by
 unfold symEnd
 rw [if_neg (by rw [dz h];simp)]
 repeat' split
 all_goals first | exact⟨rfl,rfl,h⟩ | exact⟨rfl,rfl,eT,eT⟩ | exact⟨rfl,rfl,h.2,h.1⟩
structure awT (t:List Atom) (b:Blk):Prop where
 evs:(dH t b).2.events.map evT=(Z8 b.ops).map opT
 r4:(dH t b).2.regs.length=4
 sh:ShY (dH t b).2
 ne:0< (dH t b).1.length
theorem Tn {t:List Atom} {b:Blk} (h:aD t) (hl:t.length≤100) (hb:gH b):awT t b:=by
 have sz:=hb.sz
 have i0:=Tm h (by omega)
 obtain⟨h1,h2⟩:=Z7 h hl hb
 have hs:=Oq b.ops 0 (s0 t) i0 hb.k3 (by omega) (by omega) ⟨by simp [s0],fun e he=>absurd he (by simp [s0])⟩
 have he:=Z9 b.ops (s0 t) i0.r4
 have hk:=Ov (n:=b.pc+b.len) (Ou (b:=b) h1)
 have e:dH t b=((iO t b).t,symEnd (BU b (iO t b)) (b.pc+b.len)):=by unfold dH;rw [if_pos (dz ⟨h,hl,hb⟩)]
 rw [Nat.zero_add]at hs
 refine⟨?_,?_,?_,?_⟩
 ·rw [e];dsimp only;rw [hk.1];show(iO t b).evs.map evT=_;unfold iO;rw [he];rfl
 ·rw [e];dsimp only;rw [hk.2.1];exact h1.r4
 ·rw [e]
  refine⟨?_,?_,hk.2.2.1.sh,hk.2.2.2.sh⟩
  ·rw [hk.1];exact⟨by have:=hs.1;show(b.ops.foldl stp (s0 t)).evs.length<_;omega,hs.2⟩
  ·rw [hk.2.1];exact h1.regs
 ·rw [e]
  have r:=Le b.ops 0 (s0 t) i0 hb.k3 (by omega) (by omega)
  have:=Ol r.2
  have p:=BZ (XK h (by omega) (n:=3) (by omega))
  have p0:=XK h (by omega) (n:=3) (by omega)
  show 0< (iO t b).t.length
  have:(s0 t).t.length=(bG (rN t 3).1 ⟨1,(3:Nat),[],[]⟩).1.length:=rfl
  unfold iO
  omega
theorem Ca (t:List Atom) (b:Blk):ShY (dH t b).2∧ShT (dH t b).1:=by
 by_cases c:aD t∧t.length≤100∧gH b
 ·exact⟨(Tn c.1 c.2.1 c.2.2).sh,(abo c.1 c.2.1 c.2.2).1.sh⟩
 ·unfold dH;rw [dD c,if_neg (by simp)];exact⟨ahX,ahR⟩
noncomputable def t4:List Atom:=(rN [] 4).1
theorem yE:aD []:=rX.2 ⟨All.zero,by simp⟩
theorem afm:aD t4∧t4.length≤4:=by
 have:=EI yE (by simp) 4 (by omega)
 exact⟨this.tok,Nat.le_trans this.tl (by simp)⟩
noncomputable def chk (b c:Blk):Bool:=bp (gH b∧gH c∧b.pc=c.pc∧b.len=c.len∧(b=c∨(dH t4 b).2=(dH (dH t4 b).1 c).2))
structure Lk (b c:Blk):Prop where
 ob:gH b
 oc:gH c
 pc:b.pc=c.pc
 len:b.len=c.len
 run:∀u,aD u→u.length≤100→(dH u b).1=u→dH u c=dH u b
end Go.TX.F
namespace Go.TX.F
open Go Go.AE Go.TX
def ahZ:Blk:=⟨0,0,[],0,0,0,0⟩
theorem MV {α:Type} {d x:α} {l:List α} {i:Nat}:(l++ [x]).getD i d=if i<l.length then l.getD i d else if i=l.length then x else d:=by
 split
 ·rename_i h;rw [getD_lt (by rw [List.length_append];omega),getD_lt h,List.getElem_append_left]
 ·split
  ·rename_i h1 h2;subst h2;rw [getD_lt (by simp)];simp
  ·rw [List.getD_eq_getElem?_getD,List.getElem?_eq_none (by rw [List.length_append];simp only [List.length_cons,List.length_nil];omega)];rfl
theorem XL (f:SS→IOp→SS) (s:SS) {l:List IOp} {i:Nat} (h:i<l.length):(l.take (i+1)).foldl f s=f ((l.take i).foldl f s) l[i]:=by
 rw [List.take_succ_eq_append_getElem h,List.foldl_append];rfl
def ren (nm:List Int) (o:IOp):IOp:=⟨o.kind,if hX o then((nm).getD (o.x).toNat default)else o.x,if hY o then((nm).getD (o.y).toNat default)else o.y,o.k,o.at_⟩
def afn (nm:List Int) (b:Blk) (ops:List IOp):Blk:=⟨b.pc,b.len,ops.map (ren nm),b.fin,if b.fin=1 then b.x else((nm).getD (b.x).toNat default),if 3≤b.fin then((nm).getD (b.y).toNat default)else b.y,b.k⟩
def cpN (s:List Int×List Int) (i:Int) (o:IOp):Int:=if o.kind=2∧0≤((s.2).getD (o.k).toNat default)then((s.2).getD (o.k).toNat default)else i
def cpL (s:List Int×List Int) (i:Int) (o:IOp):List Int:=if o.kind=2 then(if 0≤((s.2).getD (o.k).toNat default)then s.2 else s.2.set o.k.toNat i)else if o.kind=8 then s.2.set o.k.toNat ((s.1).getD (o.x).toNat default)else s.2
def cpS (ops:List IOp):Nat→List Int×List Int
 | 0=>([],[-1, -1, -1, -1])
 | i+1=>((cpS ops i).1++ [cpN (cpS ops i) i (ops.getD i default)],cpL (cpS ops i) i (ops.getD i default))
noncomputable def jH (b:Blk):Blk:=if bp (gH b)=true then afn (cpS b.ops b.ops.length).1 b b.ops else ahZ
theorem Fq (ops:List IOp):∀i,(cpS ops i).1.length=i∧(cpS ops i).2.length=4
 | 0=>⟨rfl,rfl⟩
 | i+1=>by
  obtain⟨h1,h2⟩:=Fq ops i
  constructor
  ·show((cpS ops i).1++ [_]).length=_
   rw [List.length_append,h1];rfl
  ·show(cpL (cpS ops i) i (ops.getD i default)).length=4
   unfold cpL
   repeat' split
   all_goals first | exact h2 | (rw [List.length_set];exact h2)
theorem apf (ops:List IOp):∀ {i n:Nat} {j:Nat},j<i→i≤n→(cpS ops n).1.getD j default=(cpS ops i).1.getD j default:=by
  intro i n j h1 h2
  induction n with
  | zero => have : i = 0 := by omega
            subst this;rfl
  | succ n ih=>
    by_cases c:i=n+1
    · subst c;rfl
    · have:=ih (by omega)
      rw [←this]
      show((cpS ops n).1++ [_]).getD j default=_
      rw [MV,if_pos (by rw [(Fq ops n).1];omega)]
structure CI (ops:List IOp) (i:Nat) (s:SS):Prop where
 nm:∀j:Int,0≤j→j<i→(0≤(((cpS ops i).1).getD (j).toNat default)∧(((cpS ops i).1).getD (j).toNat default)≤j)∧((s.vals).getD ((((cpS ops i).1).getD (j).toNat default)).toNat default)=((s.vals).getD (j).toNat default)∧(mkV ((ops).getD (j).toNat default)→mkV ((ops).getD ((((cpS ops i).1).getD (j).toNat default)).toNat default))
 la:∀r:Int,0≤r→r≤3→0≤(((cpS ops i).2).getD (r).toNat default)→(((cpS ops i).2).getD (r).toNat default)<i∧((s.vals).getD ((((cpS ops i).2).getD (r).toNat default)).toNat default)=((s.regs).getD (r).toNat default)∧mkV ((ops).getD ((((cpS ops i).2).getD (r).toNat default)).toNat default)
end Go.TX.F
