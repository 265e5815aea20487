/- Part 4 of a proof: what the last part needs. No condition. -/
import Derived.Test.YthiiicchooeapaaGreatZc
import Derived.Lib.Bytes
set_option maxHeartbeats 1000000
set_option linter.all false
set_option linter.unusedSectionVars false
set_option linter.unusedVariables false
set_option linter.unusedSimpArgs false
noncomputable section
namespace Go.TX.F
open Go Go.AE Go.TX Go.TX.Seat Go.Proofs
set_option maxRecDepth 100000
set_option maxHeartbeats 4000000
def WU:Gt bI.z X E .u RH Tryz.f125 []:=gm
def WW:Gt bI.z X E .u acf Tryz.f81 [(125,RH)]:=gm
def WX:Gt bI.z X E (.v (.v ahb)) L6 Tryz.f27 [(81,acf)]:=gm
def WY:Gt bI.z X E .u Wp Tryz.f6 [(27,L6)]:=gm
def WZ:Gt bI.z X E .u acg Tryz.f80 [(6,Wp)]:=gm
def W9:Gt bI.z X E (.v (.v ahc)) RL Tryz.f26 [(80,acg)]:=gm
def Xa:Gt bI.z X E .u ach Tryz.f5 [(26,RL)]:=gm
def OT:Gt bI.z X E .u mI Tryz.f29 []:=gm
def OU:Gt bI.z X E (.v (.v (.seq (.v (.block (.loop ⟨[(1,.p 0 2),(3,.i)],[.s false .mono]⟩ .u))) .u))) JC Tryz.f127 [(29,mI)]:=gm
def OV:Gt bI.z X E ag9 qh Tryz.f128 []:=gm
def OW:Gt bI.z X E (.v (.v (.seq (.v (.block (.loop ⟨[(1,.p 0 1),(3,.i)],[.s false .poly]⟩ .u))) .u))) mJ Tryz.f84 [(127,JC),(128,qh)]:=gm
def OX:Gt bI.z X E (.v (.seq (.v (.block (.loop ⟨[(1,.i),(2,.p 0 1),(5,.i)],[.s false .poly]⟩ (.v (.seq (.block (.v (.block (.loop ⟨[(1,.i),(2,.p 0 1),(5,.i),(6,.i)],[.s false .poly]⟩ .u)))) .u))))) .u)) Ba Tryz.f85 []:=gm
def OY:Gt bI.z X E .u Wq Tryz.f126 []:=gm
def OZ:Gt bI.z X E (.v (.seq (.v (.block (.v (.cond .u (.seq (.v (.cut ⟨[(1,.i),(2,.p 0 4),(6,.i),(16,.b)],[.s false .atom]⟩ qq4)) .u))))) .u)) Bb Tryz.f82 [(29,mI),(84,mJ),(85,Ba),(126,Wq)]:=gm
def O1:Gt bI.z X E (.v (.v (.seq (.v (.block (.loop ⟨[(2,.p 0 1),(3,.p 1 1),(5,.i)],[.s false .poly,.s false .poly]⟩ .u))) .u))) xY Tryz.f88 [(128,qh)]:=gm
def O4:Gt bI.z X E .u xZ Tryz.f83 [(88,xY)]:=gm
def O5:Gt bI.z X E (.v (.v (.seq (.v (.block (.loop ⟨[(1,.p 0 1),(3,.i)],[.s false .tab]⟩ (.v (.seq (.block (.v (.v (.block (.loop ⟨[(1,.p 0 1),(3,.i),(4,.i)],[.s false .tab]⟩ .u))))) .u))))) .u))) OD Tryz.f28 [(82,Bb),(83,xZ)]:=gm
def O6:Gt bI.z X E .u Ws Tryz.f30 [(84,mJ),(85,Ba)]:=gm
def O7:Gt ⟨[26],[]⟩ X E (.v (.v (.seq (.v (.block (.loop ⟨[(0,.r false .mono),(2,.p 0 1),(3,.p 1 1),(4,.i)],[.g [.nil],.g [.own 2],.rows true .mono]⟩ .u))) .u))) Bc Tryz.f58 []:=gm
def O8:Gt bI.z X E .u OE Tryz.f89 [(58,Bc)]:=gm
def O9:Gt ⟨[38],[]⟩ X E (.v (.v (.seq (.v (.block (.loop ⟨[(2,.p 1 1),(3,.p 2 4),(4,.p 3 1),(6,.i)],[.rows true .atom,.g [.own 0],.s false .atom,.g [.nil]]⟩ .u))) .u))) Wt Tryz.f51 [(82,Bb),(83,xZ),(89,OE)]:=gm
def Pb:Gt bI.z X E .u sV Tryz.f52 [(29,mI)]:=gm
def Pf:Gt bI.z X E (.v (.v (.seq (.v (.cut ⟨[(3,.i)],[]⟩ qq4)) .u))) sW Tryz.f158 []:=gm
def Ph:Gt bI.z X E (.v (.v (.v (.seq (.v (.block (.loop qq8 (.v (.seq (.block (.v (.seq (.v (.cut ⟨[(0,.r false .mono),(3,.p 0 2),(5,.o 1),(6,.b),(7,.i),(8,.i)],[.s false .mono,.rows false .mono]⟩ qq4)) (.v (.cut qq8 (.cond (.v (.v (.v (.cut qq8 qq4)))) .u)))))) .u))))) (.seq (.v (.cut ⟨[(5,.o 0)],qq5⟩ qq4)) .u))))) OH Tryz.f156 [(128,qh),(158,sW)]:=gm
def Pj:Gt bI.z X E (.v (.v (.seq (.v (.block (.loop ⟨[(0,.r false .mono),(2,.p 0 1),(4,.i)],[.g [.nil]]⟩ .u))) .u))) OI Tryz.f157 [(58,Bc)]:=gm
def Pk:Gt bI.z X E (.v (.v (.v (.seq (.v (.block (.loop ⟨[(3,.p 0 1),(4,.p 1 1),(6,.r false .mono),(7,.i)],[.s false .poly,.g [.nil]]⟩ .u))) .u)))) sZ Tryz.f129 [(84,mJ),(156,OH),(157,OI)]:=gm
end Go.TX.F
end
noncomputable section
namespace Go.TX.F
open Go Go.AE Go.TX Go.TX.Seat Go.Proofs
set_option maxRecDepth 100000
set_option maxHeartbeats 4000000
def Pm:Gt bI.z X E .u nJ Tryz.f151 []:=gm
def Pn:Gt bI.z X E (.v (.v (.v (.seq (.v (.block (.loop ag8 (.v (.seq (.block (.v (.v (.cut ag8 qq4)))) .u))))) .u)))) JD Tryz.f130 [(84,mJ),(158,sW),(58,Bc),(151,nJ)]:=gm
def Po:Gt bI.z X E (.v (.v (.v (.seq (.v (.block (.loop ahd (.v (.seq (.block (.seq (.block (.loop ahd .u)) .u)) .u))))) .u)))) Wu Tryz.f159 []:=gm
def Pp:Gt bI.z X E (.v (.v (.v (.seq (.v (.block (.loop ⟨[(2,.p 0 1),(3,.p 1 1),(4,.p 2 1),(6,.o 3),(7,.i)],[.s false .poly,.s false .poly,.g [.nil],.rows false .mono]⟩ (.v (.seq (.block (.v (.block (.loop qq9 (.v (.seq (.block (.v (.v (.cut qq9 qq4)))) .u)))))) .u))))) .u)))) sZ Tryz.f131 [(84,mJ),(158,sW),(156,OH),(159,Wu),(157,OI)]:=gm
def Pq:Gt bI.z X E .u JE Tryz.f86 [(131,sZ),(129,sZ),(130,JD)]:=gm
def Pv:Gt bI.z X E .u sV Tryz.f54 [(29,mI)]:=gm
def Pw:Gt bI.z X E .u JF Tryz.f113 [(84,mJ)]:=gm
def Px:Gt bI.z X E .u JG Tryz.f132 [(158,sW),(151,nJ)]:=gm
def Py:Gt bI.z X E .u Wv Tryz.f133 [(58,Bc)]:=gm
def Pz:Gt bI.z X E .u JE Tryz.f87 [(88,xY),(58,Bc),(132,JG),(54,sV),(113,JF),(133,Wv)]:=gm
def PD:Gt bI.z X E (.v (.v (.seq (.v (.cut ⟨[(1,.i),(4,.p 1 1),(6,.p 2 1),(7,.p 3 1),(8,.p 4 1),(9,.p 5 1),(10,.p 6 1),(11,.b)],[.rows true .atom,.g [.own 0],.s false .poly,.s false .poly,.g [.nil],.g [.nil],.g [.own 7],.rows true .mono]⟩ qq4)) (.v (.v (.seq (.v (.cut ⟨[(4,.p 1 1),(8,.p 2 1),(9,.p 3 1),(12,.p 4 4)],[.rows true .atom,.g [.own 0],.g [.nil],.g [.nil],.g [.i,.i,.rows false .mono,.rows false .mono]]⟩ qq4)) .u)))))) Ww Tryz.f31 [(52,sV),(88,xY),(86,JE),(87,JE),(51,Wt)]:=gm
def PE:Gt ⟨[20],[]⟩ X E (.v (.v (.seq (.v (.block (.loop ⟨[(1,.p 0 1),(2,.p 1 1),(3,.p 2 1),(4,.i)],[.s false .tab,.g [.nil],.g [.own 3],.rows true .atom]⟩ .u))) .u))) Wx Tryz.f32 [(89,OE)]:=gm
def PI:Gt bI.z X E .u aee Tryz.f7 [(29,mI),(28,OD),(30,Ws),(31,Ww),(32,Wx)]:=gm
def Xb:Gt bI.z X E .u mI Tryz.f94 []:=gm
def Xc:Gt bI.z X E .u nJ Tryz.f36 [(94,mI)]:=gm
def Xd:Gt bI.z X E .u acj Tryz.f100 []:=gm
def PK:Gt bI.z X E (.v (.seq (.v (.block (.loop ⟨[(0,.r false .i64),(1,.c (.fn 100 [(0,1)])),(7,.i),(8,.i)],[.box (.i)]⟩ .u))) .u)) Wy Tryz.f144 [(100,acj)]:=gm
def Xe:Gt bI.z X E .u acn Tryz.f99 [(144,Wy)]:=gm
def Xf:Gt bI.z X E (.v (.seq (.v (.block (.loop ⟨[(3,.p 0 1),(8,.r false .mono),(9,.i),(10,.i)],[.box (.i)]⟩ .u))) .u)) Ba Tryz.f38 [(99,acn)]:=gm
def aeh:Gt bI.z X E .u nJ Tryz.f160 []:=gm
def aei:Gt bI.z X E .u aaU Tryz.f139 [(160,nJ)]:=gm
def PN:Gt bI.z X E (.v (.seq (.v (.block (.loop ⟨[(0,.r false .i64),(3,.i)],[]⟩ .u))) .u)) Wz Tryz.f95 [(139,aaU)]:=gm
def aej:Gt bI.z X E (.v (.v (.seq (.v (.block (.loop ⟨[(3,.i),(6,.r false .i64),(7,.i),(8,.i)],[]⟩ .u))) .u))) aef Tryz.f140 []:=gm
def aek:Gt bI.z X E .u aaV Tryz.f141 [(160,nJ)]:=gm
def Xg:Gt bI.z X E (.v (.seq (.v (.block (.loop ⟨[(0,.r false .i64),(1,.r false .i64),(9,.r false .i64),(10,.i),(11,.i)],[]⟩ .u))) .u)) qh Tryz.f142 [(141,aaV)]:=gm
def Xh:Gt bI.z X E .u qh Tryz.f96 [(140,aef),(141,aaV),(142,qh)]:=gm
end Go.TX.F
end
noncomputable section
namespace Go.TX.F
open Go Go.AE Go.TX Go.TX.Seat Go.Proofs
set_option maxRecDepth 100000
set_option maxHeartbeats 4000000
def Xi:Gt bI.z X E .u JC Tryz.f98 []:=gm
def PO:Gt bI.z X E (.v (.seq (.v (.block (.loop ⟨[(0,.r false .mono),(1,.c (.fn 98 [])),(7,.i),(8,.i)],[]⟩ .u))) .u)) WA Tryz.f143 [(98,JC)]:=gm
def Xj:Gt bI.z X E .u aco Tryz.f97 [(143,WA)]:=gm
def Xk:Gt bI.z X E (.v (.seq (.v (.block (.loop ⟨[(1,.p 0 1),(6,.r false .mono),(7,.i),(8,.i)],[.s false .poly]⟩ .u))) .u)) mJ Tryz.f37 [(94,mI),(38,Ba),(95,Wz),(96,qh),(97,aco)]:=gm
def Xl:Gt bI.z X E .u nJ Tryz.f135 [(94,mI)]:=gm
def Xm:Gt bI.z X E .u Bb Tryz.f92 [(94,mI),(36,nJ),(38,Ba),(37,mJ),(135,nJ)]:=gm
def Xn:Gt bI.z X E (.v (.v (.seq (.v (.block (.loop ⟨[(3,.p 0 1),(20,.r false .mono),(21,.i),(22,.i)],[.s false .poly]⟩ .u))) .u))) xY Tryz.f102 [(140,aef),(141,aaV),(96,qh)]:=gm
def Xo:Gt bI.z X E .u L8 Tryz.f121 [(102,xY)]:=gm
def Xp:Gt bI.z X E .u xZ Tryz.f138 [(121,L8)]:=gm
def Xq:Gt bI.z X E .u acp Tryz.f137 [(138,xZ)]:=gm
def PU:Gt bI.z X E (.v (.seq (.v (.block (.loop ⟨[(0,.r false .atom),(1,.c (.fn 137 [(0,4)])),(7,.i),(8,.i)],[.s false .atom]⟩ .u))) .u)) WE Tryz.f136 [(137,acp)]:=gm
def Xr:Gt bI.z X E .u WG Tryz.f93 [(136,WE)]:=gm
def Xt:Gt bI.z X E (.v (.seq (.v (.block (.loop ⟨[(1,.p 0 1),(6,.r false .atom),(7,.i),(8,.i)],[.s false .tab]⟩ .u))) .u)) OD Tryz.f35 [(92,Bb),(93,WG)]:=gm
def Xu:Gt bI.z X E .u sV Tryz.f68 [(94,mI)]:=gm
def Xv:Gt bI.z X E .u JF Tryz.f120 [(37,mJ)]:=gm
def Xw:Gt bI.z X E .u aci Tryz.f105 []:=gm
def Xx:Gt bI.z X E .u sW Tryz.f165 []:=gm
def Xy:Gt bI.z X E .u WH Tryz.f169 [(96,qh)]:=gm
def PW:Gt bI.z X E (.v (.block (.loop ⟨[(0,.o 0),(1,.i),(2,.i),(3,.c (.fn 169 [])),(8,.i)],qq5⟩ (.v (.seq (.block (.v (.block (.loop ⟨[(0,.o 0),(1,.i),(2,.i),(3,.c (.fn 169 [])),(8,.i),(9,.i)],qq5⟩ .u)))) .u))))) WI Tryz.f185 [(169,WH)]:=gm
def PX:Gt bI.z X E (.v (.block (.loop ⟨[(0,.o 0),(1,.i),(2,.i),(3,.i),(10,.i)],qq5⟩ .u))) x9 Tryz.f194 []:=gm
def PY:Gt bI.z X E (.v (.v (.seq (.block (.loop ahf (.v (.block (.v (.cut ahf qq4)))))) .u))) x9 Tryz.f192 [(194,x9)]:=gm
def EM:Gt bI.z X E (.seq (.v (.cond (.v (.v (.seq (.block (.loop ahg (.v (.block (.v (.v (.cut ahg qq4))))))) (.seq (.v (.block (.loop ⟨[(0,.o 0),(10,.i),(13,.i)],qq5⟩ .u))) .u)))) .u)) (.seq (.v (.cond (.v (.v (.seq (.block (.loop ahe (.v (.block (.v (.v (.cut ahe qq4))))))) (.seq (.v (.block (.loop ⟨[(0,.o 0),(14,.i),(17,.i)],qq5⟩ .u))) .u)))) .u)) (.v (.v (.v (.seq (.v (.cut ⟨[(0,.o 0),(1,.i),(2,.i),(3,.i),(4,.c (.fn 169 [])),(18,.i),(19,.i),(20,.i),(21,.i)],qq5⟩ qq4)) (.v (.seq (.block (.loop ag6 (.v (.block (.v (.v (.cut ag6 qq4))))))) (.v (.seq (.v (.cut ⟨[(0,.o 0),(1,.i),(3,.i),(4,.c (.fn 169 [])),(18,.i),(20,.i),(24,.i)],qq5⟩ qq4)) (.seq (.v (.cut ⟨[(0,.o 0),(3,.i),(4,.c (.fn 169 [])),(18,.i),(24,.i)],qq5⟩ qq4)) (.v (.cut ⟨[],qq5⟩ qq4))))))))))))) x9 Tryz.f186 [(169,WH),(192,x9),(186,x9)]:=gm
end Go.TX.F
end
noncomputable section
namespace Go.TX.F
open Go Go.AE Go.TX Go.TX.Seat Go.Proofs
set_option maxRecDepth 100000
set_option maxHeartbeats 4000000
def PZ:Gt bI.z X E (.v (.v (.seq aha (.v (.block (.loop ahh (.v (.block (.v (.seq aha (.seq (.v (.v (.cut ahh qq4))) .u))))))))))) WJ Tryz.f174 [(185,WI),(186,x9)]:=gm
def P5:Gt bI.z X E .u WK Tryz.f168 [(174,WJ)]:=gm
def Xz:Gt ⟨[51],[]⟩ X E (.v (.v (.v (.seq (.v (.block (.loop ag7 (.v (.block (.v (.seq (.block (.loop ⟨[(0,.o 0),(2,.p 1 1),(4,.p 2 1),(5,.i),(6,.i),(7,.p 3 2)],[.rows false .mono,.g [.nil],.g [.own 4],.s false .mono,.rows true .mono]⟩ .u)) (.v (.cut ag7 qq4))))))))) .u)))) WL Tryz.f161 [(96,qh),(37,mJ),(165,sW),(105,aci),(168,WK)]:=gm
def P6:Gt bI.z X E (.v (.v (.seq (.v (.v (.cut ⟨[(0,.o 0)],[.rows true .mono]⟩ qq4))) .u))) WM Tryz.f170 []:=gm
def XA:Gt bI.z X E (.v (.v (.seq (.v (.block (.loop ⟨[(0,.r false .poly),(3,.i),(9,.r false .poly),(10,.i),(11,.i)],[]⟩ .u))) (.v (.seq (.v (.block (.loop ⟨[(6,.o 0),(25,.r false .poly),(26,.i),(27,.i)],qq5⟩ .u))) .u))))) acr Tryz.f162 [(170,WM)]:=gm
def XC:Gt bI.z X E .u sZ Tryz.f145 [(37,mJ),(161,WL),(162,acr)]:=gm
def P7:Gt bI.z X E (.v (.v (.seq (.v (.v (.cut ⟨[(0,.o 0)],[.e]⟩ qq4))) .u))) WO Tryz.f171 []:=gm
def XD:Gt bI.z X E (.v (.v (.seq (.v (.block (.loop ⟨[(0,.r false .ints),(3,.i),(9,.r false .ints),(10,.i),(11,.i)],[]⟩ .u))) (.v (.seq (.v (.block (.loop ⟨[(6,.o 0),(25,.r false .ints),(26,.i),(27,.i)],[.e]⟩ .u))) .u))))) acs Tryz.f163 [(171,WO)]:=gm
def P8:Gt bI.z X E (.v (.block (.loop ⟨[(0,.o 0),(1,.i),(2,.i),(6,.i)],[.e]⟩ (.v (.seq (.block (.v (.block (.loop ⟨[(0,.o 0),(1,.i),(2,.i),(6,.i),(7,.i)],[.e]⟩ .u)))) .u))))) EK Tryz.f175 [(139,aaU)]:=gm
def P9:Gt bI.z X E (.v (.v (.block (.loop aeg (.cut aeg (.block (.v (.v (.v (.seq (.v (.cut ⟨[(0,.o 0),(1,.i),(2,.i),(3,.i),(8,.b),(9,.b),(10,.i)],[.e]⟩ qq4)) (.v (.seq (.v (.cut ⟨[(0,.o 0),(1,.i),(2,.i),(3,.i),(8,.b),(9,.b),(10,.i),(11,.i),(12,.i)],[.e]⟩ qq4)) (.seq (.v (.cut ⟨[(0,.o 0),(1,.i),(2,.i),(3,.i),(8,.b),(9,.b),(10,.i),(11,.i)],[.e]⟩ qq4)) (.v (.v (.v (.v (.v (.v (.cut aeg qq4)))))))))))))))))))) EL Tryz.f172 [(139,aaU),(175,EK),(176,EK),(177,EK),(178,OM),(179,EK),(180,OO),(181,OP),(182,OQ),(172,EL)]:=gm
def Qa:Gt bI.z X E .u WT Tryz.f164 [(172,EL),(173,acu)]:=gm
def XE:Gt bI.z X E (.v (.v (.v (.seq (.v (.block (.loop ⟨[(3,.p 0 1),(4,.p 1 1),(6,.o 2),(22,.r false .mono),(23,.i),(24,.i)],[.s false .poly,.g [.nil],.rows true .mono]⟩ (.v (.v (.seq (.block (.v (.v (.block (.loop ⟨[(3,.p 0 1),(4,.p 1 1),(6,.o 2),(8,.p 3 2),(22,.r false .mono),(23,.i),(24,.i),(29,.r false .mono),(30,.i),(31,.i)],[.s false .poly,.g [.nil],.rows true .mono,.s false .mono]⟩ .u))))) .u)))))) .u)))) sZ Tryz.f147 [(37,mJ),(165,sW),(161,WL),(163,acs),(164,WT)]:=gm
def XF:Gt bI.z X E .u nJ Tryz.f153 [(94,mI)]:=gm
def XG:Gt bI.z X E .u JD Tryz.f146 [(37,mJ),(68,sV),(153,nJ),(147,sZ)]:=gm
def XH:Gt bI.z X E .u JG Tryz.f148 [(153,nJ),(165,sW)]:=gm
def XI:Gt bI.z X E (.v (.v (.v (.v (.v (.seq (.v (.cut ⟨[(0,.i),(4,.p 0 1),(6,.p 1 1),(10,.i),(11,.b)],[.s true .poly,.g [.nil]]⟩ qq4)) .u)))))) acv Tryz.f101 [(121,L8),(68,sV),(148,JG),(145,sZ),(147,sZ),(146,JD),(120,JF)]:=gm
end Go.TX.F
end
noncomputable section
namespace Go.TX.F
open Go Go.AE Go.TX Go.TX.Seat Go.Proofs
set_option maxRecDepth 100000
set_option maxHeartbeats 4000000
def XJ:Gt bI.z X E .u acw Tryz.f149 []:=gm
def XK:Gt bI.z X E .u acy Tryz.f103 [(92,Bb),(93,WG),(149,acw)]:=gm
def XL:Gt bI.z X E .u sV Tryz.f104 [(94,mI)]:=gm
def XM:Gt bI.z X E (.v (.v (.seq (.v (.cut ⟨[(1,.i),(4,.p 0 1),(6,.p 1 1),(7,.p 2 1),(8,.p 3 1),(9,.p 4 1)],[.s true .tab,.s true .poly,.s true .poly,.g [.nil],.g [.nil]]⟩ qq4)) .u))) ag4 Tryz.f39 [(102,xY),(101,acv),(103,acy),(104,sV)]:=gm
def XO:Gt bI.z X E ag9 acz Tryz.f150 []:=gm
def XP:Gt bI.z X E .u acA Tryz.f107 [(150,acz)]:=gm
def XQ:Gt bI.z X E (.v (.v (.seq (.v (.block (.loop ⟨[(0,.r false .mono),(1,.r false .mono),(5,.i)],[]⟩ .u))) .u))) acB Tryz.f43 [(107,acA)]:=gm
def XR:Gt bI.z X E .u L8 Tryz.f12 [(43,acB)]:=gm
def XU:Gt bI.z X E .u xZ Tryz.f106 [(12,L8)]:=gm
def XV:Gt bI.z X E (.v (.v (.seq (.v (.block (.loop ⟨[(0,.r false .atom),(1,.r false .atom),(5,.i)],[]⟩ .u))) .u))) acC Tryz.f42 [(106,xZ)]:=gm
def XW:Gt bI.z X E .u ag5 Tryz.f11 [(42,acC)]:=gm
def XY:Gt bI.z X E (.v (.seq (.v (.block (.loop ⟨[(0,.r false .i64),(1,.i),(5,.i)],[]⟩ .u))) .u)) RH Tryz.f109 []:=gm
def XZ:Gt bI.z X E ahb L6 Tryz.f47 [(109,RH)]:=gm
def X0:Gt bI.z X E ahc RL Tryz.f46 [(47,L6)]:=gm
def X3:Gt bI.z X E .u ach Tryz.f15 [(46,RL)]:=gm
def X4:Gt bI.z X E .u Wp Tryz.f16 [(47,L6)]:=gm
end Go.TX.F
end
noncomputable section
namespace Go.TX.F
open Go Go.AE Go.TX Go.TX.Seat Go.Proofs
set_option maxRecDepth 100000
set_option maxHeartbeats 4000000
end Go.TX.F
end
noncomputable section
namespace Go.TX.F
open Go Go.AE Go.TX Go.TX.Seat Go.Proofs
set_option maxRecDepth 100000
set_option maxHeartbeats 4000000
end Go.TX.F
end
noncomputable section
namespace Go.TX.F
open Go Go.AE Go.TX Go.TX.Seat Go.Proofs
set_option maxRecDepth 100000
set_option maxHeartbeats 4000000
end Go.TX.F
end

namespace Go.TX
open Go Go.AE
theorem ael(x y:Int):cB .lss x y=decide (x<y):=rfl
theorem aem(x y:Int):cB .leq x y=decide (x<=y):=rfl
theorem aen(x y:Int):cB .gtr x y=decide (y<x):=rfl
theorem aeo(x y:Int):cB .geq x y=decide (y<=x):=rfl
theorem aep(x y:Int):cB .eql x y=decide (x=y):=rfl
theorem aer(x y:Int):cB .neq x y= !decide (x=y):=rfl
theorem aes(k:IntKind)(x y:Int):lC .add k x y=k.wrap (x+y):=rfl
theorem aeu(k:IntKind)(x y:Int):lC .sub k x y=k.wrap (x-y):=rfl
theorem aev(k:IntKind)(x y:Int):lC .mul k x y=k.wrap (x*y):=rfl
theorem aew(k:IntKind)(x y:Int):lC .quo k x y=k.wrap (x.tdiv y):=rfl
theorem X5(k:IntKind)(x y:Int):lC .rem k x y=x.tmod y:=rfl
theorem w64{x:Int}(h1: -9223372036854775808<=x)(h2:x<=9223372036854775807):IntKind.i64.wrap x=x:=IntWalk.i64_in _ ah
theorem aaW(m:aA):D8 .mono 0 m=m.bU:=rfl
theorem aaX(m:aA):Aq .mono 1 .i64 m=m.atoms:=rfl
theorem aex(p:List aA):Aq .poly 0 .mono p=p:=rfl
theorem ahi(p:List Atom):Aq .tab 0 .atom p=p:=rfl
theorem aey(p:List Int):Aq .ints 0 .i64 p=p:=rfl
theorem aaY(m:Atom):D8 .atom 0 m=m.kind:=rfl
theorem aaZ(m:Atom):D8 .atom 1 m=m.k:=rfl
theorem aa0(m:Atom):Aq .atom 2 .mono m=m.x:=rfl
theorem aa1(m:Atom):Aq .atom 3 .mono m=m.y:=rfl
theorem ahj(n:Int):D8 .i64 0 n=n:=rfl
theorem ajF(n:Int):D8 .u8 0 n=n:=rfl
theorem aa2(x):Co.mk .mono x=⟨x.1,x.2.1⟩:=rfl
theorem aa3(x):Co.mk .poly x=x.1:=rfl
theorem aez(x):Co.mk .tab x=x.1:=rfl
theorem aa4(x):Co.mk .ints x=x.1:=rfl
theorem aeA(x):Co.mk .i64 x=x.1:=rfl
theorem aa5(x):Co.mk .atom x=⟨x.1,x.2.1,x.2.2.1,x.2.2.2.1⟩:=rfl
def aQ{α ρ:Type}{f:α->(α ⊕ ρ->Prop)->Prop}{x:α}{Q:ρ->Prop}(I:α->Prop)(μ:α->Nat)(h0:I x)(hs:∀y,I y->f y (Cy (λz _=>I z/\μ z<μ y) Q)):Q0 f x Q:=⟨I,μ,h0,hs⟩
theorem X6{α ρ:Type}(k:α->(ρ->Prop)->Prop)(Q:ρ->Prop)(x:α):Cy k Q (.inl x)=k x Q:=rfl
theorem X7{α ρ:Type}(k:α->(ρ->Prop)->Prop)(Q:ρ->Prop)(r:ρ):Cy k Q (.inr r)=Q r:=rfl
def getD_lt{α:Type}{xs:List α}{d:α}{i:Nat}(h:i<xs.length):xs.getD i d=xs[i]:=by simp [List.getD,h]
def fH{α:Type}{xs:List α}{d:α}{i:Int}(h0:0<=i)(h:i<xs.length):xs.getD i.toNat d∈xs:=by
 rw [getD_lt ah];exact List.getElem_mem _
def RR:(∀(x y:Int),cB BinOp.lss x y=decide (x<y))/\(∀(x y:Int),cB BinOp.leq x y=decide (x<=y))/\(∀(x y:Int),cB BinOp.gtr x y=decide (y<x))/\(∀(x y:Int),cB BinOp.geq x y=decide (y<=x))/\(∀(x y:Int),cB BinOp.eql x y=decide (x=y))/\(∀(x y:Int),cB BinOp.neq x y= !decide (x=y))/\(∀(k:IntKind) (x y:Int),lC BinOp.add k x y=k.wrap (x+y))/\(∀(k:IntKind) (x y:Int),lC BinOp.sub k x y=k.wrap (x-y))/\(∀(k:IntKind) (x y:Int),lC BinOp.mul k x y=k.wrap (x*y))/\(∀(k:IntKind) (x y:Int),lC BinOp.quo k x y=k.wrap (x.tdiv y))/\(∀(k:IntKind) (x y:Int),lC BinOp.rem k x y=x.tmod y)/\(∀ {x:Int}, -9223372036854775808<=x->x<=9223372036854775807->IntKind.i64.wrap x=x)/\(∀(m:aA),D8 Co.mono 0 m=m.bU)/\(∀(m:aA),Aq Co.mono 1 Co.i64 m=m.atoms)/\(∀(p:List aA),Aq Co.poly 0 Co.mono p=p)/\(∀(p:List Atom),Aq Co.tab 0 Co.atom p=p)/\(∀(p:List Int),Aq Co.ints 0 Co.i64 p=p)/\(∀(m:Atom),D8 Co.atom 0 m=m.kind)/\(∀(m:Atom),D8 Co.atom 1 m=m.k)/\(∀(m:Atom),Aq Co.atom 2 Co.mono m=m.x)/\(∀(m:Atom),Aq Co.atom 3 Co.mono m=m.y)/\(∀(n:Int),D8 Co.i64 0 n=n)/\(∀(n:Int),D8 Co.u8 0 n=n)/\(∀(x:jf Co.mono.rF),Co.mono.mk x=aA.mk x.fst x.snd.fst)/\(∀(x:jf Co.poly.rF),Co.poly.mk x=x.fst)/\(∀(x:jf Co.tab.rF),Co.tab.mk x=x.fst)/\(∀(x:jf Co.ints.rF),Co.ints.mk x=x.fst)/\(∀(x:jf Co.i64.rF),Co.i64.mk x=x.fst)/\(∀(x:jf Co.atom.rF),Co.atom.mk x=Atom.mk x.fst x.snd.fst x.snd.snd.fst x.snd.snd.snd.fst)/\(∀ {α ρ:Type} (k:α->(ρ->Prop)->Prop) (Q:ρ->Prop) (x:α),Cy k Q (Sum.inl x)=k x Q)/\(∀ {α ρ:Type} (k:α->(ρ->Prop)->Prop) (Q:ρ->Prop) (r:ρ),Cy k Q (Sum.inr r)=Q r)/\(∀(c f:Bool),(bif c then true else f)=(c || f))/\(∀(c t:Bool),(bif c then t else false)=(c&&t))/\(∀(c f:Bool),(bif c then false else f)=(!c&&f))/\(∀(c t:Bool),(bif c then t else true)=(!c || t))/\(∀(a b:Bool),((a || b)=true)=(a=true\/b=true))/\(∀ {x y:Bool},(x || y)=false↔x=false/\y=false)/\(∀(a b:Bool),((a&&b)=true)=(a=true/\b=true))/\(∀ {p:Prop} [inst:Decidable p],(decide p=true)=p)/\(∀ {p:Prop} {x:Decidable p},decide p=false↔¬p)/\(∀(b:Bool),((!b)=true)=(b=false))/\(∀(b:Bool),((!b)=false)=(b=true))/\(∀(b:Bool),(!!b)=b)/\(∀(p:Prop),(True/\p)=p)/\(∀(p:Prop),(p/\True)=p)/\(∀ {α:Type} [inst:LE α] {x y:α},x>=y↔y<=x)/\(¬True)=False/\(¬False)=True/\(false=true)=False/\(true=false)=False/\(∀(p:Prop),(False->p)=True)/\(∀(p:Prop),(True->p)=p)/\(∀(α:Prop),(α->True)=True)/\(∀(α:Type),(∀(a:α),True)=True)/\(∀(p:Prop),(False\/p)=p)/\(∀(p:Prop),(p\/False)=p)/\(∀(p:Prop),(True\/p)=True)/\(∀(p:Prop),(p\/True)=True)/\(∀ {α:Type} {x:Decidable True} (t e:α),(if True then t else e)=t)/\∀ {α:Type} {x:Decidable False} (t e:α),(if False then t else e)=e:=And.intro (@ael)<| And.intro (@aem)<| And.intro (@aen)<| And.intro (@aeo)<| And.intro (@aep)<| And.intro (@aer)<| And.intro (@aes)<| And.intro (@aeu)<| And.intro (@aev)<| And.intro (@aew)<| And.intro (@X5)<| And.intro (@w64)<| And.intro (@aaW)<| And.intro (@aaX)<| And.intro (@aex)<| And.intro (@ahi)<| And.intro (@aey)<| And.intro (@aaY)<| And.intro (@aaZ)<| And.intro (@aa0)<| And.intro (@aa1)<| And.intro (@ahj)<| And.intro (@ajF)<| And.intro (@aa2)<| And.intro (@aa3)<| And.intro (@aez)<| And.intro (@aa4)<| And.intro (@aeA)<| And.intro (@aa5)<| And.intro (@X6)<| And.intro (@X7)<| And.intro (@Bool.cond_true_left)<| And.intro (@Bool.cond_false_right)<| And.intro (@Bool.cond_false_left)<| And.intro (@Bool.cond_true_right)<| And.intro (@Bool.or_eq_true)<| And.intro (@Bool.or_eq_false_iff)<| And.intro (@Bool.and_eq_true)<| And.intro (@decide_eq_true_eq)<| And.intro (@decide_eq_false_iff_not)<| And.intro (@Bool.not_eq_true')<| And.intro (@Bool.not_eq_false')<| And.intro (@Bool.not_not)<| And.intro (@true_and)<| And.intro (@and_true)<| And.intro (@ge_iff_le.{0})<| And.intro (@not_true_eq_false)<| And.intro (@not_false_eq_true)<| And.intro (@Bool.false_eq_true)<| And.intro (@Bool.true_eq_false)<| And.intro (@false_implies)<| And.intro (@true_implies)<| And.intro (@implies_true.{0})<| And.intro (@implies_true.{1})<| And.intro (@false_or)<| And.intro (@or_false)<| And.intro (@true_or)<| And.intro (@or_true)<| And.intro (@if_true.{1})<| @if_false.{1}
end Go.TX
namespace Go.TX.F
open Go Go.AE Go.TX
def inB(a lo hi:Int):Bool:=decide (lo<=a)&&decide (a<=hi)
def ahk(a b c:Int):Xb.F () (a,b,c,()) (λy=>y=(inB a b c,())):=by
 dsimp only [Xb,gm];simp (disch:=omega) only [RR];rfl
abbrev Y1(pp:Int×Int×Int×Unit->Bool)(ff:Int×Int×Int×Unit->Bool×Unit):Prop:=∀a b c,pp (a,b,c,())=true/\ff (a,b,c,())=(inB a b c,())
def ahl{p f}(U:Y1 p f)(a:Int):XF.F (p,f,()) (a,()) (λy=>y=(inB a 0 65535,())):=by
 dsimp only [XF,gm];simp (disch:=omega) only [RR,U]
def ahm{p f}(U:Y1 p f)(a:Int):Xc.F (p,f,()) (a,()) (λy=>y=(inB a 1 5,())):=by
 dsimp only [Xc,gm];simp (disch:=omega) only [RR,U]
def ahn{p f}(U:Y1 p f)(a:Int):Xl.F (p,f,()) (a,()) (λy=>y=(inB a 0 3,())):=by
 dsimp only [Xl,gm];simp (disch:=omega) only [RR,U]
def ajG(a:Int):aeh.F () (a,()) (λy=>y=(false,())):=by
 dsimp only [aeh,gm];simp (disch:=omega) only [RR];simp
def iW(a b:Int):Int:=if a<b then-1 else if b<a then 1 else 0
abbrev Y2(pp:Int×Unit->Bool)(ff:Int×Unit->Bool×Unit):Prop:=∀a,pp (a,())=true/\ff (a,())=(false,())
def ajH{p f}(U:Y2 p f)(a b:Int):aek.F (p,f,()) (a,b,()) (λy=>y=(iW a b,())):=by
 dsimp only [aek,gm];simp (disch:=omega) only [RR,U];unfold iW;refine⟨λh=>by simp [h],λh=>⟨λh2=>by simp [h,h2],λh2=>by simp [h,h2]⟩⟩
def ajI{p f}(U:Y2 p f)(a b:Int):aei.F (p,f,()) (a,b,()) (λy=>y=(decide (a<b),())):=by
 dsimp only [aei,gm];simp (disch:=omega) only [RR,U];simp
def or2(a b:Int):Int:=if a≠0 then a else b
def ajJ(a b:Int):aej.F () ([a,b],()) (λy=>y=(or2 a b,())):=by
 dsimp only [aej,gm];refine aQ (λ(y:Int×List Int×Int×Int×Unit)=>y.1=0/\y.2.1=[a,b]/\y.2.2.1=2/\0<=y.2.2.2.1/\y.2.2.2.1<=2/\(0<y.2.2.2.1->a=0)/\(1<y.2.2.2.1->b=0)) (λy=>(2-y.2.2.2.1).toNat) ⟨rfl,rfl,rfl,by simp,by simp,λh=>absurd h (by simp),λh=>absurd h (by simp)⟩ ?_;rintro⟨(z:Int),(l:List Int),(n:Int),(i:Int),⟨⟩⟩ hI;dsimp only at hI ⊢;obtain⟨rfl,rfl,rfl,h1,h2,h3,h4⟩:=hI;simp (disch:=omega) only [RR];have hi:i=0\/i=1\/i=2:=by omega
 rcases hi with rfl | rfl | rfl
 .by_cases ha:a=0<;>simp [or2,ha]<;>(try omega)
 .have:=h3 ah;by_cases hb:b=0<;>simp [or2,this,hb]<;>(try omega)
 .have:=h3 ah;have:=h4 ah;simp [or2, *]
def mK:List Int->List Int->Int
 | [],[]=>0
 | [],_::_=> -1
 | _::_,[]=>1
 | a::az,b::bs=>if iW a b≠0 then iW a b else mK az bs
def Bd(a b:List Int)(i:Nat):(h1:i<a.length)->(h2:i<b.length)->mK (a.drop i) (b.drop i)=if iW a[i] b[i]≠0 then iW a[i] b[i]else mK (a.drop (i+1)) (b.drop (i+1)):=by
 intro h1 h2;rw [List.drop_eq_getElem_cons h1,List.drop_eq_getElem_cons h2];rfl
def X8(l:List Int)(h:l≠ []):mK l []=1:=by cases l<;>simp_all [mK]
abbrev Y3(pp:Int×Int×Unit->Bool)(ff:Int×Int×Unit->Int×Unit):Prop:=∀a b,pp (a,b,())=true/\ff (a,b,())=(iW a b,())
def aho{p f}(U:Y3 p f)(a b:List Int)(ha:a.length<1000000000):
  Xg.F (p,f,()) (a,b,()) (λy=>y=(mK a b,())):=by
 dsimp only [Xg,gm]
 refine aQ (λ(y:List Int×List Int×List Int×Int×Int×Unit)=>y.1=a/\y.2.1=b/\y.2.2.1=a/\y.2.2.2.1=a.length/\0<=y.2.2.2.2.1/\y.2.2.2.2.1<=a.length/\y.2.2.2.2.1<=b.length/\mK a b=mK (a.drop y.2.2.2.2.1.toNat) (b.drop y.2.2.2.2.1.toNat))
  (λy=>(a.length-y.2.2.2.2.1).toNat) ⟨rfl,rfl,rfl,rfl,by simp,by simp,by simp,by simp⟩ ?_
 rintro⟨(l1:List Int),(l2:List Int),(l3:List Int),(n:Int),(i:Int),⟨⟩⟩ hI;dsimp only at hI ⊢;obtain⟨rfl,rfl,rfl,rfl,h1,h2,h3,h4⟩:=hI;simp (disch:=omega) only [RR,U];refine⟨λhi=>⟨h1,hi,λhj=> ?_,λhj=>⟨h1,ah,λhc=> ?_,λhc=> ?_⟩⟩,λhi=>⟨λhj=> ?_,λhj=> ?_⟩⟩
 .rw [h4,List.drop_eq_nil_of_le (show l2.length<=i.toNat by omega),X8 _ (by simp;omega)]
 .rw [h4,Bd l3 l2 i.toNat ah ah];rw [getD_lt ah,getD_lt ah]at hc;rw [getD_lt ah,getD_lt ah,if_pos hc]
 .rw [getD_lt ah,getD_lt ah]at hc;refine⟨⟨ah,ah,ah,?_⟩,ah⟩;rw [h4,Bd l3 l2 i.toNat ah ah,if_neg (by simpa using hc),show(i+1).toNat=i.toNat+1 by omega]
 .rw [h4,List.drop_eq_nil_of_le (show l3.length<=i.toNat by omega)];have:∃q r,l2.drop i.toNat=q::r:=by
   cases hq:l2.drop i.toNat with
   | nil=>have:=congrArg List.length hq;simp at this;omega
   | cons q r=>exact⟨q,r,rfl⟩
  obtain⟨q,r,hq⟩:=this;rw [hq];rfl
 .rw [h4,List.drop_eq_nil_of_le (show l3.length<=i.toNat by omega),List.drop_eq_nil_of_le (show l2.length<=i.toNat by omega)];rfl
def dX(a b:List Int):Int:=or2 (iW a.length b.length) (mK a b)
abbrev Y4(pp:List Int×Unit->Bool)(ff:List Int×Unit->Int×Unit):Prop:=∀a b,pp ([a,b],())=true/\ff ([a,b],())=(or2 a b,())
def ahp{p1 f1 p3 f3}{p2:List Int×List Int×Unit->Bool}{f2:List Int×List Int×Unit->Int×Unit}(U1:Y3 p1 f1)(U2:∀a b,a.length<1000000000->p2 (a,b,())=true/\f2 (a,b,())=(mK a b,()))(U3:Y4 p3 f3)(a b:List Int)(ha:a.length<1000000000):
  Xh.F (p3,f3,p1,f1,p2,f2,()) (a,b,()) (λy=>y=(dX a b,())):=by
 dsimp only [Xh,gm];simp (disch:=omega) only [RR,U1,U2 a b ha,U3];rfl
noncomputable def bp (P:Prop):Bool:= @decide P (Classical.propDecidable P)
theorem dO{P:Prop}(h:P):bp P=true:=by simp [bp,h]
theorem iN{P:Prop}(h:¬P):bp P=false:=by simp [bp,h]
theorem dh{P:Prop}:bp P=true↔P:=by simp [bp]
def lT{P:Prop}:bp P=false↔¬P:=by simp [bp]
def Bf{P Q:Prop}:bp (P/\Q)=(bp P&&bp Q):=by by_cases h1:P<;>by_cases h2:Q<;>simp [bp,h1,h2]
def X9{P Q:Prop}(h:P↔Q):bp P=bp Q:=by simp [bp,h]
def All(n:Int)(G:Int->Prop):Prop:=∀j,0<=j->j<n->G j
def All.zero{G:Int->Prop}:All 0 G:=λj h1 h2=>absurd h2 ah
def All.snoc{n:Int}{G:Int->Prop}(h:All n G)(hi:G n):All (n+1) G:=λj h1 h2=>by
 by_cases hj:j=n
 .exact hj▸hi
 .exact h j h1 ah
def All.le{n m:Int}{G:Int->Prop}(h:All n G)(hi:m<=n):All m G:=λj h1 h2=>h j h1 ah
def Idx(n:Int)(G:Int->Prop)(r:Int):Prop:=(r= -1/\All n (λj=>¬G j))\/(0<=r/\r<n/\G r/\All r (λj=>¬G j))
def Idx.ge{n:Int}{G:Int->Prop}{r:Int}(h:Idx n G r):(0<=r)↔¬All n (λj=>¬G j):=by
 rcases h with⟨rfl,h⟩ | ⟨h1,h2,h3,h4⟩
 .simp [h]
 .simp only [h1,true_iff];exact λh=>h r h1 h2 h3
def Srt(l:List Int):Prop:=All (l.length-1) (λi=>l.getD i.toNat default<=l.getD (i+1).toNat default)
abbrev Y5(pp:Int×Int×Unit->Bool)(ff:Int×Int×Unit->Bool×Unit):Prop:=∀a b,pp (a,b,())=true/\ff (a,b,())=(decide (a<b),())
def aeB{p f}(U:Y5 p f)(a:List Int)(ha:a.length<1000000000):
  PN.F (p,f,()) (a,()) (λy=>y=(bp (Srt a),())):=by
 dsimp only [PN,gm];simp (disch:=omega) only [RR,U];refine aQ (λ(y:List Int×Int×Unit)=>y.1=a/\ -1<=y.2.1/\y.2.1<=a.length-1/\∀j,y.2.1<=j->0<=j->j< (a.length:Int)-1->a.getD j.toNat default<=a.getD (j+1).toNat default) (λy=>(y.2.1+1).toNat) ⟨rfl,by simp;omega,by simp,by simp;omega⟩ ?_;rintro⟨(l:List Int),(i:Int),⟨⟩⟩ hI;dsimp only at hI ⊢;obtain⟨rfl,h1,h2,h3⟩:=hI;simp (disch:=omega) only [RR,U];refine⟨λh4=>⟨ah,ah,ah,ah,λh5=> ?_,λh5=>⟨⟨ah,ah,λj h6 h7 h8=> ?_⟩,ah⟩⟩,λh4=> ?_⟩
 .rw [iN];intro h;have:=h (i-1) ah ah;dsimp only at this;rw [show i-1+1=i by omega]at this;omega
 .by_cases hj:j=i-1
  .subst hj;rw [show i-1+1=i by omega];omega
  .exact h3 j ah h7 h8
 .rw [dO];exact λj h6 h7=>h3 j ah h6 h7
def ahq(a n:Int):Xd.F () (a,n,()) (λy=>y=(decide (n<=a),n,())):=by
 dsimp only [Xd,gm];simp (disch:=omega) only [RR]
def aeC{p:Int×Int×Unit->Bool}{f:Int×Int×Unit->Bool×Int×Unit}(U:∀a b,p (a,b,())=true/\f (a,b,())=(decide (b<=a),b,()))(a:List Int)(n:Int)(ha:a.length<1000000000):
  PK.F (p,f,()) (a,n,()) (λy=>Idx a.length (λi=>n<=a.getD i.toNat default) y.1/\y.2.1=n):=by
 dsimp only [PK,gm];refine aQ (λ(y:List Int×Int×Int×Int×Unit)=>y.1=a/\y.2.1=a.length/\y.2.2.2.1=n/\0<=y.2.2.1/\y.2.2.1<=a.length/\All y.2.2.1 (λi=>¬n<=a.getD i.toNat default)) (λy=>(a.length-y.2.2.1).toNat) ⟨rfl,rfl,rfl,by simp,by simp,All.zero⟩ ?_;rintro⟨(l:List Int),(m:Int),(i:Int),(n':Int),⟨⟩⟩ hI;dsimp only at hI ⊢;obtain⟨rfl,rfl,rfl,h1,h2,h3⟩:=hI;simp (disch:=omega) only [RR,U];refine⟨λh4=>⟨ah,ah,λh5=> ?_,λh5=>⟨⟨ah,ah,h3.snoc h5⟩,ah⟩⟩,λh4=> ?_⟩
 .exact Or.inr ⟨ah,ah,h5,h3⟩
 .exact Or.inl ⟨rfl,h3.le ah⟩
def ahr{p:List Int×Int×Unit->Bool}{f:List Int×Int×Unit->Int×Int×Unit}(hp:∀a b,a.length<1000000000->p (a,b,())=true)
  (hf:∀a n,a.length<1000000000->Idx a.length (λi=>n<=a.getD i.toNat default) (f (a,n,())).1/\(f (a,n,())).2.1=n) (a:List Int) (n:Int) (ha:a.length<1000000000):
  Xe.F (p,f,()) (a,n,()) (λy=>y=(bp (¬All a.length (λi=>¬n<=a.getD i.toNat default)),n,())):=by
 obtain⟨h1,h2⟩:=hf a n ha;dsimp only [Xe,gm];simp (disch:=omega) only [RR,hp a n ha,h2];rw [show decide ((0:Int)<=(f (a,n,())).1)=bp (¬All a.length (λi=>¬n<=a.getD i.toNat default))from ?_];rw [<-X9 h1.ge];simp [bp]
def JH(n:Int)(m:aA):Prop:=All m.atoms.length (λi=>¬n<=m.atoms.getD i.toNat default)
def bH(p:List aA)(n:Int):Prop:=All p.length (λi=>JH n (p.getD i.toNat default))
def Sh(p:List aA):Prop:=p.length<1000000000/\∀m∈p,m.atoms.length<1000000000
def Sh.at{p:List aA}(h:Sh p)(n:Nat):(p.getD n default).atoms.length<1000000000:=by
 by_cases h1:n<p.length
 .rw [getD_lt h1];exact h.2 _ (List.getElem_mem _)
 .simp only [List.getD,List.getElem?_eq_none (by omega:p.length<=n)];decide
def ahs{p:List Int×Int×Unit->Bool}{f:List Int×Int×Unit->Bool×Int×Unit}(hp:∀a b,a.length<1000000000->p (a,b,())=true)
  (hf:∀a n,a.length<1000000000->f (a,n,())=(bp (¬All a.length (λi=>¬n<=a.getD i.toNat default)),n,())) (a:List aA) (n:Int) (ha:Sh a):
  Xf.F (p,f,()) (a,n,()) (λy=>y=(bp (bH a n),())):=by
 have hlen:=ha.1;dsimp only [Xf,gm];refine aQ (λ(y:List aA×Int×Int×Int×Unit)=>y.1=a/\y.2.1=a.length/\y.2.2.2.1=n/\0<=y.2.2.1/\y.2.2.1<=a.length/\All y.2.2.1 (λi=>JH n (a.getD i.toNat default))) (λy=>(a.length-y.2.2.1).toNat) ⟨rfl,rfl,rfl,by simp,by simp,All.zero⟩ ?_;rintro⟨(l:List aA),(m:Int),(i:Int),(n':Int),⟨⟩⟩ hI;dsimp only at hI ⊢;obtain⟨rfl,rfl,rfl,h1,h2,h3⟩:=hI;simp (disch:=omega) only [RR];refine⟨λh4=> ?_,λh4=> ?_⟩
 .have h5:=ha.at i.toNat;rw [hp _ _ h5,hf _ _ h5];refine⟨ah,ah,rfl,λh6=> ?_,λh6=>⟨⟨rfl,ah,ah,h3.snoc ?_⟩,ah⟩⟩
  .rw [iN (λh=> ?_)];exact dh.1 h6 (h i h1 h4)
  .exact Classical.byContradiction (λh=>lT.1 h6 h)
 .rw [dO (show bH l n' from h3.le ah)]
def aht(m:aA):Xi.F () (m,()) (λy=>y=(bp (0<m.atoms.length/\m.atoms.getD 0 default<0),())):=by
 dsimp only [Xi,gm];simp (disch:=omega) only [RR];refine⟨ah,ah,?_⟩;rw [Bf];by_cases h1:0<m.atoms.length
 .by_cases h2:m.atoms.getD 0 default<0
  .rw [dO h1,dO h2,show Int.toNat 0=0 from rfl,decide_eq_true h2,decide_eq_true ah]
  .rw [dO h1,iN h2,show Int.toNat 0=0 from rfl,decide_eq_false h2,Bool.and_false,Bool.and_false]
 .rw [iN h1,decide_eq_false ah,Bool.false_and,Bool.false_and]
def aeD{p:aA×Unit->Bool}{f:aA×Unit->Bool×Unit}(G:aA->Prop)(U:∀a,p (a,())=true/\f (a,())=(bp (G a),()))(a:List aA)(ha:a.length<1000000000):
  PO.F (p,f,()) (a,()) (λy=>Idx a.length (λi=>G (a.getD i.toNat default)) y.1):=by
 dsimp only [PO,gm];refine aQ (λ(y:List aA×Int×Int×Unit)=>y.1=a/\y.2.1=a.length/\0<=y.2.2.1/\y.2.2.1<=a.length/\All y.2.2.1 (λi=>¬G (a.getD i.toNat default))) (λy=>(a.length-y.2.2.1).toNat) ⟨rfl,rfl,by simp,by simp,All.zero⟩ ?_;rintro⟨(l:List aA),(m:Int),(i:Int),⟨⟩⟩ hI;dsimp only at hI ⊢;obtain⟨rfl,rfl,h1,h2,h3⟩:=hI;simp (disch:=omega) only [RR,U];refine⟨λh4=>⟨ah,ah,λh5=> ?_,λh5=>⟨⟨ah,ah,h3.snoc (lT.1 h5)⟩,ah⟩⟩,λh4=> ?_⟩
 .exact Or.inr ⟨ah,ah,dh.1 h5,h3⟩
 .exact Or.inl ⟨rfl,h3.le ah⟩
def ahu{p:List aA×Unit->Bool}{f:List aA×Unit->Int×Unit}(G:aA->Prop)(U:∀a,a.length<1000000000->p (a,())=true/\(Idx a.length (λi=>G (a.getD i.toNat default)) (f (a,())).1))(a:List aA)(ha:a.length<1000000000):
  Xj.F (p,f,()) (a,()) (λy=>y=(bp (¬All a.length (λi=>¬G (a.getD i.toNat default))),())):=by
 have h1:=(U a ha).2;dsimp only [Xj,gm];simp (disch:=omega) only [RR,(U a ha).1];rw [show decide ((0:Int)<=(f (a,())).1)=bp (¬All a.length (λi=>¬G (a.getD i.toNat default)))from ?_];rw [<-X9 h1.ge];simp [bp]
def mOk(m:aA):Prop:=(1<=m.bU/\m.bU<=65535)/\m.atoms.length<=4/\Srt m.atoms
def bK(p:List aA):Prop:=All p.length (λi=>mOk (p.getD i.toNat default)/\(0<i->dX (p.getD (i-1).toNat default).atoms (p.getD i.toNat default).atoms<0))/\p.length<=12/\bH p 200
 /\All p.length (λi=>¬(0< (p.getD i.toNat default).atoms.length/\(p.getD i.toNat default).atoms.getD 0 default<0))
abbrev Y6(pp:List aA×Int×Unit->Bool)(ff:List aA×Int×Unit->Bool×Unit):Prop:=∀a n,Sh a->pp (a,n,())=true/\ff (a,n,())=(bp (bH a n),())
abbrev Y7(pp:List Int×List Int×Unit->Bool)(ff:List Int×List Int×Unit->Int×Unit):Prop:=∀a b,a.length<1000000000->pp (a,b,())=true/\ff (a,b,())=(dX a b,())
def ahv{p1 f1 p2 f2 p4 f4}{p3:List Int×Unit->Bool}{f3:List Int×Unit->Bool×Unit}{p5:List aA×Unit->Bool}{f5:List aA×Unit->Bool×Unit}(U1:Y1 p1 f1)(U2:Y6 p2 f2)(U3:∀a,a.length<1000000000->p3 (a,())=true/\f3 (a,())=(bp (Srt a),()))(U4:Y7 p4 f4)(U5:∀a,a.length<1000000000->p5 (a,())=true/\(f5 (a,())=(bp (¬All a.length (λi=>¬(0< (a.getD i.toNat default).atoms.length/\(a.getD i.toNat default).atoms.getD 0 default<0))),())))(a:List aA)(ha:Sh a):Xk.F (p1,f1,p2,f2,p3,f3,p4,f4,p5,f5,()) (a,()) (λy=>y=(bp (bK a),())):=by
 have hlen:=ha.1;dsimp only [Xk,gm];refine aQ (λ(y:List aA×Int×Int×List aA×Unit)=>y.1=a/\y.2.1=a.length/\y.2.2.2.1=a/\0<=y.2.2.1/\y.2.2.1<=a.length/\All y.2.2.1 (λi=>mOk (a.getD i.toNat default)/\(0<i->dX (a.getD (i-1).toNat default).atoms (a.getD i.toNat default).atoms<0))) (λy=>(a.length-y.2.2.1).toNat) ⟨rfl,rfl,rfl,by simp,by simp,All.zero⟩ ?_;rintro⟨(l:List aA),(m:Int),(i:Int),(l':List aA),⟨⟩⟩ hI;dsimp only at hI ⊢;obtain⟨rfl,rfl,rfl,h1,h2,h3⟩:=hI;simp (disch:=omega) only [RR,U1,U2 l' _ ha,U5 l' hlen];refine⟨λh4=> ?_,λh4=> ?_⟩
 .simp (disch:=omega) only [RR,U3 _ (ha.at _),U4 _ _ (ha.at _),dh,lT,inB];refine⟨ah,ah,by by_cases h:i<=0<;>simp [h]<;>omega,ah,λh5=> ?_,λh5=>⟨⟨ah,ah,h3.snoc ?_⟩,ah⟩⟩
  .rw [iN (λh=> ?_)];have:=h.1 i h1 h4;dsimp only [mOk]at this;obtain⟨⟨h6,h7,h8⟩,h9⟩:=this;rcases h5 with((h5 | h5) | h5) | ⟨h5,h10⟩
   .simp [-List.getD_eq_getElem?_getD]at h5;omega
   .omega
   .exact h5 h8
   .have:=h9 h5;omega
  .refine⟨⟨ah,ah,h5.1.2⟩,λh6=> ?_⟩;have:=h5.2;simp only [decide_eq_true h6,Bool.true_and,decide_eq_false_iff_not]at this;omega
 .unfold bK;rw [show All (↑l'.length) (λi=>mOk (l'.getD i.toNat default)/\(0<i->dX (l'.getD (i-1).toNat default).atoms (l'.getD i.toNat default).atoms<0))=True from eq_true (h3.le ah)];rw [true_and,Bf,Bf,Bool.and_assoc];refine congrArg (λb=>(b,())) ?_
  congr 1
  .by_cases h:l'.length<=12<;>simp [bp,h]<;>omega
  .congr 1
   simp [bp]
def CB(a b:aA):Int:=or2 (dX a.atoms b.atoms) (iW a.bU b.bU)
def wP:List aA->List aA->Int
 | a::az,b::bs=>if CB a b≠0 then CB a b else wP az bs
 | _,_=>0
def gT(a b:List aA):Int:=if iW a.length b.length≠0 then iW a.length b.length else wP a b
def Bg(a b:List aA)(i:Nat):(h1:i<a.length)->(h2:i<b.length)->wP (a.drop i) (b.drop i)=if CB a[i] b[i]≠0 then CB a[i] b[i]else wP (a.drop (i+1)) (b.drop (i+1)):=by
 intro h1 h2;rw [List.drop_eq_getElem_cons h1,List.drop_eq_getElem_cons h2];rfl
def ahw{p1 f1 p2 f2 p4 f4}(U1:Y4 p1 f1)(U2:Y3 p2 f2)(U4:Y7 p4 f4)(a b:List aA)(ha:Sh a):Xn.F (p1,f1,p2,f2,p4,f4,()) (a,b,()) (λy=>y=(gT a b,())):=by
 have hlen:=ha.1;dsimp only [Xn,gm];simp (disch:=omega) only [RR,U2];refine⟨λh=>by rw [gT,if_pos h],λh=> ?_⟩;have hl:a.length=b.length:=by unfold iW at h;split at h<;>(try split at h)<;>omega
 rw [show gT a b=wP a b by rw [gT,if_neg (by simp [h])]];refine aQ (λ(y:List aA×Int×Int×List aA×Unit)=>y.1=a/\y.2.1=a.length/\y.2.2.2.1=b/\0<=y.2.2.1/\y.2.2.1<=a.length/\wP a b=wP (a.drop y.2.2.1.toNat) (b.drop y.2.2.1.toNat)) (λy=>(a.length-y.2.2.1).toNat) ⟨rfl,rfl,rfl,by simp,by simp,by simp⟩ ?_;rintro⟨(l:List aA),(m:Int),(i:Int),(l':List aA),⟨⟩⟩ hI;dsimp only at hI ⊢;obtain⟨rfl,rfl,rfl,h1,h2,h3⟩:=hI;simp (disch:=omega) only [RR,U1,U4 _ _ (ha.at _)];refine⟨λh4=>⟨ah,ah,ah,ah,ah,ah,λh5=> ?_,λh5=>⟨⟨ah,ah,?_⟩,ah⟩⟩,λh4=> ?_⟩
 .rw [h3,Bg _ _ _ ah ah];rw [getD_lt ah,getD_lt ah]at h5 ⊢;exact((if_pos (c:=CB l[i.toNat] l'[i.toNat]≠0) h5).trans rfl).symm▸rfl
 .rw [h3,Bg _ _ _ ah ah];rw [getD_lt ah,getD_lt ah]at h5;rw [if_neg (show¬(CB l[i.toNat] l'[i.toNat]≠0)from λh=>h h5),show(i+1).toNat=i.toNat+1 by omega]
 .rw [h3,List.drop_eq_nil_of_le ah];rfl
abbrev Y8(pp:List aA×List aA×Unit->Bool)(ff:List aA×List aA×Unit->Int×Unit):Prop:=∀a b,Sh a->pp (a,b,())=true/\ff (a,b,())=(gT a b,())
def ahx{p1 f1}(U1:Y8 p1 f1)(a b:List aA)(ha:Sh a):
  Xo.F (p1,f1,()) (a,b,()) (λy=>y=(decide (gT a b=0),())):=by
 dsimp only [Xo,gm];simp (disch:=omega) only [RR,U1 a b ha]
theorem Qb(k:IntKind)(x y:Int):lC .and k x y=pI .and k x y:=rfl
theorem Ya(k:IntKind)(x y:Int):lC .xor k x y=pI .xor k x y:=rfl
def Yb(x:Int):pI .and .i64 x 65535=x%65536:=by
 unfold pI;dsimp only;rw [BitVec.toNat_and,BitVec.toNat_ofInt,BitVec.toNat_ofInt];have h1:((65535:Int)% ((2^IntKind.i64.bits:Nat):Int)).toNat=2^16-1:=by decide
 rw [h1,Nat.and_two_pow_sub_one_eq_mod];rw [w64 ah ah];have h2:((2^IntKind.i64.bits:Nat):Int)=18446744073709551616:=by decide
 rw [h2];omega
def aa6{a b:Int}(ha:0<=a)(ha':a<=65535)(hb:0<=b)(hb':b<=65535):(0<=pI .and .i64 a b/\pI .and .i64 a b<=65535)/\(0<=pI .xor .i64 a b/\pI .xor .i64 a b<=65535):=by
 have h2:((2^IntKind.i64.bits:Nat):Int)=18446744073709551616:=by decide
 have e1:pI .and .i64 a b=((a.toNat&&&b.toNat:Nat):Int):=by
  unfold pI;dsimp only;rw [BitVec.toNat_and,BitVec.toNat_ofInt,BitVec.toNat_ofInt,h2,show a%18446744073709551616=a by omega,show b%18446744073709551616=b by omega];have:=Nat.and_lt_two_pow (a.toNat) (show b.toNat<2^16 by omega);rw [w64 ah ah]
 have e2:pI .xor .i64 a b=((a.toNat^^^b.toNat:Nat):Int):=by
  unfold pI;dsimp only;rw [BitVec.toNat_xor,BitVec.toNat_ofInt,BitVec.toNat_ofInt,h2,show a%18446744073709551616=a by omega,show b%18446744073709551616=b by omega];have:=Nat.xor_lt_two_pow (show a.toNat<2^16 by omega) (show b.toNat<2^16 by omega);rw [w64 ah ah]
 rw [e1,e2];have:=Nat.and_lt_two_pow (a.toNat) (show b.toNat<2^16 by omega);have:=Nat.xor_lt_two_pow (show a.toNat<2^16 by omega) (show b.toNat<2^16 by omega);omega
def ahy(a:Int):Xx.F () (a,()) (λy=>y=(a%65536,())):=by
 dsimp only [Xx,gm];simp (disch:=omega) only [RR,Qb,Yb]
def wdo(op a b:Int):Int:=if(0<=a/\a<=65535)/\(0<=b/\b<=65535)then
 (if op=1 then(a+b)%65536 else if op=2 then(a-b)%65536 else if op=3 then(a*b)%65536 else if op=4 then pI .and .i64 a b else if op=5 then pI .xor .i64 a b else 0)else 0
def RN(op a b:Int):0<=wdo op a b/\wdo op a b<=65535:=by
 unfold wdo;split
 .rename_i h;have:=aa6 h.1.1 h.1.2 h.2.1 h.2.2
  repeat' split
  all_goals omega
 .omega
theorem kL{a b c:Int}:inB a b c=true↔(b<=a/\a<=c):=by simp [inB]
def zF{a b c:Int}:inB a b c=false↔¬(b<=a/\a<=c):=by rw [<-kL,Bool.not_eq_true]
abbrev Y9(pp:Int×Unit->Bool)(ff:Int×Unit->Bool×Unit):Prop:=∀a,pp (a,())=true/\ff (a,())=(inB a 0 65535,())
abbrev Y10(pp:Int×Unit->Bool)(ff:Int×Unit->Int×Unit):Prop:=∀a,pp (a,())=true/\ff (a,())=(a%65536,())
def ahz{p1 f1 p2 f2}(U1:Y9 p1 f1)(U2:Y10 p2 f2)(op a b:Int):
  XH.F (p1,f1,p2,f2,()) (op,a,b,()) (λy=>y=(wdo op a b,())):=by
 dsimp only [XH,gm];simp (disch:=omega) only [RR,U1,U2,Qb,Ya,kL,zF];by_cases ha:(0<=a/\a<=65535)/\(0<=b/\b<=65535)
 .have hm:0<=a*b/\a*b<=65535*65535:=⟨Int.mul_nonneg ha.1.1 ha.2.1,Int.mul_le_mul ha.1.2 ha.2.2 ha.2.1 ah⟩
  grind [w64,wdo,absurd]
 grind [absurd,wdo]
def fJ(n:Int):List aA:=if 1<=n/\n<=65535 then [⟨n,[]⟩]else []
def ahA{p1 f1}(U1:Y1 p1 f1)(a:Int):
  Xu.F (p1,f1,()) (a,()) (λy=>y=(fJ a,())):=by
 dsimp only [Xu,gm];simp (disch:=omega) only [RR,U1,kL,zF]
 grind [fJ]
def gK(n:Int):List aA:=if 0<=n/\n<=199 then [⟨1,[n]⟩]else []
def ahB{p1 f1}(U1:Y1 p1 f1)(a:Int):
  XL.F (p1,f1,()) (a,()) (λy=>y=(gK a,())):=by
 dsimp only [XL,gm];simp (disch:=omega) only [RR,U1,kL,zF]
 grind [gK]
noncomputable def iC (p:List aA):Int×Bool:=if bp (bK p)then(if p.length=0 then(0,true)else if p.length=1/\(p.getD 0 default).atoms.length=0 then((p.getD 0 default).bU,true)else(0,false))else(0,false)
abbrev Y11(pp:List aA×Unit->Bool)(ff:List aA×Unit->Bool×Unit):Prop:=∀a,Sh a->pp (a,())=true/\ff (a,())=(bp (bK a),())
def ahC{p1 f1}(U1:Y11 p1 f1)(a:List aA)(ha:Sh a):
  Xv.F (p1,f1,()) (a,()) (λy=>y=((iC a).1,(iC a).2,())):=by
 dsimp only [Xv,gm];simp (disch:=omega) only [RR,U1 a ha]
 grind [iC,Int.toNat,default,decide_eq_true,decide_eq_false_iff_not]
def ahD(a:List Int)(ha:a.length<=1073741824):Xw.F () (a,()) (λy=>y=(a,())):=by
 dsimp only [Xw,gm];simp (disch:=omega) only [RR];omega
def iE{α:Type}{l:List α}{i:Int}{d x:α}(h0:0<=i)(h:i<l.length)(e:x=l.getD i.toNat d):l.take i.toNat++ [x]=l.take (i+1).toNat:=by
 rw [e,getD_lt ah,show(i+1).toNat=i.toNat+1 by omega,List.take_succ_eq_append_getElem ah]
abbrev Y12(pp:List Int×Unit->Bool)(ff:List Int×Unit->List Int×Unit):Prop:=∀a,a.length<=1073741824->pp (a,())=true/\ff (a,())=(a,())
def ShA(a:Atom):Prop:=Sh a.x/\Sh a.y
def ShT(t:List Atom):Prop:=t.length<1000000000/\∀a∈t,ShA a
def ShT.at{p:List Atom}(h:ShT p)(n:Nat):ShA (p.getD n default):=by
 by_cases h1:n<p.length
 .rw [getD_lt h1];exact h.2 _ (List.getElem_mem _)
 .simp only [List.getD,List.getElem?_eq_none (by omega:p.length<=n)];refine⟨⟨by decide,λm hm=> ?_⟩,⟨by decide,λm hm=> ?_⟩⟩<;>exact absurd hm (by simp [default,instInhabitedAtom.default])
abbrev Y13(pp:List aA×Unit->Bool)(ff:List aA×Unit->List aA×Unit):Prop:=∀a,Sh a->pp (a,())=true/\ff (a,())=(a,())
def ahE{p4 f4}(U4:Y7 p4 f4)(a b:aA)(ha:a.atoms.length<1000000000):
  Xy.F (p4,f4,()) (a,b,()) (λy=>y=(dX a.atoms b.atoms,())):=by
 dsimp only [Xy,gm];simp (disch:=omega) only [RR,U4 a.atoms b.atoms ha]
def ahF(a:List Atom):XJ.F () (a,()) (λy=>y=(a,())):=by
 dsimp only [XJ,gm];simp (disch:=omega) only [RR];simp_all
def tY(a b:Atom):Bool:=decide (a.kind=b.kind)&&decide (a.k=b.k)&&decide (gT a.x b.x=0)&&decide (gT a.y b.y=0)
abbrev Y14(pp:List aA×List aA×Unit->Bool)(ff:List aA×List aA×Unit->Bool×Unit):Prop:=∀a b,Sh a->pp (a,b,())=true/\ff (a,b,())=(decide (gT a b=0),())
def ahG{p1 f1}(U1:Y14 p1 f1)(a b:Atom)(ha:ShA a):
  Xp.F (p1,f1,()) (a,b,()) (λy=>y=(tY a b,())):=by
 dsimp only [Xp,gm];simp (disch:=omega) only [RR,U1 a.x b.x ha.1,U1 a.y b.y ha.2];rfl
abbrev Y15(pp:Atom×Atom×Unit->Bool)(ff:Atom×Atom×Unit->Bool×Unit):Prop:=∀a b,ShA a->pp (a,b,())=true/\ff (a,b,())=(tY a b,())
def ahH{p1 f1}(U1:Y15 p1 f1)(a b:Atom)(hb:ShA b):
  Xq.F (p1,f1,()) (a,b,()) (λy=>y=(tY b a,b,())):=by
 dsimp only [Xq,gm];simp_all
noncomputable def idxOf (n:Int) (G:Int->Prop):Int:= @dite _ (∃r,Idx n G r) (Classical.propDecidable _) (λh=>Classical.choose h) (λ_=> -1)
def Idx.uniq{n:Int}{G:Int->Prop}{r s:Int}(h:Idx n G r)(h':Idx n G s):r=s:=by
 rcases h with⟨h1,h2⟩ | ⟨h1,h2,h3,h4⟩<;>rcases h' with⟨g1,g2⟩ | ⟨g1,g2,g3,g4⟩
 .omega
 .exact absurd g3 (h2 s g1 g2)
 .exact absurd h3 (g2 r h1 h2)
 .by_cases h5:r<s
  .exact absurd h3 (g4 r h1 h5)
  .by_cases h6:s<r
   .exact absurd g3 (h4 s g1 h6)
   .omega
def Idx.eq{n:Int}{G:Int->Prop}{r:Int}(h:Idx n G r):r=idxOf n G:=by
 unfold idxOf;have he:∃r,Idx n G r:=⟨r,h⟩;rw [dif_pos he];exact h.uniq (Classical.choose_spec he)
def aeE{p:Atom×Atom×Unit->Bool}{f:Atom×Atom×Unit->Bool×Atom×Unit}(U:∀a b,ShA b->p (a,b,())=true/\f (a,b,())=(tY b a,b,()))(a:List Atom)(b:Atom)(ha:a.length<1000000000)(hb:ShA b):
  PU.F (p,f,()) (a,b,()) (λy=>y=(idxOf a.length (λi=>tY b (a.getD i.toNat default)=true),b,())):=by
 dsimp only [PU,gm];refine aQ (λ(y:List Atom×Int×Int×Atom×Unit)=>y.1=a/\y.2.1=a.length/\y.2.2.2.1=b/\0<=y.2.2.1/\y.2.2.1<=a.length/\All y.2.2.1 (λi=>¬tY b (a.getD i.toNat default)=true)) (λy=>(a.length-y.2.2.1).toNat) ⟨rfl,rfl,rfl,by simp,by simp,All.zero⟩ ?_;rintro⟨(l:List Atom),(m:Int),(i:Int),(b':Atom),⟨⟩⟩ hI;dsimp only at hI ⊢;obtain⟨rfl,rfl,rfl,h1,h2,h3⟩:=hI;simp (disch:=omega) only [RR,U _ _ hb];refine⟨λh4=>⟨ah,ah,λh5=> ?_,λh5=>⟨⟨ah,ah,h3.snoc (by simp only [h5];simp)⟩,ah⟩⟩,λh4=> ?_⟩
 .rw [<-Idx.eq (Or.inr ⟨ah,ah,h5,h3⟩)]
 .rw [<-Idx.eq (Or.inl ⟨rfl,h3.le ah⟩)]
noncomputable def qJ (t:List Atom) (a:Atom):Int:=idxOf t.length (λi=>tY a (t.getD i.toNat default)=true)
def ahI{p:List Atom×Atom×Unit->Bool}{f:List Atom×Atom×Unit->Int×Atom×Unit}(U:∀a b,a.length<1000000000->ShA b->p (a,b,())=true/\(f (a,b,())=(idxOf a.length (λi=>tY b (a.getD i.toNat default)=true),b,())))(a:List Atom)(b:Atom)(ha:a.length<1000000000)(hb:ShA b):
  Xr.F (p,f,()) (a,b,()) (λy=>y=(qJ a b,())):=by
 dsimp only [Xr,gm];simp (disch:=omega) only [RR,U a b ha hb];rfl
def iB(a:Atom)(n:Int):Prop:=if a.kind=4 then(1<=a.k/\a.k<=5)/\bK a.x/\bK a.y/\bH a.x n/\bH a.y n else
 (a.x=[]/\a.y=[])/\((a.kind=1/\0<=a.k/\a.k<=3)\/(a.kind=2\/a.kind=3)/\0<=a.k/\a.k<=199)
abbrev Y16(pp:Int×Unit->Bool)(ff:Int×Unit->Bool×Unit):Prop:=∀a,pp (a,())=true/\ff (a,())=(inB a 1 5,())
abbrev Y17(pp:Int×Unit->Bool)(ff:Int×Unit->Bool×Unit):Prop:=∀a,pp (a,())=true/\ff (a,())=(inB a 0 3,())
def ahJ{p1 f1 p2 f2 p3 f3 p4 f4 p5 f5}(U1:Y1 p1 f1)(U2:Y16 p2 f2)(U3:Y6 p3 f3)(U4:Y11 p4 f4)(U5:Y17 p5 f5)(a:Atom)(n:Int)(ha:ShA a):
  Xm.F (p1,f1,p2,f2,p3,f3,p4,f4,p5,f5,()) (a,n,()) (λy=>y=(bp (iB a n),())):=by
 obtain⟨hx,hy⟩:=ha;have hx1:=hx.1;have hy1:=hy.1;dsimp only [Xm,gm];simp (disch:=omega) only [RR,U1,U2,U3 a.x n hx,U3 a.y n hy,U4 a.x hx,U4 a.y hy,U5];unfold iB;refine⟨λh=> ?_,λh=>⟨λh1=> ?_,λh1=> ?_⟩⟩
 .grind [dh,kL]
 .rw [if_neg h,iN]
  grind
 .rw [if_neg h];have h2:a.x=[]:=List.eq_nil_of_length_eq_zero ah;have h3:a.y=[]:=List.eq_nil_of_length_eq_zero ah
  grind [dh,kL]
def bB(t:List Atom):Prop:=All t.length (λi=>iB (t.getD i.toNat default) i/\qJ t (t.getD i.toNat default)=i)/\t.length<=200
abbrev Y18(pp:Atom×Int×Unit->Bool)(ff:Atom×Int×Unit->Bool×Unit):Prop:=∀a n,ShA a->pp (a,n,())=true/\ff (a,n,())=(bp (iB a n),())
abbrev Y19(pp:List Atom×Atom×Unit->Bool)(ff:List Atom×Atom×Unit->Int×Unit):Prop:=∀a b,a.length<1000000000->ShA b->pp (a,b,())=true/\ff (a,b,())=(qJ a b,())
def ahK{p1 f1 p2 f2}(U1:Y18 p1 f1)(U2:Y19 p2 f2)(a:List Atom)(ha:ShT a):
  Xt.F (p1,f1,p2,f2,()) (a,()) (λy=>y=(bp (bB a),())):=by
 have hlen:=ha.1;dsimp only [Xt,gm];refine aQ (λ(y:List Atom×Int×Int×List Atom×Unit)=>y.1=a/\y.2.1=a.length/\y.2.2.2.1=a/\0<=y.2.2.1/\y.2.2.1<=a.length/\All y.2.2.1 (λi=>iB (a.getD i.toNat default) i/\qJ a (a.getD i.toNat default)=i)) (λy=>(a.length-y.2.2.1).toNat) ⟨rfl,rfl,rfl,by simp,by simp,All.zero⟩ ?_;rintro⟨(l:List Atom),(m:Int),(i:Int),(b':List Atom),⟨⟩⟩ hI;dsimp only at hI ⊢;obtain⟨rfl,rfl,rfl,h1,h2,h3⟩:=hI;simp (disch:=omega) only [RR,U1 _ _ (ha.at _),U2 _ _ ha.1 (ha.at _),dh,lT];refine⟨λh4=>⟨ah,ah,λh5=> ?_,λh5=>⟨⟨ah,ah,h3.snoc h5⟩,ah⟩⟩,λh4=> ?_⟩
 .rw [iN (λh=> ?_)];have:=h.1 i h1 h4;simp_all
 grind [dO,bB,decide_eq_true,iN,decide_eq_false]
noncomputable def bY (t:List Atom) (a:Atom):List Atom×Int:=if 0<=qJ t a then(t,qJ t a)else @ite _ (¬iB a t.length\/t.length=200) (Classical.propDecidable _) (t, -1) (t++ [a],(t.length:Int))
def ahL{p1 f1 p2 f2}{p3:List Atom×Unit->Bool}{f3:List Atom×Unit->List Atom×Unit}(U1:Y18 p1 f1)(U2:Y19 p2 f2)(U3:∀a,p3 (a,())=true/\f3 (a,())=(a,()))(t:List Atom)(a:Atom)(ht:t.length<1000000000)(ha:ShA a):
  XK.F (p1,f1,p2,f2,p3,f3,()) (t,a,()) (λy=>y=((bY t a).1,(bY t a).2,())):=by
 dsimp only [XK,gm];simp (disch:=omega) only [RR,U1 a t.length ha,U2 t a ht ha,U3,dh,lT]
 grind [bY,List.length_cons,List.length_nil,absurd]
def wC(a b:Int):iW b a= -iW a b:=by unfold iW;repeat' split<;>omega
def kF{a b:Int}:iW a b=0↔a=b:=by unfold iW;constructor<;>intro h<;>(repeat' split at*)<;>omega
def Hr:∀a b:List Int,mK b a= -mK a b
 | [],[]=>rfl | [],_::_=>rfl | _::_,[]=>rfl
 | a::az,b::bs=>by
  simp only [mK,wC a b,Hr az bs];split<;>split<;>omega
def Ht:∀ {a b:List Int},mK a b=0->a=b
 | [],[],_=>rfl | [],_::_,h=>by simp [mK]at h
 | _::_,[],h=>by simp [mK]at h
 | a::az,b::bs,h=>by
  simp only [mK]at h;split at h
  .exact absurd h (by assumption)
  .rename_i h1;rw [kF.1 (Classical.not_not.1 h1),Ht h]
def Hu:∀a:List Int,mK a a=0
 | []=>rfl
 | a::az=>by simp only [mK,show iW a a=0 from kF.2 rfl];simp [Hu az]
def EN:∀ {a b c:List Int},mK a b<=0->mK b c<=0->mK a c<=0
 | [],_,[],_,_=>by simp [mK]
 | [],_,_::_,_,_=>by simp [mK]
 | _::_,[],_,h,_=>by simp [mK]at h
 | _::_,_::_,[],_,h=>by simp [mK]at h
 | a::az,b::bs,c::cs,h1,h2=>by
  have ih:= @EN az bs cs;simp only [mK]at h1 h2 ⊢;unfold iW at h1 h2 ⊢
  repeat' split at h1
  all_goals (repeat' split at h2)
  all_goals (repeat' split)
  all_goals omega
def lU(a b:List Int):dX b a= -dX a b:=by
 unfold dX or2;rw [wC,Hr];repeat' split<;>omega
def iR{a b:List Int}:dX a b=0↔a=b:=by
 constructor
 .intro h;unfold dX or2 at h;split at h
  .exact absurd h (by assumption)
  .exact Ht h
 .rintro rfl;unfold dX or2;rw [show iW (a.length:Int) a.length=0 from kF.2 rfl,Hu];rfl
def yg{a b c:List Int}(h1:dX a b<=0)(h2:dX b c<=0):dX a c<=0:=by
 have ih:= @EN a b c;unfold dX or2 iW at*
 repeat' split at h1
 all_goals (repeat' split at h2)
 all_goals (repeat' split)
 all_goals omega
def le(x y:aA):Prop:=dX x.atoms y.atoms<=0
def le.trans{x y z:aA}(h1:le x y)(h2:le y z):le x z:=yg h1 h2
def rV{x y:aA}(h:¬dX y.atoms x.atoms<0):le x y:=by unfold le;rw [lU];omega
def le_of_lt{x y:aA}(h:dX x.atoms y.atoms<0):le x y:=by unfold le;omega
def le_refl(x:aA):le x x:=by unfold le;rw [iR.2 rfl];omega
def eX{x y z:aA}(h1:le x y)(h2:dX y.atoms z.atoms<0):dX x.atoms z.atoms<0:=by
 have h3:=yg h1 (le_of_lt h2);by_cases h:dX x.atoms z.atoms=0
 .have e:=iR.1 h;unfold le at h1;rw [e,lU]at h1;omega
 .omega
def lV{x y z:aA}(h1:dX x.atoms y.atoms<0)(h2:le y z):dX x.atoms z.atoms<0:=by
 have h3:=yg (le_of_lt h1) h2;by_cases h:dX x.atoms z.atoms=0
 .have e:=iR.1 h;unfold le at h2;rw [<-e,lU]at h2;omega
 .omega
def JI(g:aA->Int)(x:aA):∀(d:List aA) (n:Nat) (h:n<d.length),((d.set n x).map g).sum=(d.map g).sum-g d[n]+g x
 | [],_,h=>absurd h (by simp)
 | a::d,0,h=>by simp;omega
 | a::d,n+1,h=>by
  have:=JI g x d n (by simpa using h);simp only [List.set_cons_succ,List.map_cons,List.sum_cons,List.getElem_cons_succ];omega
structure Sm(d d':List aA):Prop where
 len:d'.length=d.length
 sum:∀g:aA->Int,(d'.map g).sum=(d.map g).sum
def Sm.refl(d:List aA):Sm d d:=⟨rfl,λ_=>rfl⟩
def Sm.trans{a b c:List aA}(h1:Sm a b)(h2:Sm b c):Sm a c:=⟨h2.1.trans h1.1,λg=>(h2.2 g).trans (h1.2 g)⟩
def Sm.symm{a b:List aA}(h1:Sm a b):Sm b a:=⟨h1.1.symm,λg=>(h1.2 g).symm⟩
def JJ(x:aA):∀d:List aA,0<=(d.map (λy=>if y=x then(1:Int)else 0)).sum/\(0< (d.map (λy=>if y=x then(1:Int)else 0)).sum↔x∈d)
 | []=>by simp
 | a::d=>by
  have:=JJ x d;simp only [List.map_cons,List.sum_cons,List.mem_cons];by_cases h:a=x
  .rw [if_pos h];refine⟨ah,⟨λ_=>Or.inl h.symm,λ_=>by omega⟩⟩
  .rw [if_neg h];refine⟨ah,⟨λh2=>Or.inr (this.2.1 ah),λh2=> ?_⟩⟩;rcases h2 with h2 | h2
   .exact absurd h2.symm h
   .have:=this.2.2 h2;omega
def Sm.mem{a b:List aA}(h:Sm a b){x:aA}(hx:x∈b):x∈a:=by
 rw [<-(JJ x a).2,<-h.2];exact(JJ x b).2.2 hx
def Sm.sh{a b:List aA}(h:Sm a b)(hs:Sh a):Sh b:=⟨by have:=hs.1;have:=h.1;omega,λm hm=>hs.2 m (h.mem hm)⟩
def swp(d:List aA)(i j:Int):List aA:=(d.set i.toNat ((d).getD (j).toNat default)).set j.toNat ((d).getD (i).toNat default)
def aa7(d:List aA)(i j:Int):(swp d i j).length=d.length:=by simp [swp]
def at_set{d:List aA}{i j:Int}{x:aA}(h1:0<=i)(h2:i<d.length)(h3:0<=j):((d.set i.toNat x).getD (j).toNat default)=if j=i then x else((d).getD (j).toNat default):=by
 simp only [List.getD];by_cases h:j=i
 .subst h;rw [if_pos rfl,List.getElem?_set_self ah];rfl
 .rw [if_neg h,List.getElem?_set_ne ah]
def vJ{d:List aA}{i j k:Int}(h1:0<=i)(h2:i<d.length)(h3:0<=j)(h4:j<d.length)(h5:0<=k):((swp d i j).getD (k).toNat default)=if k=j then((d).getD (i).toNat default)else if k=i then((d).getD (j).toNat default)else((d).getD (k).toNat default):=by
 unfold swp;rw [at_set h3 (by simp;omega) h5,at_set h1 h2 h5]
def JK{d:List aA}{i j:Int}(h1:0<=i)(h2:i<d.length)(h3:0<=j)(h4:j<d.length):Sm d (swp d i j):=by
 refine⟨aa7 d i j,λg=> ?_⟩;unfold swp;rw [getD_lt (show i.toNat<d.length by omega),getD_lt (show j.toNat<d.length by omega),JI g _ _ _ (by simp;omega),JI g _ _ _ ah,List.getElem_set];split
 .rename_i h;have:i=j:=by omega
  subst this;omega
 .omega
def Swp(d d':List aA)(a b n:Int):Prop:=Sm d d'/\∀k,0<=k->((d').getD (k).toNat default)=if a<=k/\k<a+n then((d).getD (k+(b-a)).toNat default)else if b<=k/\k<b+n then((d).getD (k- (b-a)).toNat default)else((d).getD (k).toNat default)
theorem aeF(a b n:Int)(d:List aA)(hl:d.length<1000000000)(h1:0<=a)(h2:0<=n)(h3:a+n<=b)(h4:b+n<=d.length):
  PX.F () (a,b,n,d,()) (λy=>Swp d y.1 a b n):=by
 dsimp only [PX,gm]
 refine aQ (λ(y:Int×Int×Int×Int×List aA×Unit)=>y.1=a/\y.2.1=b/\y.2.2.1=n/\0<=y.2.2.2.1/\y.2.2.2.1<=n/\Swp d y.2.2.2.2.1 a b y.2.2.2.1) (λy=>(n-y.2.2.2.1).toNat)
  ⟨rfl,rfl,rfl,by simp,by simp;omega,Sm.refl d,λk hk=>by dsimp only;rw [if_neg ah,if_neg ah]⟩ ?_
 rintro⟨(a':Int),(b':Int),(n':Int),(i:Int),(e:List aA),⟨⟩⟩ hI;dsimp only at hI ⊢;obtain⟨rfl,rfl,rfl,h5,h6,h7,h8⟩:=hI;have hle:=h7.1;simp (disch:=omega) only [RR,List.length_set];refine⟨λh9=> ?_,λh9=> ?_⟩
 .have e1:(e.set (a'+i).toNat ((e).getD (b'+i).toNat default)).set (b'+i).toNat ((e).getD (a'+i).toNat default)=swp e (a'+i) (b'+i):=rfl;rw [e1];refine⟨ah,ah,ah,ah,ah,ah,ah,ah,ah,ah,ah,ah,ah,ah,ah,ah,⟨ah,ah,h7.trans (JK ah ah ah ah),λk hk=> ?_⟩,ah⟩;rw [vJ ah ah ah ah hk];rw [h8 _ ah,h8 _ ah,h8 _ hk]
  repeat' split
  all_goals first | rfl | (exfalso;omega) | (congr 2;omega)
 .have:i=n':=by omega
  subst this;exact⟨h7,h8⟩
def Rot(d d':List aA)(a m b:Int):Prop:=Sm d d'/\∀k,0<=k->((d').getD (k).toNat default)=if a<=k/\k<a+(b-m)then((d).getD (k+(m-a)).toNat default)else if a+(b-m)<=k/\k<b then((d).getD (k- (b-m)).toNat default)else((d).getD (k).toNat default)
def aeG{p:Int×Int×Int×List aA×Unit->Bool}{f:Int×Int×Int×List aA×Unit->List aA×Unit}(U:∀(a b n:Int) (d:List aA),d.length<1000000000->0<=a->0<=n->a+n<=b->b+n<=d.length->p (a,b,n,d,())=true/\Swp d (f (a,b,n,d,())).1 a b n)(a m b:Int)(d:List aA)(hl:d.length<1000000000)(h1:0<=a)(h2:a<m)(h3:m<b)(h4:b<=d.length):
  PY.F (p,f,()) (a,m,b,d,()) (λy=>Rot d y.1 a m b):=by
 dsimp only [PY,gm];simp (disch:=omega) only [RR]
 refine aQ (λ(y:Int×Int×Int×List aA×Unit)=>y.1=m/\0<y.2.1/\0<y.2.2.1/\a<=m-y.2.1/\m+y.2.2.1<=b/\Sm d y.2.2.2.1/\
   ∀k,0<=k->(if a<=k/\k<a+(b-m)then((d).getD (k+(m-a)).toNat default)else if a+(b-m)<=k/\k<b then((d).getD (k- (b-m)).toNat default)else((d).getD (k).toNat default))
    =(if m-y.2.1<=k/\k<m-y.2.1+y.2.2.1 then((y.2.2.2.1).getD (k+y.2.1).toNat default)else if m-y.2.1+y.2.2.1<=k/\k<m+y.2.2.1 then((y.2.2.2.1).getD (k-y.2.2.1).toNat default)else((y.2.2.2.1).getD (k).toNat default))) (λy=>(y.2.1+y.2.2.1).toNat)
  ⟨rfl,by simp;omega,by simp;omega,by simp;omega,by simp;omega,Sm.refl d,λk hk=>by
   dsimp only;rw [show m- (m-a)=a by omega,show m+(b-m)=b by omega]⟩ ?_
 rintro⟨(m':Int),(i:Int),(j:Int),(e:List aA),⟨⟩⟩ hI;dsimp only at hI ⊢;obtain⟨rfl,h5,h6,h7,h8,h9,h10⟩:=hI;have hle:=h9.1;simp (disch:=omega) only [RR];refine⟨λh11=>⟨λh12=> ?_,λh12=> ?_⟩,λh11=> ?_⟩
 .obtain⟨s1,s2⟩:=(U (m'-i) m' j e ah ah ah ah ah).2;refine⟨(U _ _ _ _ ah ah ah ah ah).1,⟨ah,ah,ah,ah,h9.trans s1,λk hk=> ?_⟩,ah⟩;rw [h10 k hk];generalize (f (m'-i,m',j,e,())).1=e' at s1 s2 ⊢;by_cases c1:m'-i<=k/\k<m'-i+j
  .rw [if_pos c1,if_neg ah,if_neg ah,s2 k hk,if_pos c1];congr 2;omega
  .rw [if_neg c1];by_cases c2:m'-i+j<=k/\k<m'+j
   .rw [if_pos c2];by_cases c3:m'- (i-j)<=k/\k<m'- (i-j)+j
    .rw [if_pos c3,s2 _ ah,if_neg ah,if_pos ah];congr 2;omega
    .rw [if_neg c3,if_pos ah,s2 _ ah,if_neg ah,if_neg ah]
   .rw [if_neg c2,if_neg ah,if_neg ah,s2 _ hk,if_neg ah,if_neg ah]
 .obtain⟨s1,s2⟩:=(U (m'-i) (m'+j-i) i e ah ah ah ah ah).2;refine⟨(U _ _ _ _ ah ah ah ah ah).1,⟨ah,ah,ah,ah,h9.trans s1,λk hk=> ?_⟩,ah⟩;rw [h10 k hk];generalize (f (m'-i,m'+j-i,i,e,())).1=e' at s1 s2 ⊢;by_cases c1:m'-i<=k/\k<m'-i+j
  .rw [if_pos c1];by_cases c3:k<m'-i+(j-i)
   .rw [if_pos ah,s2 _ ah];by_cases c4:k<m'
    .by_cases c5:k+i<m'+j-i
     .rw [if_neg ah,if_neg ah]
     .exfalso;omega
    .by_cases c5:k+i<m'+j-i
     .rw [if_neg ah,if_neg ah]
     .exfalso;omega
   .by_cases c6:k<m'
    .rw [if_neg ah,if_pos ah,s2 _ ah,if_pos ah];congr 2;omega
    .rw [if_neg ah,if_pos ah,s2 _ ah];by_cases c7:k- (j-i)<m'
     .rw [if_pos ah];congr 2;omega
     .exfalso;omega
  .rw [if_neg c1];by_cases c2:m'-i+j<=k/\k<m'+j
   .rw [if_pos c2,if_neg ah,if_neg ah,s2 _ hk,if_neg ah,if_pos ah];congr 2;omega
   .rw [if_neg c2,if_neg ah,if_neg ah,s2 _ hk,if_neg ah,if_neg ah]
 .have hij:i=j:=by omega
  subst hij;obtain⟨s1,s2⟩:=(U (m'-i) m' i e ah ah ah ah ah).2;refine⟨(U _ _ _ _ ah ah ah ah ah).1,h9.trans s1,λk hk=> ?_⟩;rw [h10 k hk,s2 k hk]
  repeat' split
  all_goals first | rfl | (exfalso;omega) | (congr 2;omega)
def ou(d:List aA)(a b:Int):Prop:=∀p q,a<=p->p<=q->q<b->le ((d).getD (p).toNat default) ((d).getD (q).toNat default)
def Out(d d':List aA)(a b:Int):Prop:=∀k,0<=k->(k<a\/b<=k)->((d').getD (k).toNat default)=((d).getD (k).toNat default)
abbrev Y20(pp:aA×aA×Unit->Bool)(ff:aA×aA×Unit->Int×Unit):Prop:=∀x y,x.atoms.length<1000000000->pp (x,y,())=true/\ff (x,y,())=(dX x.atoms y.atoms,())
theorem aeH{p f}(U:Y20 p f)(a b:Int)(d:List aA)(hd:Sh d)(h1:0<=a)(h2:a<=b)(h3:b<=d.length):
  PW.F (p,f,()) (a,b,d,()) (λy=>Sm d y.1/\Out d y.1 a b/\ou y.1 a b):=by
 have hlen:=hd.1;dsimp only [PW,gm];simp (disch:=omega) only [RR]
 refine aQ (λ(y:Int×Int×Int×List aA×Unit)=>y.1=a/\y.2.1=b/\a+1<=y.2.2.1/\(y.2.2.1<=b\/y.2.2.1=a+1)/\Sm d y.2.2.2.1/\Out d y.2.2.2.1 a b/\ou y.2.2.2.1 a y.2.2.1) (λy=>(b-y.2.2.1).toNat)
  ⟨rfl,rfl,by simp,Or.inr rfl,Sm.refl d,λk _ _=>rfl,λp q h1 h2 h3=>by dsimp only at h3;rw [show p=q by omega];exact le_refl _⟩ ?_
 rintro⟨(a':Int),(b':Int),(i:Int),(e:List aA),⟨⟩⟩ hI;dsimp only at hI ⊢;obtain⟨rfl,rfl,h4,h5,h6,h7,h8⟩:=hI;have hle:=h6.1;simp (disch:=omega) only [RR];refine⟨λh9=> ?_,λh9=>⟨h6,h7,λp q g1 g2 g3=>h8 p q g1 g2 ah⟩⟩
 refine aQ (λ(y:Int×Int×Int×Int×List aA×Unit)=>y.1=a'/\y.2.1=b'/\y.2.2.1=i/\a'<=y.2.2.2.1/\y.2.2.2.1<=i/\Sm d y.2.2.2.2.1/\Out d y.2.2.2.2.1 a' b'
   /\(∀p q,a'<=p->p<=q->q<=i->p≠y.2.2.2.1->q≠y.2.2.2.1->le ((y.2.2.2.2.1).getD (p).toNat default) ((y.2.2.2.2.1).getD (q).toNat default))/\(∀q,y.2.2.2.1<q->q<=i->le ((y.2.2.2.2.1).getD (y.2.2.2.1).toNat default) ((y.2.2.2.2.1).getD (q).toNat default))) (λy=>y.2.2.2.1.toNat)
  ⟨rfl,rfl,rfl,by simp;omega,by simp,h6,h7,λp q g1 g2 g3 g4 g5=>h8 p q g1 g2 (by dsimp only at g3 g5;omega),λq g1 g2=>by dsimp only at g1;omega⟩ ?_
 rintro⟨(a'':Int),(b'':Int),(i':Int),(j:Int),(e':List aA),⟨⟩⟩ hI;dsimp only at hI ⊢;obtain⟨rfl,rfl,rfl,h10,h11,h12,h13,h14,h15⟩:=hI;have hle':=h12.1;have hs:=h12.sh hd;simp (disch:=omega) only [RR,List.length_set,U _ _ (hs.at _)];have e1:(e'.set j.toNat ((e').getD (j-1).toNat default)).set (j-1).toNat ((e').getD (j).toNat default)=swp e' j (j-1):=rfl;rw [e1]
 repeat' (refine And.intro ?_ ?_)
 all_goals try omega
 .intro ⟨g1,g2⟩
  repeat' (refine And.intro ?_ ?_)
  all_goals try omega
  .exact h12.trans (JK ah ah ah ah)
  .intro k hk hk2;rw [vJ ah ah ah ah hk,if_neg ah,if_neg ah];exact h13 k hk hk2
  .intro p q k1 k2 k3 k4 k5;rw [vJ ah ah ah ah ah,if_neg k4,vJ ah ah ah ah ah,if_neg k5];by_cases c1:p=j
   .rw [if_pos c1];by_cases c2:q=j
    .rw [if_pos c2];exact le_refl _
    .rw [if_neg c2];exact h14 _ _ ah ah ah ah ah
   .rw [if_neg c1];by_cases c2:q=j
    .rw [if_pos c2];exact h14 _ _ ah ah ah ah ah
    .rw [if_neg c2];exact h14 _ _ ah ah ah ah ah
  .intro q k1 k2;rw [vJ ah ah ah ah ah,if_pos rfl,vJ ah ah ah ah ah,if_neg ah];by_cases c2:q=j
   .rw [if_pos c2];exact le_of_lt g2
   .rw [if_neg c2];exact h15 q ah k2
 .intro g;refine⟨⟨ah,ah,h12,h13,?_⟩,ah⟩;have hj:a''<j->le ((e').getD (j-1).toNat default) ((e').getD (j).toNat default):=λc=>rV (by
   simp only [decide_eq_true c,Bool.true_and,decide_eq_false_iff_not]at g;exact g)
  intro p q k1 k2 k3;by_cases c1:p=j
  .subst c1;by_cases c2:q=p
   .rw [c2];exact le_refl _
   .exact h15 q ah ah
  .by_cases c2:q=j
   .subst c2;by_cases c3:p=q-1
    .rw [c3];exact hj ah
    .exact(h14 p (q-1) k1 ah ah c1 ah).trans (hj ah)
   .exact h14 p q k1 k2 ah c1 c2
def half{x:Int}(h1:0<=x)(h2:x<=4000000000):IntKind.i64.wrap (lC .shr .u64 (IntKind.u64.wrap x) 1)=x/2:=by grind [IntKind.wrap,IntKind.bits,IntKind.signed,lC,min,Int.toNat,Int.fdiv_eq_ediv_of_nonneg,w64]
structure Mrg(d d':List aA)(a b:Int):Prop where
 sm:Sm d d'
 out:Out d d' a b
 ins:∀k,a<=k->k<b->∃j,a<=j/\j<b/\((d').getD (k).toNat default)=((d).getD (j).toNat default)
 srt:ou d' a b
structure EP(a m b:Int)(d:List aA):Prop where
 sh:Sh d
 h1:0<=a
 h2:a<m
 h3:m<b
 h4:b<=d.length
 s1:ou d a m
 s2:ou d m b
def Bh{P Q:Prop}[Decidable P][Decidable Q]:((decide P&&decide Q)=false)↔¬(P/\Q):=by simp_all
def L9{p2:Int×Int×Int×List aA×Unit->Bool}{f2:Int×Int×Int×List aA×Unit->List aA×Unit}
    (hp2:∀(a m b:Int) (d:List aA),d.length<1000000000->0<=a->a<m->m<b->b<=d.length->p2 (a,m,b,d,())=true) (hf2:∀(a m b:Int) (d:List aA),d.length<1000000000->0<=a->a<m->m<b->b<=d.length->Rot d (f2 (a,m,b,d,())).1 a m b)
    {p3:Int×Int×Int×List aA×Unit->Bool} {f3:Int×Int×Int×List aA×Unit->List aA×Unit}
    (K:Int) (hp3:∀(a m b:Int) (d:List aA),EP a m b d->b-a<K->p3 (a,m,b,d,())=true) (hf3:∀(a m b:Int) (d:List aA),EP a m b d->b-a<K->Mrg d (f3 (a,m,b,d,())).1 a b)
    (a m b mid i E:Int) (d:List aA) (hd:EP a m b d) (hK:b-a<=K) (hmid:mid=(a+b)/2) (hE:E=mid+m-i)
    (b1:a<=i) (b2:i<=m) (b3:m<=E) (b4:E<=b) (b5:a<mid) (b6:mid<b)
    (fA:i=a\/E=b\/le ((d).getD (i-1).toNat default) ((d).getD (E).toNat default)) (fB:E=m\/i=m\/le ((d).getD (E-1).toNat default) ((d).getD (i).toNat default)):
      (i<m/\m<E->
          p2 (i,m,E,d,())=true/\
            (a<i/\i<mid->
                p3 (a,i,mid,(f2 (i,m,E,d,())).fst,())=true/\
                  (mid<E/\E<b->
                      p3 (mid,E,b,(f3 (a,i,mid,(f2 (i,m,E,d,())).fst,())).fst,())=true/\
                        Mrg d (f3 (mid,E,b,(f3 (a,i,mid,(f2 (i,m,E,d,())).fst,())).fst,())).fst
                          a b)/\
                    ((decide (mid<E)&&decide (E<b))=false->
                      Mrg d (f3 (a,i,mid,(f2 (i,m,E,d,())).fst,())).fst a b))/\
              ((decide (a<i)&&decide (i<mid))=false->
                (mid<E/\E<b->
                    p3 (mid,E,b,(f2 (i,m,E,d,())).fst,())=true/\
                      Mrg d (f3 (mid,E,b,(f2 (i,m,E,d,())).fst,())).fst a b)/\
                  ((decide (mid<E)&&decide (E<b))=false->
                    Mrg d (f2 (i,m,E,d,())).fst a b)))/\
        ((decide (i<m)&&decide (m<E))=false->
          (a<i/\i<mid->
              p3 (a,i,mid,d,())=true/\
                (mid<E/\E<b->
                    p3 (mid,E,b,(f3 (a,i,mid,d,())).fst,())=true/\
                      Mrg d (f3 (mid,E,b,(f3 (a,i,mid,d,())).fst,())).fst a b)/\
                  ((decide (mid<E)&&decide (E<b))=false->
                    Mrg d (f3 (a,i,mid,d,())).fst a b))/\
            ((decide (a<i)&&decide (i<mid))=false->
              (mid<E/\E<b->
                  p3 (mid,E,b,d,())=true/\Mrg d (f3 (mid,E,b,d,())).fst a b)/\
                ((decide (mid<E)&&decide (E<b))=false->Mrg d d a b))):=by
  obtain⟨hs,h1,h2,h3,h4,hA,hB⟩:=hd;have hlen:=hs.1;have cross:∀x y,((a<=x/\x<i)\/(m<=x/\x<E))->((i<=y/\y<m)\/(E<=y/\y<b))->le ((d).getD (x).toNat default) ((d).getD (y).toNat default):=by
    rintro x y (hx | hx) (hy | hy)
    · exact hA x y hx.1 ah hy.2
    · rcases fA with fA | fA | fA
      · omega
      · omega
      · exact((hA x (i-1) hx.1 ah ah).trans fA).trans (hB E y b3 hy.1 hy.2)
    · rcases fB with fB | fB | fB
      · omega
      · omega
      · exact((hB x (E-1) hx.1 ah ah).trans fB).trans (hA i y b1 hy.1 hy.2)
    · exact hB x y hx.1 ah hy.2
  have ahM : ∀ e, Rot d e i m E -> ∀ R : Prop, R = Mrg d e a b -> (a < i /\ i < mid ->
              p3 (a,i,mid,e,())=true/\
                (mid<E/\E<b->
                    p3 (mid,E,b,(f3 (a,i,mid,e,())).fst,())=true/\
                      Mrg d (f3 (mid,E,b,(f3 (a,i,mid,e,())).fst,())).fst a b)/\
                  ((decide (mid<E)&&decide (E<b))=false->
                    Mrg d (f3 (a,i,mid,e,())).fst a b))/\
            ((decide (a<i)&&decide (i<mid))=false->
              (mid<E/\E<b->
                  p3 (mid,E,b,e,())=true/\Mrg d (f3 (mid,E,b,e,())).fst a b)/\
                ((decide (mid<E)&&decide (E<b))=false->R)):=by
    rintro e ⟨r1,r2⟩ R rfl;have hle:=r1.1;have hes:=r1.sh hs;have lo:∀k,a<=k->k<mid->∃x,((a<=x/\x<i)\/(m<=x/\x<E))/\((e).getD (k).toNat default)=((d).getD (x).toNat default):=by
      intro k k1 k2;rw [r2 k ah];by_cases c1:i<=k/\k<i+(E-m)
      · grind
      · rw [if_neg c1,if_neg ah];exact⟨k,ah,rfl⟩
    have hi:∀k,mid<=k->k<b->∃x,((i<=x/\x<m)\/(E<=x/\x<b))/\((e).getD (k).toNat default)=((d).getD (x).toNat default):=by
      intro k k1 k2;rw [r2 k ah,if_neg ah];by_cases c1:i+(E-m)<=k/\k<E
      all_goals grind
    have S1:ou e a i:=by
      intro p q q1 q2 q3;rw [r2 p ah,r2 q ah,if_neg ah,if_neg ah,if_neg ah,if_neg ah];exact hA p q q1 q2 ah
    have S2:ou e i mid:=by
      intro p q q1 q2 q3;rw [r2 p ah,r2 q ah,if_pos ah,if_pos ah];exact hB _ _ ah ah ah
    have S3:ou e mid E:=by
      intro p q q1 q2 q3;rw [r2 p ah,r2 q ah,if_neg ah,if_pos ah,if_neg ah,if_pos ah];exact hA _ _ ah ah ah
    have S4:ou e E b:=by
      intro p q q1 q2 q3;rw [r2 p ah,r2 q ah,if_neg ah,if_neg ah,if_neg ah,if_neg ah];exact hB _ _ ah ah ah
    have fin:∀e1 e2,Mrg e e1 a mid->Mrg e1 e2 mid b->Mrg d e2 a b:=by
      intro e1 e2 m1 m2;refine⟨(r1.trans m1.sm).trans m2.sm,λk k1 k2=> ?_,λk k1 k2=> ?_,λp q q1 q2 q3=> ?_⟩
      · rw [m2.out k k1 ah,m1.out k k1 ah,r2 k k1,if_neg ah,if_neg ah]
      · by_cases c:k<mid
        · rw [m2.out k ah ah];obtain⟨j,j1,j2,j3⟩:=m1.ins k k1 c;obtain⟨x,x1,x2⟩:=lo j j1 j2;rw [j3,x2];exact⟨x,ah,ah,rfl⟩
        · obtain⟨j,j1,j2,j3⟩:=m2.ins k ah k2;rw [j3,m1.out j ah ah];obtain⟨x,x1,x2⟩:=hi j j1 j2;rw [x2];exact⟨x,ah,ah,rfl⟩
      · by_cases c:q<mid
        · rw [m2.out p ah ah,m2.out q ah ah];exact m1.srt p q q1 q2 c
        · by_cases c2:mid<=p
          · exact m2.srt p q c2 q2 q3
          · rw [m2.out p ah ah];obtain⟨j,j1,j2,j3⟩:=m1.ins p q1 ah;obtain⟨x,x1,x2⟩:=lo j j1 j2;obtain⟨j',j1',j2',j3'⟩:=m2.ins q ah q3;obtain⟨x',x1',x2'⟩:=hi j' j1' j2';rw [j3,x2,j3',m1.out j' ah ah,x2'];exact cross x x' x1 x1'
    have triv:∀e' a' b',ou e' a' b'->Mrg e' e' a' b':=λe' a' b' h=>⟨Sm.refl _,λ_ _ _=>rfl,λk k1 k2=>⟨k,k1,k2,rfl⟩,h⟩
    have last : ∀ e1, Mrg e e1 a mid -> (mid < E /\ E < b ->
                    p3 (mid,E,b,e1,())=true/\
                      Mrg d (f3 (mid,E,b,e1,())).fst a b)/\
                  ((decide (mid<E)&&decide (E<b))=false->
                    Mrg d e1 a b):=by
      intro e1 m1;have hle1:=m1.sm.1;have O:∀a' b',mid<=a'->b'<=b->ou e a' b'->ou e1 a' b':=λa' b' g1 g2 g p q q1 q2 q3=>by
        rw [m1.out p ah ah,m1.out q ah ah];exact g p q q1 q2 q3
      refine⟨λc=> ?_,λc=> ?_⟩
      · have pre:EP mid E b e1:=⟨m1.sm.sh hes,ah,c.1,c.2,ah,O _ _ ah ah S3,O _ _ ah ah S4⟩;exact⟨hp3 _ _ _ _ pre ah,fin _ _ m1 (hf3 _ _ _ _ pre ah)⟩
      · rw [Bh]at c;refine fin _ _ m1 (triv _ _ _ ?_);by_cases c2:mid<E
        · have:E=b:=by omega
          subst this;exact O _ _ ah ah S3
        · have:E=mid:=by omega
          rw [this]at S4;exact O _ _ ah ah S4
    refine⟨λc=> ?_,λc=> ?_⟩
    · have pre:EP a i mid e:=⟨hes,ah,c.1,c.2,ah,S1,S2⟩;exact⟨hp3 _ _ _ _ pre ah,last _ (hf3 _ _ _ _ pre ah)⟩
    · rw [Bh]at c;refine last e (triv _ _ _ ?_);by_cases c2:a<i
      · have:i=mid:=by omega
        rw [<-this];exact S1
      · have:i=a:=by omega
        rw [this]at S2;exact S2
  refine⟨λc=>⟨hp2 _ _ _ _ hlen ah c.1 c.2 ah,ahM _ (hf2 _ _ _ _ hlen ah c.1 c.2 ah) _ rfl⟩,λc=>ahM d ?_ _ rfl⟩;rw [Bh]at c;refine⟨Sm.refl _,λk k1=> ?_⟩
  repeat' split
  all_goals first | rfl | (exfalso;omega) | (congr 2;omega)
theorem aeI{p f}{p2:Int×Int×Int×List aA×Unit->Bool}{f2:Int×Int×Int×List aA×Unit->List aA×Unit}{p3:Int×Int×Int×List aA×Unit->Bool}{f3:Int×Int×Int×List aA×Unit->List aA×Unit}(U:Y20 p f)(U2:∀(a m b:Int) (d:List aA),d.length<1000000000->0<=a->a<m->m<b->b<=d.length->p2 (a,m,b,d,())=true/\Rot d (f2 (a,m,b,d,())).1 a m b)(K:Int)(U3:∀(a m b:Int) (d:List aA),EP a m b d->b-a<K->p3 (a,m,b,d,())=true/\Mrg d (f3 (a,m,b,d,())).1 a b)(a m b:Int)(d:List aA)(hd:EP a m b d)(hK:b-a<=K):
  EM.F (p,f,p2,f2,p3,f3,()) (a,m,b,d,()) (λy=>Mrg d y.1 a b):=by
 obtain⟨hs,h1,h2,h3,h4,hA,hB⟩:=hd;have hlen:=hs.1;dsimp only [EM,gm];simp (disch:=omega) only [RR];refine⟨λh5=> ?_,λh5=>⟨λh6=> ?_,λh6=> ?_⟩⟩
 ·
  have hm:m=a+1:=by omega
  subst hm
  refine aQ (λ(y:Int×Int×Int×List aA×Unit)=>y.1=a/\y.2.2.2.1=d/\a+1<=y.2.1/\y.2.1<=y.2.2.1/\y.2.2.1<=b/\(∀q,a+1<=q->q<y.2.1->dX ((d).getD (q).toNat default).atoms ((d).getD (a).toNat default).atoms<0)/\(∀q,y.2.2.1<=q->q<b->¬dX ((d).getD (q).toNat default).atoms ((d).getD (a).toNat default).atoms<0)) (λy=>(y.2.2.1-y.2.1).toNat)
   ⟨rfl,rfl,by simp,by simp;omega,by simp,λq g1 g2=>by dsimp only at g2;omega,λq g1 g2=>by dsimp only at g1;omega⟩ ?_
  rintro⟨(a':Int),(i:Int),(j:Int),(d':List aA),⟨⟩⟩ hI;dsimp only at hI ⊢;obtain⟨rfl,rfl,g1,g2,g3,g4,g5⟩:=hI;simp (disch:=omega) only [RR,half,U _ _ (hs.at _)];refine⟨λg6=>⟨ah,ah,ah,ah,ah,ah,ah,ah,ah,λg7=>⟨⟨ah,ah,ah,λq k1 k2=> ?_,g5⟩,ah⟩,λg7=>⟨⟨ah,ah,ah,g4,λq k1 k2=> ?_⟩,ah⟩⟩,λg6=> ?_⟩
  .exact eX (hB q ((i+j)/2) k1 ah ah) g7
  .intro g8;exact g7 (eX (hB ((i+j)/2) q ah ah k2) g8)
  have hij:i=j:=by omega
  subst hij
  refine aQ (λ(y:Int×Int×List aA×Unit)=>y.1=i/\a'<=y.2.1/\y.2.1<=i-1/\Sm d' y.2.2.1/\(∀k,0<=k->((y.2.2.1).getD (k).toNat default)=if a'<=k/\k<y.2.1 then((d').getD (k+1).toNat default)else if k=y.2.1 then((d').getD (a').toNat default)else((d').getD (k).toNat default))) (λy=>(i-y.2.1).toNat)
   ⟨rfl,by simp,by simp;omega,Sm.refl _,λk hk=>by dsimp only;rw [if_neg ah];split;(· congr 2);(· rfl)⟩ ?_
  rintro⟨(i':Int),(k:Int),(e:List aA),⟨⟩⟩ hI;dsimp only at hI ⊢;obtain⟨rfl,k1,k2,k3,k4⟩:=hI;have hle:=k3.1;simp (disch:=omega) only [RR,List.length_set];have e1:(e.set k.toNat ((e).getD (k+1).toNat default)).set (k+1).toNat ((e).getD (k).toNat default)=swp e k (k+1):=rfl;rw [e1];refine⟨λg7=>⟨ah,ah,ah,ah,ah,ah,ah,ah,ah,ah,ah,ah,ah,ah,ah,ah,⟨ah,ah,k3.trans (JK ah ah ah ah),λq hq=> ?_⟩,ah⟩,λg7=> ?_⟩
  .rw [vJ ah ah ah ah hq,k4 _ ah,k4 _ ah,k4 _ hq]
   repeat' split
   all_goals grind
  .have hk:k=i'-1:=by omega
   subst hk;refine⟨k3,λq hq hq2=> ?_,λq hq hq2=> ?_,λq r q1 q2 q3=> ?_⟩
   .rw [k4 q hq,if_neg ah,if_neg ah]
   .rw [k4 q ah]
    repeat' split
    .exact⟨q+1,ah,ah,rfl⟩
    .exact⟨a',ah,ah,rfl⟩
    .exact⟨q,ah,ah,rfl⟩
   .rw [k4 q ah,k4 r ah];by_cases c1:a'<=q/\q<i'-1
    .rw [if_pos c1];by_cases c2:a'<=r/\r<i'-1
     .rw [if_pos c2];exact hB _ _ ah ah ah
     .rw [if_neg c2];by_cases c3:r=i'-1
      .rw [if_pos c3];exact le_of_lt (g4 _ ah ah)
      .rw [if_neg c3];exact hB _ _ ah ah ah
    .rw [if_neg c1,if_neg (by omega:¬(a'<=r/\r<i'-1))];by_cases c3:q=i'-1
     .rw [if_pos c3];by_cases c4:r=i'-1
      .rw [if_pos c4];exact le_refl _
      .rw [if_neg c4];exact rV (g5 r ah ah)
     .rw [if_neg c3,if_neg ah];exact hB _ _ ah ah ah
 ·
  have hm:b=m+1:=by omega
  subst hm
  refine aQ (λ(y:Int×Int×Int×List aA×Unit)=>y.1=m/\y.2.2.2.1=d/\a<=y.2.1/\y.2.1<=y.2.2.1/\y.2.2.1<=m/\(∀q,a<=q->q<y.2.1->¬dX ((d).getD (m).toNat default).atoms ((d).getD (q).toNat default).atoms<0)/\(∀q,y.2.2.1<=q->q<m->dX ((d).getD (m).toNat default).atoms ((d).getD (q).toNat default).atoms<0)) (λy=>(y.2.2.1-y.2.1).toNat)
   ⟨rfl,rfl,by simp,by simp;omega,by simp,λq g1 g2=>by dsimp only at g2;omega,λq g1 g2=>by dsimp only at g1;omega⟩ ?_
  rintro⟨(m':Int),(i:Int),(j:Int),(d':List aA),⟨⟩⟩ hI;dsimp only at hI ⊢;obtain⟨rfl,rfl,g1,g2,g3,g4,g5⟩:=hI;simp (disch:=omega) only [RR,half,U _ _ (hs.at _)];refine⟨λg6=>⟨ah,ah,ah,ah,ah,ah,ah,ah,ah,λg7=>⟨⟨ah,ah,ah,λq k1 k2=> ?_,g5⟩,ah⟩,λg7=>⟨⟨ah,ah,ah,g4,λq k1 k2=> ?_⟩,ah⟩⟩,λg6=> ?_⟩
  .intro g8;have:=hA q ((i+j)/2) k1 ah ah;apply g7;have h7:=lV g8 this;exact h7
  .exact lV g7 (hA ((i+j)/2) q ah ah k2)
  have hij:i=j:=by omega
  subst hij
  refine aQ (λ(y:Int×Int×List aA×Unit)=>y.1=i/\i<=y.2.1/\y.2.1<=m'/\Sm d' y.2.2.1/\(∀k,0<=k->((y.2.2.1).getD (k).toNat default)=if y.2.1<k/\k<=m' then((d').getD (k-1).toNat default)else if k=y.2.1 then((d').getD (m').toNat default)else((d').getD (k).toNat default))) (λy=>(y.2.1-i).toNat)
   ⟨rfl,by simp;omega,by simp,Sm.refl _,λk hk=>by dsimp only;rw [if_neg ah];split;(· congr 2);(· rfl)⟩ ?_
  rintro⟨(i':Int),(k:Int),(e:List aA),⟨⟩⟩ hI;dsimp only at hI ⊢;obtain⟨rfl,k1,k2,k3,k4⟩:=hI;have hle:=k3.1;simp (disch:=omega) only [RR,List.length_set];have e1:(e.set k.toNat ((e).getD (k-1).toNat default)).set (k-1).toNat ((e).getD (k).toNat default)=swp e k (k-1):=rfl;rw [e1];refine⟨λg7=>⟨ah,ah,ah,ah,ah,ah,ah,ah,ah,ah,ah,ah,ah,ah,ah,ah,⟨ah,ah,k3.trans (JK ah ah ah ah),λq hq=> ?_⟩,ah⟩,λg7=> ?_⟩
  .rw [vJ ah ah ah ah hq,k4 _ ah,k4 _ ah,k4 _ hq]
   repeat' split
   all_goals first | rfl | (exfalso;omega) | (congr 2;omega)
  .have hk:k=i':=by omega
   subst hk;refine⟨k3,λq hq hq2=> ?_,λq hq hq2=> ?_,λq r q1 q2 q3=> ?_⟩
   .rw [k4 q hq,if_neg ah,if_neg ah]
   .rw [k4 q ah]
    repeat' split
    .exact⟨q-1,ah,ah,rfl⟩
    .exact⟨m',ah,ah,rfl⟩
    .exact⟨q,ah,ah,rfl⟩
   .rw [k4 q ah,k4 r ah];by_cases c1:k<q/\q<=m'
    .rw [if_pos c1,if_pos ah];exact hA _ _ ah ah ah
    .rw [if_neg c1];by_cases c3:q=k
     .rw [if_pos c3];by_cases c2:k<r/\r<=m'
      .rw [if_pos c2];exact le_of_lt (g5 _ ah ah)
      .rw [if_neg c2,if_pos ah];exact le_refl _
     .rw [if_neg c3];by_cases c2:k<r/\r<=m'
      .rw [if_pos c2];exact hA _ _ ah ah ah
      .rw [if_neg c2];by_cases c4:r=k
       .rw [if_pos c4];exact rV (g4 _ ah ah)
       .rw [if_neg c4];exact hA _ _ ah ah ah
 ·
  simp (disch:=omega) only [RR,half];refine⟨ah,λh7=> ?_,λh7=> ?_⟩
  .refine aQ (λ(y:Int×Int×Int×Int×Int×Int×Int×Int×List aA×Unit)=>y.1=a/\y.2.1=m/\y.2.2.1=b/\y.2.2.2.1=(a+b)/2/\y.2.2.2.2.1=(a+b)/2+m/\y.2.2.2.2.2.2.2.1=(a+b)/2+m-1/\y.2.2.2.2.2.2.2.2.1=d/\(a+b)/2+m-b<=y.2.2.2.2.2.1/\y.2.2.2.2.2.1<=y.2.2.2.2.2.2.1/\y.2.2.2.2.2.2.1<=(a+b)/2
     /\(∀q,(a+b)/2+m-b<=q->q<y.2.2.2.2.2.1->¬dX ((d).getD ((a+b)/2+m-1-q).toNat default).atoms ((d).getD (q).toNat default).atoms<0)/\(∀q,y.2.2.2.2.2.2.1<=q->q< (a+b)/2->dX ((d).getD ((a+b)/2+m-1-q).toNat default).atoms ((d).getD (q).toNat default).atoms<0)) (λy=>(y.2.2.2.2.2.2.1-y.2.2.2.2.2.1).toNat)
    ⟨rfl,rfl,rfl,rfl,rfl,rfl,rfl,by simp,by simp;omega,by simp,λq g1 g2=>by dsimp only at g2;omega,λq g1 g2=>by dsimp only at g1;omega⟩ ?_
   rintro⟨(a':Int),(m':Int),(b':Int),(mid:Int),(n:Int),(i:Int),(j:Int),(r:Int),(d':List aA),⟨⟩⟩ hI;dsimp only at hI ⊢;obtain⟨rfl,rfl,rfl,hmid,hn,hr,rfl,g1,g2,g3,g4,g5⟩:=hI;rw [<-hmid]at g1 g3 g4 g5 h7;simp (disch:=omega) only [RR,half,U _ _ (hs.at _)];refine⟨λg6=>⟨ah,ah,ah,ah,ah,ah,ah,ah,ah,λg7=>⟨⟨hmid,hn,hr,ah,ah,ah,λq k1 k2=> ?_,by rw [<-hmid];exact g5⟩,ah⟩,λg7=>⟨⟨hmid,hn,hr,ah,ah,ah,by rw [<-hmid];exact g4,λq k1 k2=> ?_⟩,ah⟩⟩,λg6=> ?_⟩
   .rw [<-hmid]at k1 ⊢;intro g8;apply g7;rw [hr,<-hmid];exact eX (hB _ _ ah ah ah) (lV g8 (hA _ _ ah ah ah))
   .rw [<-hmid]at k2 ⊢;rw [hr,<-hmid]at g7;exact eX (hB _ _ ah ah ah) (lV g7 (hA _ _ ah ah ah))
   .have hij:i=j:=by omega
    subst hij;refine L9 (λz1 z2 z3 z4 z5 z6 z7 z8 z9=>(U2 z1 z2 z3 z4 z5 z6 z7 z8 z9).1) (λz1 z2 z3 z4 z5 z6 z7 z8 z9=>(U2 z1 z2 z3 z4 z5 z6 z7 z8 z9).2) K (λz1 z2 z3 z4 z5 z6=>(U3 z1 z2 z3 z4 z5 z6).1) (λz1 z2 z3 z4 z5 z6=>(U3 z1 z2 z3 z4 z5 z6).2) a' m' b' mid i (n-i) d' ⟨hs,h1,h2,h3,h4,hA,hB⟩ hK hmid ah ah ah ah ah ah ah ?_ ?_
    .by_cases c:i=mid+m'-b'
     .first | exact Or.inl ah | exact Or.inr (Or.inl ah)
     .refine Or.inr (Or.inr ?_);have:=g4 (i-1) ah ah;rw [show mid+m'-1- (i-1)=n-i by omega]at this;exact rV this
    .by_cases c:i=mid
     .first | exact Or.inl ah | exact Or.inr (Or.inl ah)
     .refine Or.inr (Or.inr ?_);have:=g5 i ah ah;rw [show mid+m'-1-i=n-i-1 by omega]at this;exact le_of_lt this
  .refine aQ (λ(y:Int×Int×Int×Int×Int×Int×Int×Int×List aA×Unit)=>y.1=a/\y.2.1=m/\y.2.2.1=b/\y.2.2.2.1=(a+b)/2/\y.2.2.2.2.1=(a+b)/2+m/\y.2.2.2.2.2.2.2.1=(a+b)/2+m-1/\y.2.2.2.2.2.2.2.2.1=d/\a<=y.2.2.2.2.2.1/\y.2.2.2.2.2.1<=y.2.2.2.2.2.2.1/\y.2.2.2.2.2.2.1<=m
     /\(∀q,a<=q->q<y.2.2.2.2.2.1->¬dX ((d).getD ((a+b)/2+m-1-q).toNat default).atoms ((d).getD (q).toNat default).atoms<0)/\(∀q,y.2.2.2.2.2.2.1<=q->q<m->dX ((d).getD ((a+b)/2+m-1-q).toNat default).atoms ((d).getD (q).toNat default).atoms<0)) (λy=>(y.2.2.2.2.2.2.1-y.2.2.2.2.2.1).toNat)
    ⟨rfl,rfl,rfl,rfl,rfl,rfl,rfl,by simp,by simp;omega,by simp,λq g1 g2=>by dsimp only at g2;omega,λq g1 g2=>by dsimp only at g1;omega⟩ ?_
   rintro⟨(a':Int),(m':Int),(b':Int),(mid:Int),(n:Int),(i:Int),(j:Int),(r:Int),(d':List aA),⟨⟩⟩ hI;dsimp only at hI ⊢;obtain⟨rfl,rfl,rfl,hmid,hn,hr,rfl,g1,g2,g3,g4,g5⟩:=hI;rw [<-hmid]at g4 g5 h7;simp (disch:=omega) only [RR,half,U _ _ (hs.at _)];refine⟨λg6=>⟨ah,ah,ah,ah,ah,ah,ah,ah,ah,λg7=>⟨⟨hmid,hn,hr,ah,ah,ah,λq k1 k2=> ?_,by rw [<-hmid];exact g5⟩,ah⟩,λg7=>⟨⟨hmid,hn,hr,ah,ah,ah,by rw [<-hmid];exact g4,λq k1 k2=> ?_⟩,ah⟩⟩,λg6=> ?_⟩
   .rw [<-hmid];intro g8;apply g7;rw [hr,<-hmid];exact eX (hB _ _ ah ah ah) (lV g8 (hA _ _ ah ah ah))
   .rw [<-hmid];rw [hr,<-hmid]at g7;exact eX (hB _ _ ah ah ah) (lV g7 (hA _ _ ah ah ah))
   .have hij:i=j:=by omega
    subst hij;refine L9 (λz1 z2 z3 z4 z5 z6 z7 z8 z9=>(U2 z1 z2 z3 z4 z5 z6 z7 z8 z9).1) (λz1 z2 z3 z4 z5 z6 z7 z8 z9=>(U2 z1 z2 z3 z4 z5 z6 z7 z8 z9).2) K (λz1 z2 z3 z4 z5 z6=>(U3 z1 z2 z3 z4 z5 z6).1) (λz1 z2 z3 z4 z5 z6=>(U3 z1 z2 z3 z4 z5 z6).2) a' m' b' mid i (n-i) d' ⟨hs,h1,h2,h3,h4,hA,hB⟩ hK hmid ah ah ah ah ah ah ah ?_ ?_
    .by_cases c:i=a'
     .first | exact Or.inl ah | exact Or.inr (Or.inl ah)
     .refine Or.inr (Or.inr ?_);have:=g4 (i-1) ah ah;rw [show mid+m'-1- (i-1)=n-i by omega]at this;exact rV this
    .by_cases c:i=m'
     .first | exact Or.inl ah | exact Or.inr (Or.inl ah)
     .refine Or.inr (Or.inr ?_);have:=g5 i ah ah;rw [show mid+m'-1-i=n-i-1 by omega]at this;exact le_of_lt this
def wD{s a x:Int}(h:s ∣ a)(h1:a<x)(h2:x<a+s):¬s ∣ x:=λh3=>by
 have:=Int.le_of_dvd ah (Int.dvd_sub h3 h);omega
def ou.adj{d:List aA}{a b:Int}(h:∀p,a<=p->p+1<b->le ((d).getD (p).toNat default) ((d).getD (p+1).toNat default)):ou d a b:=by
 intro p q h1 h2 h3;obtain⟨n,hn⟩:∃n:Nat,q=p+n:=⟨(q-p).toNat,ah⟩;subst hn
 clear h2
 induction n with
 | zero=>rw [show p+((0:Nat):Int)=p by omega];exact le_refl _
 | succ n ih=>
  have:=h (p+n) ah ah;rw [show p+((n+1:Nat):Int)=p+n+1 by omega];exact(ih ah).trans this
def ou.at1{d:List aA}{a b p:Int}(h:ou d a b)(h1:a<=p)(h2:p+1<b):le ((d).getD (p).toNat default) ((d).getD (p+1).toNat default):=h p (p+1) h1 ah h2
def Bl(d:List aA)(s n:Int):Prop:=∀p,0<=p->p+1<n->¬s ∣ p+1->le ((d).getD (p).toNat default) ((d).getD (p+1).toNat default)
def aeJ{p:Int×Int×List aA×Unit->Bool}{f:Int×Int×List aA×Unit->List aA×Unit}{p3:Int×Int×Int×List aA×Unit->Bool}{f3:Int×Int×Int×List aA×Unit->List aA×Unit}(U:∀(a b:Int) (d:List aA),Sh d->0<=a->a<=b->b<=d.length->p (a,b,d,())=true/\Sm d (f (a,b,d,())).1/\Out d (f (a,b,d,())).1 a b/\ou (f (a,b,d,())).1 a b)(U3:∀(a m b:Int) (d:List aA),EP a m b d->p3 (a,m,b,d,())=true/\Mrg d (f3 (a,m,b,d,())).1 a b)(n:Int)(d:List aA)(hd:Sh d)(hn:n=d.length):
  PZ.F (p,f,p3,f3,()) (n,d,()) (λy=>Sm d y.1/\ou y.1 0 n):=by
 have hlen:=hd.1;dsimp only [PZ,gm];simp (disch:=omega) only [RR]
 refine aQ (λ(y:Int×Int×Int×Int×List aA×Unit)=>y.1=n/\y.2.1=20/\0<=y.2.2.1/\y.2.2.1<=n/\(20:Int) ∣ y.2.2.1/\y.2.2.2.1=y.2.2.1+20/\Sm d y.2.2.2.2.1/\Bl y.2.2.2.2.1 20 y.2.2.1) (λy=>(n+20-y.2.2.2.1).toNat)
  ⟨rfl,rfl,by simp,by simp;omega,⟨0,by simp⟩,rfl,Sm.refl _,λp h1 h2=>by dsimp only at h2;omega⟩ ?_
 rintro⟨(n':Int),(s:Int),(a:Int),(b:Int),(e:List aA),⟨⟩⟩ hI;dsimp only at hI ⊢;obtain⟨rfl,rfl,h1,h2,h3,rfl,h5,h6⟩:=hI;have hle:=h5.1;have hs:=h5.sh hd;simp (disch:=omega) only [RR];have bl:∀a c (e e':List aA),0<=a->(20:Int) ∣ a->c<=a+20->Bl e 20 a->Out e e' a c->ou e' a c->Bl e' 20 c:=by
  intro a c e e' c0 c1 c2 c3 c4 c5 q q1 q2 q3;by_cases k1:q+1<a
  .rw [c4 q q1 ah,c4 (q+1) ah ah];exact c3 q q1 k1 q3
  .exact c5.at1 ah q2
 refine⟨λh7=> ?_,λh7=> ?_⟩
 .obtain⟨t1,t2,t3⟩:=(U a (a+20) e hs h1 ah ah).2;exact⟨(U a (a+20) e hs h1 ah ah).1,⟨ah,ah,ah,h5.trans t1,bl a (a+20) _ _ h1 h3 ah h6 t2 t3⟩,ah⟩
 obtain⟨t1,t2,t3⟩:=(U a n' e hs h1 ah ah).2;refine⟨(U a n' e hs h1 ah ah).1,?_⟩;have t4:=bl a n' _ _ h1 h3 ah h6 t2 t3;generalize (f (a,n',e,())).1=e2 at t1 t2 t3 t4 ⊢;have u1:=h5.trans t1
 clear t1 t2 t3 h5 h6
 refine aQ (λ(y:Int×Int×List aA×Unit)=>y.1=n'/\0<y.2.1/\(y.2.1<=20\/y.2.1<=2*n')/\Sm d y.2.2.1/\Bl y.2.2.1 y.2.1 n') (λy=>(n'-y.2.1).toNat)
  ⟨rfl,by simp,Or.inl (by simp),u1,t4⟩ ?_
 rintro⟨(n:Int),(s:Int),(e3:List aA),⟨⟩⟩ hI;dsimp only at hI ⊢;obtain⟨rfl,g1,g2,g3,g4⟩:=hI;simp (disch:=omega) only [RR];refine⟨λg5=> ?_,λg5=>⟨g3,ou.adj λq q1 q2=>g4 q q1 q2 (wD (a:=0) ⟨0,by simp⟩ ah ah)⟩⟩
 refine aQ (λ(y:Int×Int×Int×Int×List aA×Unit)=>y.1=n/\y.2.1=s/\0<=y.2.2.1/\y.2.2.1<=n/\(2*s) ∣ y.2.2.1/\y.2.2.2.1=y.2.2.1+2*s/\Sm d y.2.2.2.2.1
   /\∀p,0<=p->p+1<n->¬(2*s) ∣ p+1->(p+1<y.2.2.1\/¬s ∣ p+1)->le ((y.2.2.2.2.1).getD (p).toNat default) ((y.2.2.2.2.1).getD (p+1).toNat default)) (λy=>(n+2*s-y.2.2.2.1).toNat)
  ⟨rfl,rfl,by simp,by simp;omega,⟨0,by simp⟩,by simp,g3,λq q1 q2 q3 q4=>g4 q q1 q2 (by dsimp only at q4;rcases q4 with q4 | q4;(· omega);(· exact q4))⟩ ?_
 rintro⟨(n':Int),(s':Int),(a:Int),(b:Int),(e4:List aA),⟨⟩⟩ hI;dsimp only at hI ⊢;obtain⟨rfl,rfl,k1,k2,k3,rfl,k5,k6⟩:=hI;have hle:=k5.1;have hs:=k5.sh hd;have ks:s' ∣ a:=Int.dvd_trans ⟨2,ah⟩ k3;simp (disch:=omega) only [RR];have blk:∀x,x<=n'->a+s'<x->x<=a+2*s'->EP a (a+s') x e4:=λx x1 x2 x3=>
  ⟨hs,k1,ah,x2,ah,ou.adj λq q1 q2=>by
   refine k6 q ah ah (wD k3 ah ah) (Or.inr (wD ks ah ah)),
   ou.adj λq q1 q2=>by
   refine k6 q ah ah (wD k3 ah ah) (Or.inr (wD (Int.dvd_add ks (Int.dvd_refl s')) ah ah))⟩
 have stp:∀x e5,x<=n'->(x=a+2*s'\/x=n')->x<=a+2*s'->Mrg e4 e5 a x->∀p,0<=p->p+1<n'->¬(2*s') ∣ p+1->(p+1<x\/¬s' ∣ p+1)->le ((e5).getD (p).toNat default) ((e5).getD (p+1).toNat default):=by
  intro x e5 x1 x2 x3 m1 q q1 q2 q3 q4;by_cases c1:q+1<a
  .rw [m1.out q q1 ah,m1.out (q+1) ah ah];exact k6 q q1 q2 q3 (Or.inl c1)
  .by_cases c2:q+1=a
   .rw [c2]at q3;exact absurd k3 q3
   .by_cases c3:q+1<x
    .exact m1.srt.at1 ah c3
    .by_cases c4:q+1=x
     .exfalso;rcases x2 with x2 | x2
      .rw [c4,x2]at q3;exact q3 (Int.dvd_add k3 (Int.dvd_refl _))
      .omega
     .rw [m1.out q q1 ah,m1.out (q+1) ah ah];refine k6 q q1 q2 q3 (Or.inr ?_);rcases q4 with q4 | q4
      .omega
      .exact q4
 refine⟨λk7=> ?_,λk7=>⟨λk8=> ?_,λk8=> ?_⟩⟩
 .have pre:=blk (a+2*s') k7 ah ah;have m1:=(U3 _ _ _ _ pre).2;exact⟨(U3 _ _ _ _ pre).1,⟨ah,ah,Int.dvd_add k3 (Int.dvd_refl _),k5.trans m1.sm,stp _ _ k7 (Or.inl rfl) ah m1⟩,ah⟩
 .have pre:=blk n' ah k8 ah;have m1:=(U3 _ _ _ _ pre).2;refine⟨(U3 _ _ _ _ pre).1,⟨ah,Or.inr ah,k5.trans m1.sm,λq q1 q2 q3=> ?_⟩,ah⟩;exact stp _ _ ah (Or.inr rfl) ah m1 q q1 q2 (by rw [Int.mul_comm];exact q3) (Or.inl q2)
 .refine⟨⟨ah,Or.inr ah,k5,λq q1 q2 q3=> ?_⟩,ah⟩;rw [Int.mul_comm]at q3;by_cases c1:q+1<a
  .exact k6 q q1 q2 q3 (Or.inl c1)
  .by_cases c2:q+1=a
   .rw [c2]at q3;exact absurd k3 q3
   .exact k6 q q1 q2 q3 (Or.inr (wD ks ah ah))
def aeK{p:Int×List aA×Unit->Bool}{f:Int×List aA×Unit->List aA×Unit}(U:∀(n:Int) (d:List aA),Sh d->n=d.length->p (n,d,())=true/\Sm d (f (n,d,())).1/\ou (f (n,d,())).1 0 n)(d:List aA)(hd:Sh d):
  P5.F (p,f,()) (d,()) (λy=>Sm d y.1/\ou y.1 0 d.length):=by
 have:=(U _ d hd rfl).2;dsimp only [P5,gm];exact⟨(U _ d hd rfl).1,this⟩
def cf(l:List aA)(k:List Int):Int:=(l.map λm=>if m.atoms=k then m.bU else 0).sum
theorem jG(k:List Int):cf [] k=0:=rfl
def bQ(m:aA)(l:List aA)(k:List Int):cf (m::l) k=(if m.atoms=k then m.bU else 0)+cf l k:=by simp [cf]
def dY(a b:List aA)(k:List Int):cf (a++b) k=cf a k+cf b k:=by simp [cf]
def iq{k:List Int}:∀ {l:List aA},(∀m∈l,m.atoms≠k)->cf l k=0
 | [],_=>rfl
 | m::l,h=>by rw [bQ,if_neg (h m (by simp)),iq (λm hm=>h m (by simp [hm]))];rfl
def Sm.cf{a b:List aA}(h:Sm a b)(k:List Int):cf b k=cf a k:=h.sum _
def lt(a b:aA):Prop:=dX a.atoms b.atoms<0
def lt.ne{a b:aA}(h:lt a b):a.atoms≠b.atoms:=λe=>by unfold lt at h;rw [e,iR.2 rfl]at h;omega
structure Nf(o:List aA):Prop where
 ss:o.Pairwise lt
 co:∀m∈o,1<=m.bU/\m.bU<=65535
def RO:∀ {o1 o2:List aA},Nf o1->Nf o2->(∀k,cf o1 k=cf o2 k)->o1=o2
 | [],[],_,_,_=>rfl
 | [],m::o,_,h2,h=>by
  have:=h m.atoms;rw [bQ,if_pos rfl,iq (λm' hm'=>((List.rel_of_pairwise_cons h2.ss hm').ne).symm),jG]at this;have:=(h2.co m (by simp));omega
 | m::o,[],h1,_,h=>by
  have:=h m.atoms;rw [bQ,if_pos rfl,iq (λm' hm'=>((List.rel_of_pairwise_cons h1.ss hm').ne).symm),jG]at this;have:=(h1.co m (by simp));omega
 | m1::o1,m2::o2,h1,h2,h=>by
  have c1:=h1.co m1 (by simp);have c2:=h2.co m2 (by simp);have z1:cf o1 m1.atoms=0:=iq λm' hm'=>((List.rel_of_pairwise_cons h1.ss hm').ne).symm
  have z2:cf o2 m2.atoms=0:=iq λm' hm'=>((List.rel_of_pairwise_cons h2.ss hm').ne).symm
  have tr:∀ {a b c:aA},lt a b->lt b c->lt a c:=λg1 g2=>eX (le_of_lt g1) g2
  have e:m1.atoms=m2.atoms:=by
   by_cases g1:lt m1 m2
   .have:=h m1.atoms;rw [bQ,if_pos rfl,z1,bQ,if_neg (λe=>g1.ne e.symm),iq (λm' hm'=>((tr g1 (List.rel_of_pairwise_cons h2.ss hm')).ne).symm)]at this;omega
   .by_cases g2:lt m2 m1
    .have:=h m2.atoms;rw [bQ,if_neg (λe=>g2.ne e.symm),iq (λm' hm'=>((tr g2 (List.rel_of_pairwise_cons h1.ss hm')).ne).symm),bQ,if_pos rfl,z2]at this;omega
    .unfold lt at g1 g2;rw [lU]at g2;exact iR.1 ah
  have ec:m1.bU=m2.bU:=by
   have:=h m1.atoms;rw [bQ,if_pos rfl,z1,bQ,if_pos e.symm,e,z2]at this;omega
  have em:m1=m2:=by cases m1;cases m2;simp_all
  subst em;refine congrArg _ (RO ⟨h1.ss.tail,λm hm=>h1.co m (by simp [hm])⟩ ⟨h2.ss.tail,λm hm=>h2.co m (by simp [hm])⟩ (λk=>by
   have:=h k;rw [bQ,bQ]at this;omega))
noncomputable def nf (l:List aA):List aA:= @dite _ (∃o,Nf o/\∀k,cf o k=cf l k%65536) (Classical.propDecidable _) (λh=>Classical.choose h) (λ_=> [])
def ER{l o:List aA}(h:Nf o)(h2:∀k,cf o k=cf l k%65536):nf l=o:=by
 have he:∃o,Nf o/\∀k,cf o k=cf l k%65536:=⟨o,h,h2⟩;unfold nf;rw [dif_pos he];have:=Classical.choose_spec he;exact RO this.1 h (λk=>(this.2 k).trans (h2 k).symm)
def Ma{l l':List aA}(h:∀k,cf l k%65536=cf l' k%65536):nf l=nf l':=by
 unfold nf;have:(λo=>Nf o/\∀k,cf o k=cf l k%65536)=(λo=>Nf o/\∀k,cf o k=cf l' k%65536):=by funext o;simp only [h]
 have e:(∃o,Nf o/\∀k,cf o k=cf l k%65536)=(∃o,Nf o/\∀k,cf o k=cf l' k%65536):=congrArg Exists this;by_cases h1:∃o,Nf o/\∀k,cf o k=cf l k%65536
 .rw [dif_pos h1,dif_pos (e▸h1)];congr 1
 .rw [dif_neg h1,dif_neg (e▸h1)]
noncomputable def lY (l:List aA):Bool×List aA:=(bp (bK (nf l)),if bp (bK (nf l))then nf l else [])
def Cb(l:List aA):Prop:=∀m∈l,0<=m.bU/\m.bU<=65535
def ahN{p1 f1 p2 f2 p3 f3 p4 f4}{p5:List aA×Unit->Bool}{f5:List aA×Unit->List aA×Unit}(U1:Y7 p1 f1)(U2:Y11 p2 f2)(U3:Y10 p3 f3)(U4:Y12 p4 f4)(U5:∀d,Sh d->p5 (d,())=true/\Sm d (f5 (d,())).1/\ou (f5 (d,())).1 0 d.length)(l:List aA)(hl:Sh l)(hc:Cb l):Xz.F (p1,f1,p2,f2,p3,f3,p4,f4,p5,f5,()) (l,()) (λy=>y.1=(lY l).1/\y.2.2.1=(lY l).2):=by
 obtain⟨s1,s2⟩:=(U5 l hl).2;dsimp only [Xz,gm];simp (disch:=omega) only [RR,(U5 l hl).1];generalize (f5 (l,())).1=d at s1 s2 ⊢;have hle:=s1.1;have hs:=s1.sh hl;have hlen:=hs.1;have hcd:Cb d:=λm hm=>hc m (s1.mem hm)
 refine aQ (λ(y:Int×List aA×List aA×Unit)=>0<=y.1/\y.1<=d.length/\y.2.1=d/\Nf y.2.2.1/\y.2.2.1.length<=y.1/\(∀k,cf y.2.2.1 k=cf (d.take y.1.toNat) k%65536)/\(∀m∈y.2.2.1,m∈y.2.2.1->m.atoms.length<1000000000)
   /\(y.1<d.length->(∀m∈y.2.2.1,lt m ((d).getD (y.1).toNat default))/\(∀m∈d.take y.1.toNat,lt m ((d).getD (y.1).toNat default)))) (λy=>(d.length-y.1).toNat)
  ⟨by simp,by simp,rfl,⟨List.Pairwise.nil,λm hm=>absurd hm (by simp)⟩,by simp,λk=>by simp [cf],λm hm=>absurd hm (by simp),λ_=>⟨λm hm=>absurd hm (by simp),λm hm=>absurd hm (by simp)⟩⟩ ?_
 rintro⟨(i:Int),(d':List aA),(o:List aA),⟨⟩⟩ hI;dsimp only at hI ⊢;obtain⟨h1,h2,rfl,h4,h5,h6,h7,h8⟩:=hI;have ho:Sh o:=⟨ah,λm hm=>h7 m hm hm⟩;simp (disch:=omega) only [RR,U2 o ho];refine⟨λh9=>⟨ah,ah,ah,ah,?_⟩,λh9=> ?_⟩
 .obtain⟨g1,g2⟩:=h8 h9;have z:cf (d'.take i.toNat) ((d').getD (i).toNat default).atoms=0:=iq λm hm=>(g2 m hm).ne
  refine aQ (λ(y:Int×Int×List aA×aA×List aA×Unit)=>i<=y.1/\y.1<=d'.length/\y.2.2.1=d'/\y.2.2.2.1=((d').getD (i).toNat default)/\y.2.2.2.2.1=o/\y.2.1=cf (d'.take y.1.toNat) ((d').getD (i).toNat default).atoms%65536
    /\(∀k,k≠((d').getD (i).toNat default).atoms->cf (d'.take y.1.toNat) k=cf (d'.take i.toNat) k)/\(∀m∈d'.take y.1.toNat,lt m ((d').getD (i).toNat default)\/m.atoms=((d').getD (i).toNat default).atoms)) (λy=>(d'.length-y.1).toNat)
   ⟨by simp,by simp;omega,rfl,rfl,rfl,by rw [z];rfl,λk _=>rfl,λm hm=>Or.inl (g2 m hm)⟩ ?_
  rintro⟨(j:Int),(c:Int),(d'':List aA),(fi:aA),(o':List aA),⟨⟩⟩ hI;dsimp only at hI ⊢;obtain⟨k1,k2,rfl,rfl,rfl,k6,k7,k8⟩:=hI;have hc0:0<=c/\c<65536:=by omega
  have hcj:j<d''.length->0<=((d'').getD (j).toNat default).bU/\((d'').getD (j).toNat default).bU<=65535:=λh=>hcd _ (fH ah h)
  simp (disch:=omega) only [RR,U1 _ _ (hs.at _),U3,U4 _ (Nat.le_trans (Nat.le_of_lt (hs.at _)) ah)];refine⟨ah,ah,ah,ah,λ⟨m1,m2⟩=> ?_,λm1=>⟨λm2=>⟨?_,?_,?_⟩,λm2=>⟨?_,?_⟩⟩⟩
  .have e:=iR.1 m2;have:=hcj m1;rw [w64 ah ah];have ts:d''.take (j+1).toNat=d''.take j.toNat++ [((d'').getD (j).toNat default)]:=(iE ah m1 rfl).symm;refine⟨ah,ah,ah,ah,⟨ah,ah,?_,λk hk=> ?_,λm hm=> ?_⟩,ah⟩
   .rw [ts,dY,bQ,if_pos e.symm,jG,k6];omega
   .rw [ts,dY,bQ,if_neg (λh=>hk (by rw [e,h])),jG,k7 k hk];omega
   .rw [ts,List.mem_append,List.mem_singleton]at hm;rcases hm with hm | hm
    .exact k8 m hm
    .right;rw [hm,e]
  all_goals
   have hb:j<d''.length->lt ((d'').getD (i).toNat default) ((d'').getD (j).toNat default):=λhj=>by
    rw [decide_eq_true hj,Bool.true_and,decide_eq_false_iff_not]at m1;have:=s2 i j h1 k1 ah;unfold le at this;unfold lt;omega
   have hij:i<j:=by
    by_cases hj:j<d''.length
    .by_cases e:i=j
     .have:=(hb hj).ne;rw [e]at this;exact absurd rfl this
     .omega
    .omega
  .simp only [List.length_append,List.length_cons,List.length_nil];omega
  .have co:∀k,cf (o'++ [⟨c,((d'').getD (i).toNat default).atoms⟩]) k=cf (d''.take j.toNat) k%65536:=λk=>by
    rw [dY,bQ,jG];dsimp only;by_cases hk:((d'').getD (i).toNat default).atoms=k
    .subst hk;rw [if_pos rfl,iq (λm hm=>(g1 m hm).ne),k6];omega
    .rw [if_neg hk,k7 k (λe=>hk e.symm),h6 k];omega
   refine⟨ah,ah,⟨?_,?_⟩,?_,co,?_,λhj=>⟨?_,?_⟩⟩
   .rw [List.pairwise_append];exact⟨h4.ss,List.pairwise_singleton _ _,λa ha b hb=>by rw [List.mem_singleton]at hb;subst hb;exact g1 a ha⟩
   .intro m hm;rw [List.mem_append,List.mem_singleton]at hm;rcases hm with hm | rfl
    .exact h4.co m hm
    .dsimp only;omega
   .simp only [List.length_append,List.length_cons,List.length_nil];omega
   .intro m hm _;rw [List.mem_append,List.mem_singleton]at hm;rcases hm with hm | rfl
    .exact h7 m hm hm
    .exact hs.at _
   .intro m hm;rw [List.mem_append,List.mem_singleton]at hm;rcases hm with hm | rfl
    .exact eX (le_of_lt (g1 m hm)) (hb hj)
    .exact hb hj
   .intro m hm;rcases k8 m hm with k | k
    .exact eX (le_of_lt k) (hb hj)
    .have:=hb hj;unfold lt at this ⊢;rw [k];exact this
  .omega
  .refine⟨ah,ah,h4,ah,λk=> ?_,h7,λhj=>⟨?_,?_⟩⟩
   .by_cases hk:((d'').getD (i).toNat default).atoms=k
    .subst hk;rw [iq (λm hm=>(g1 m hm).ne)];omega
    .rw [k7 k (λe=>hk e.symm),h6 k]
   .intro m hm;exact eX (le_of_lt (g1 m hm)) (hb hj)
   .intro m hm;rcases k8 m hm with k | k
    .exact eX (le_of_lt k) (hb hj)
    .have:=hb hj;unfold lt at this ⊢;rw [k];exact this
  .omega
 .have e:nf l=o:=ER h4 (λk=>by rw [h6 k,List.take_of_length_le ah,s1.cf k]);unfold lY;rw [e];refine⟨λh=> ?_,λh=> ?_⟩
  .rw [h];exact⟨rfl,by simp⟩
  .rw [h];exact⟨rfl,by simp⟩
def aeL(n:Int)(h1:0<=n)(h2:n<=1073741824):P6.F () (n,()) (λy=>y=([],())):=by
 dsimp only [P6,gm];simp (disch:=omega) only [RR];refine⟨λh=>by omega,λ_ h=> ?_⟩
 repeat' (refine And.intro ?_ ?_)
 all_goals first | omega | (rw [List.length_replicate];omega) | rfl
theorem ahO{p:Int×Unit->Bool}{f:Int×Unit->List aA×Unit}(U:∀n:Int,0<=n->n<=1073741824->p (n,())=true/\f (n,())=([],()))(a b:List aA)(ha:a.length<=100000000)(hb:b.length<=100000000):XA.F (p,f,()) ([a,b],()) (λy=>y=(a++b,())):=by
 dsimp only [XA,gm]
 refine aQ (λ(y:List (List aA)×Int×List (List aA)×Int×Int×Unit)=>y.1=[a,b]/\y.2.2.1=[a,b]/\y.2.2.2.1=2/\((y.2.2.2.2.1=0/\y.2.1=0)\/(y.2.2.2.2.1=1/\y.2.1=a.length)\/(y.2.2.2.2.1=2/\y.2.1=a.length+b.length))) (λy=>(2-y.2.2.2.2.1).toNat)
  ⟨rfl,rfl,rfl,Or.inl ⟨rfl,rfl⟩⟩ ?_
 rintro⟨(l:List (List aA)),(s:Int),(l2:List (List aA)),(n:Int),(i:Int),⟨⟩⟩ hI;dsimp only at hI ⊢;obtain⟨rfl,rfl,rfl,h⟩:=hI;simp (disch:=omega) only [RR];have g0: [a,b].getD (Int.toNat 0) default=a:=rfl;have g1: [a,b].getD (Int.toNat 1) default=b:=rfl;have gl:([a,b].length:Int)=2:=rfl;refine⟨λhi=> ?_,λhi=> ?_⟩
 .rcases h with⟨rfl,rfl⟩ | ⟨rfl,rfl⟩ | ⟨rfl,rfl⟩
  .rw [g0,w64 ah ah];exact⟨ah,ah,λh=>by omega,λh=>⟨Or.inr (Or.inl ⟨ah,ah⟩),ah⟩⟩
  .rw [g1,w64 ah ah];exact⟨ah,ah,λh=>by omega,λh=>⟨Or.inr (Or.inr ⟨ah,ah⟩),ah⟩⟩
  .omega
 .have hs:0<=s/\s<=200000000:=by omega
  refine⟨(U s ah ah).1,?_⟩;rw [(U s ah ah).2]
  refine aQ (λ(y:List (List aA)×Int×Int×List aA×Unit)=>y.1=[a,b]/\y.2.1=2/\((y.2.2.1=0/\y.2.2.2.1=[])\/(y.2.2.1=1/\y.2.2.2.1=a)\/(y.2.2.1=2/\y.2.2.2.1=a++b))) (λy=>(2-y.2.2.1).toNat)
   ⟨rfl,rfl,Or.inl ⟨rfl,rfl⟩⟩ ?_
  rintro⟨(l:List (List aA)),(n:Int),(j:Int),(o:List aA),⟨⟩⟩ hI;dsimp only at hI ⊢;obtain⟨rfl,rfl,h3⟩:=hI;simp (disch:=omega) only [RR];refine⟨λhj=> ?_,λhj=> ?_⟩
  .rcases h3 with⟨rfl,rfl⟩ | ⟨rfl,rfl⟩ | ⟨rfl,rfl⟩
   .rw [g0];exact⟨ah,ah,by simp only [List.length_nil];omega,Or.inr (Or.inl ⟨ah,rfl⟩),ah⟩
   .rw [g1];exact⟨ah,ah,ah,Or.inr (Or.inr ⟨ah,rfl⟩),ah⟩
   .omega
  .rcases h3 with⟨rfl,rfl⟩ | ⟨rfl,rfl⟩ | ⟨rfl,rfl⟩
   .omega
   .omega
   .rfl
def aeM(n:Int)(h1:0<=n)(h2:n<=1073741824):P7.F () (n,()) (λy=>y=([],())):=by
 dsimp only [P7,gm];simp (disch:=omega) only [RR];refine⟨λh=>by omega,λ_ h=> ?_⟩
 repeat' (refine And.intro ?_ ?_)
 all_goals first | omega | (rw [List.length_replicate];omega) | rfl
theorem ahP{p:Int×Unit->Bool}{f:Int×Unit->List Int×Unit}(U:∀n:Int,0<=n->n<=1073741824->p (n,())=true/\f (n,())=([],()))(a b:List Int)(ha:a.length<=100000000)(hb:b.length<=100000000):XD.F (p,f,()) ([a,b],()) (λy=>y=(a++b,())):=by
 dsimp only [XD,gm]
 refine aQ (λ(y:List (List Int)×Int×List (List Int)×Int×Int×Unit)=>y.1=[a,b]/\y.2.2.1=[a,b]/\y.2.2.2.1=2/\((y.2.2.2.2.1=0/\y.2.1=0)\/(y.2.2.2.2.1=1/\y.2.1=a.length)\/(y.2.2.2.2.1=2/\y.2.1=a.length+b.length))) (λy=>(2-y.2.2.2.2.1).toNat)
  ⟨rfl,rfl,rfl,Or.inl ⟨rfl,rfl⟩⟩ ?_
 rintro⟨(l:List (List Int)),(s:Int),(l2:List (List Int)),(n:Int),(i:Int),⟨⟩⟩ hI;dsimp only at hI ⊢;obtain⟨rfl,rfl,rfl,h⟩:=hI;simp (disch:=omega) only [RR];have g0: [a,b].getD (Int.toNat 0) default=a:=rfl;have g1: [a,b].getD (Int.toNat 1) default=b:=rfl;have gl:([a,b].length:Int)=2:=rfl;refine⟨λhi=> ?_,λhi=> ?_⟩
 .rcases h with⟨rfl,rfl⟩ | ⟨rfl,rfl⟩ | ⟨rfl,rfl⟩
  .rw [g0,w64 ah ah];exact⟨ah,ah,λh=>by omega,λh=>⟨Or.inr (Or.inl ⟨ah,ah⟩),ah⟩⟩
  .rw [g1,w64 ah ah];exact⟨ah,ah,λh=>by omega,λh=>⟨Or.inr (Or.inr ⟨ah,ah⟩),ah⟩⟩
  .omega
 .have hs:0<=s/\s<=200000000:=by omega
  refine⟨(U s ah ah).1,?_⟩;rw [(U s ah ah).2]
  refine aQ (λ(y:List (List Int)×Int×Int×List Int×Unit)=>y.1=[a,b]/\y.2.1=2/\((y.2.2.1=0/\y.2.2.2.1=[])\/(y.2.2.1=1/\y.2.2.2.1=a)\/(y.2.2.1=2/\y.2.2.2.1=a++b))) (λy=>(2-y.2.2.1).toNat)
   ⟨rfl,rfl,Or.inl ⟨rfl,rfl⟩⟩ ?_
  rintro⟨(l:List (List Int)),(n:Int),(j:Int),(o:List Int),⟨⟩⟩ hI;dsimp only at hI ⊢;obtain⟨rfl,rfl,h3⟩:=hI;simp (disch:=omega) only [RR];refine⟨λhj=> ?_,λhj=> ?_⟩
  .rcases h3 with⟨rfl,rfl⟩ | ⟨rfl,rfl⟩ | ⟨rfl,rfl⟩
   .rw [g0];exact⟨ah,ah,by simp only [List.length_nil];omega,Or.inr (Or.inl ⟨ah,rfl⟩),ah⟩
   .rw [g1];exact⟨ah,ah,ah,Or.inr (Or.inr ⟨ah,rfl⟩),ah⟩
   .omega
  .rcases h3 with⟨rfl,rfl⟩ | ⟨rfl,rfl⟩ | ⟨rfl,rfl⟩
   .omega
   .omega
   .rfl
def mOk.le{m:aA}(h:mOk m):m.atoms.length<=4:=h.2.1
def bK.at{p:List aA}(h:bK p){m:aA}(hm:m∈p):mOk m:=by
 obtain⟨i,hi,rfl⟩:=List.getElem_of_mem hm;have:=(h.1 i ah ah).1;rw [show(i:Int).toNat=i from rfl,getD_lt hi]at this;exact this
def bK.len{p:List aA}(h:bK p):p.length<=12:=h.2.1
noncomputable def mO (a b:List aA):Bool×List aA:=if bp (bK a)&&bp (bK b)then lY (a++b)else(false,[])
abbrev Y21(pp:List aA×Unit->Bool)(ff:List aA×Unit->Bool×List aA×List aA×Unit):Prop:=∀a,Sh a->Cb a->pp (a,())=true/\(ff (a,())).1=(lY a).1/\(ff (a,())).2.2.1=(lY a).2
def ahQ{p1 f1 p2 f2}{p3:List (List aA)×Unit->Bool}{f3:List (List aA)×Unit->List aA×Unit}(U1:Y11 p1 f1)(U2:Y21 p2 f2)(U3:∀a b:List aA,a.length<=100000000->b.length<=100000000->p3 ([a,b],())=true/\f3 ([a,b],())=(a++b,()))(a b:List aA)(ha:Sh a)(hb:Sh b):XC.F (p1,f1,p2,f2,p3,f3,()) (a,b,()) (λy=>y=((mO a b).1,(mO a b).2,())):=by
 dsimp only [XC,gm];simp (disch:=omega) only [RR,U1 a ha,U1 b hb,dh,lT];unfold mO;refine⟨λh=> ?_,λ⟨h1,h2⟩=> ?_⟩
 .rw [if_neg];rw [Bool.and_eq_true,dh,dh];rintro⟨g1,g2⟩;rcases h with h | h
  .exact h g1
  .exact h g2
 .have l1:=h1.len;have l2:=h2.len;rw [(U3 a b ah ah).1,(U3 a b ah ah).2];have hs:Sh (a++b):=⟨by rw [List.length_append];omega,λm hm=>by
   rw [List.mem_append]at hm;rcases hm with hm | hm
   .exact ha.2 m hm
   .exact hb.2 m hm⟩
  have hc:Cb (a++b):=λm hm=>by
   rw [List.mem_append]at hm;rcases hm with hm | hm
   .have:=(h1.at hm).1;omega
   .have:=(h2.at hm).1;omega
  obtain⟨g1,g2⟩:=(U2 _ hs hc).2;refine⟨rfl,(U2 _ hs hc).1,?_⟩;rw [if_pos (by rw [dO h1,dO h2];rfl),g1,g2]
def dS(l:List Int):List Int:=l.mergeSort λx y=>decide (x<=y)
def rW(l:List Int):(dS l).length=l.length:=List.length_mergeSort l
def mulM(m n:aA):aA:=⟨m.bU*n.bU%65536,dS (m.atoms++n.atoms)⟩
def prods(a b:List aA):List aA:=a.flatMap λm=>b.map (mulM m)
def ET(a b:List aA)(m:aA):prods (a++ [m]) b=prods a b++b.map (mulM m):=by simp [prods]
noncomputable def mP (a b:List aA):Bool×List aA:=if bp (bK a)&&bp (bK b)then lY (prods a b)else(false,[])
def JL{a b:Int}(h1:0<=a)(h2:a<=65535)(h3:0<=b)(h4:b<=65535):0<=a*b/\a*b<=65535*65535:=⟨Int.mul_nonneg h1 h3,Int.mul_le_mul h2 h4 h3 ah⟩
def ahR{p1 f1 p0 f0 p2 f2}{p3:List (List Int)×Unit->Bool}{f3:List (List Int)×Unit->List Int×Unit}{p4:List Int×Unit->Bool}{f4:List Int×Unit->List Int×Unit}(U1:Y11 p1 f1)(U0:Y10 p0 f0)(U2:Y21 p2 f2)(U3:∀a b:List Int,a.length<=100000000->b.length<=100000000->p3 ([a,b],())=true/\f3 ([a,b],())=(a++b,()))(U4:∀a:List Int,a.length<=8->p4 (a,())=true/\f4 (a,())=(dS a,()))(a b:List aA)(ha:Sh a)(hb:Sh b):XE.F (p1,f1,p0,f0,p2,f2,p3,f3,p4,f4,()) (a,b,()) (λy=>y=((mP a b).1,(mP a b).2,())):=by
 dsimp only [XE,gm];simp (disch:=omega) only [RR,U1 a ha,U1 b hb,dh,lT];unfold mP;refine⟨λh=> ?_,λ⟨h1,h2⟩=> ?_⟩
 .rw [if_neg];rw [Bool.and_eq_true,dh,dh];rintro⟨g1,g2⟩;rcases h with h | h
  .exact h g1
  .exact h g2
 have l1:=h1.len;have l2:=h2.len;rw [if_pos (by rw [dO h1,dO h2];rfl)];have mm:∀i j:Int,0<=i->i<a.length->0<=j->j<b.length->mOk ((a).getD (i).toNat default)/\mOk ((b).getD (j).toNat default):=λi j i1 i2 j1 j2=>⟨h1.at (fH i1 i2),h2.at (fH j1 j2)⟩
 refine aQ (λ(y:List aA×Int×Int×List aA×List aA×Unit)=>y.1=a/\y.2.1=a.length/\0<=y.2.2.1/\y.2.2.1<=a.length/\y.2.2.2.1=b/\y.2.2.2.2.1=prods (a.take y.2.2.1.toNat) b/\y.2.2.2.2.1.length<=12*y.2.2.1/\Sh y.2.2.2.2.1/\Cb y.2.2.2.2.1) (λy=>(a.length-y.2.2.1).toNat)
  ⟨rfl,rfl,by simp,by simp,rfl,rfl,by simp,⟨by simp,λm hm=>absurd hm (by simp)⟩,λm hm=>absurd hm (by simp)⟩ ?_
 rintro⟨(a':List aA),(n:Int),(i:Int),(b':List aA),(o:List aA),⟨⟩⟩ hI;dsimp only at hI ⊢;obtain⟨rfl,rfl,h3,h4,rfl,h5,h6,h7,h8⟩:=hI;simp (disch:=omega) only [RR];refine⟨λh9=>⟨ah,ah,?_⟩,λh9=> ?_⟩
 .refine aQ (λ(y:List aA×Int×Int×List aA×Int×Int×List aA×List aA×aA×Unit)=>y.1=a'/\y.2.1=a'.length/\y.2.2.1=i/\y.2.2.2.1=b'/\y.2.2.2.2.1=b'.length/\0<=y.2.2.2.2.2.1/\y.2.2.2.2.2.1<=b'.length/\y.2.2.2.2.2.2.1=b'/\y.2.2.2.2.2.2.2.2.1=((a').getD (i).toNat default)
    /\y.2.2.2.2.2.2.2.1=o++(b'.take y.2.2.2.2.2.1.toNat).map (mulM ((a').getD (i).toNat default))/\Sh y.2.2.2.2.2.2.2.1/\Cb y.2.2.2.2.2.2.2.1) (λy=>(b'.length-y.2.2.2.2.2.1).toNat)
   ⟨rfl,rfl,rfl,rfl,rfl,by simp,by simp,rfl,rfl,by simp,h7,h8⟩ ?_
  rintro⟨(a'':List aA),(n:Int),(i':Int),(b'':List aA),(nb:Int),(j:Int),(b3:List aA),(o':List aA),(m:aA),⟨⟩⟩ hI;dsimp only at hI ⊢;obtain⟨rfl,rfl,rfl,rfl,rfl,k1,k2,rfl,rfl,k3,k4,k5⟩:=hI;have lo:(o'.length:Int)<=12*i'+j:=by
   rw [k3,List.length_append,List.length_map];have:=List.length_take_le j.toNat b3;omega
  by_cases hj:j<b3.length
  .obtain⟨m1,m2⟩:=mm i' j h3 h9 k1 hj;have e1:=m1.le;have e2:=m2.le;have la:(((a'').getD (i').toNat default).atoms++((b3).getD (j).toNat default).atoms).length<=8:=by rw [List.length_append];omega
   have hm:=JL (show 0<=((a'').getD (i').toNat default).bU by have:=m1.1;omega) (by have:=m1.1;omega) (show 0<=((b3).getD (j).toNat default).bU by have:=m2.1;omega) (by have:=m2.1;omega);simp (disch:=omega) only [RR,U3 ((a'').getD (i').toNat default).atoms ((b3).getD (j).toNat default).atoms ah ah,U4 _ la,U0];refine⟨λ_=>⟨ah,ah,by simp only [List.length_cons,List.length_nil];omega,⟨ah,ah,?_,⟨?_,?_⟩,?_⟩,ah⟩,λh=>by omega⟩
   .rw [<-iE (d:=default) k1 hj rfl,List.map_append,k3,List.append_assoc];rfl
   .rw [List.length_append];simp only [List.length_cons,List.length_nil];omega
   .intro m hm;rw [List.mem_append,List.mem_singleton]at hm;rcases hm with hm | rfl
    .exact k4.2 m hm
    .dsimp only;rw [rW];omega
   .intro m hm;rw [List.mem_append,List.mem_singleton]at hm;rcases hm with hm | rfl
    .exact k5 m hm
    .dsimp only;omega
  .simp (disch:=omega) only [RR];refine⟨λh=>absurd h hj,λ_=>⟨⟨ah,ah,?_,ah,k4,k5⟩,ah⟩⟩;rw [<-iE (d:=default) h3 h9 rfl,ET,<-h5,k3,List.take_of_length_le ah]
 .obtain⟨g1,g2⟩:=(U2 _ h7 h8).2;refine⟨(U2 _ h7 h8).1,?_⟩;rw [g1,g2,h5,List.take_of_length_le ah]
noncomputable def iK (a:List aA) (n:Int):List aA:=if bp (bK a)&&inB n 0 65535 then(mP a (fJ n)).2 else []
def Hw(n:Int):Sh (fJ n):=by
 unfold fJ;split
 .exact⟨by simp,λm hm=>by rw [List.mem_singleton]at hm;subst hm;simp⟩
 .exact⟨by simp,λm hm=>absurd hm (by simp)⟩
abbrev Y22(pp:Int×Unit->Bool)(ff:Int×Unit->List aA×Unit):Prop:=∀n,pp (n,())=true/\ff (n,())=(fJ n,())
abbrev Y23(pp:List aA×List aA×Unit->Bool)(ff:List aA×List aA×Unit->Bool×List aA×Unit):Prop:=∀a b,Sh a->Sh b->pp (a,b,())=true/\ff (a,b,())=((mP a b).1,(mP a b).2,())
def ahS{p1 f1 p2 f2 p3 f3 p4 f4}(U1:Y11 p1 f1)(U2:Y22 p2 f2)(U3:Y9 p3 f3)(U4:Y23 p4 f4)(a:List aA)(n:Int)(ha:Sh a):XG.F (p1,f1,p2,f2,p3,f3,p4,f4,()) (a,n,()) (λy=>y=(iK a n,())):=by
 dsimp only [XG,gm];simp (disch:=omega) only [RR,U1 a ha,U2,U3,U4 a _ ha (Hw n)];unfold iK;refine⟨λh=> ?_,λ⟨h1,h2⟩=> ?_⟩
 .rw [if_neg];rw [Bool.and_eq_true];rintro⟨g1,g2⟩;rcases h with h | h
  .rw [g1]at h;cases h
  .rw [g2]at h;cases h
 .rw [h1,h2];rfl
noncomputable def uo (op:Int) (x y:List aA):List aA×Bool:=
 if(iC x).2&& (iC y).2 then(fJ (wdo op (iC x).1 (iC y).1),true)
 else if gT x y=0/\op=4 then(x,true)
 else if gT x y=0 then([],true)
 else if(iC x).2 then
  (if op=4/\(iC x).1=0 then([],true)else if(op=4/\(iC x).1=65535)\/(op=5/\(iC x).1=0)then(y,true)else([],false))
 else if(iC y).2 then
  (if op=4/\(iC y).1=0 then([],true)else if(op=4/\(iC y).1=65535)\/(op=5/\(iC y).1=0)then(x,true)else([],false))
 else([],false)
noncomputable def fO (op:Int) (x y:List aA):List aA×Bool:=
 if op=1 then((mO x y).2,(mO x y).1)else if op=2 then((mO x (iK y 65535)).2,(mO x (iK y 65535)).1)else if op=3 then((mP x y).2,(mP x y).1)else uo op x y
def bK.sh{l:List aA}:bK l->Sh l:=λh=>⟨by have:=h.len;omega,λm hm=>by have:=(h.at hm).le;omega⟩
def RQ(l:List aA):Sh (lY l).2:=by
 unfold lY;by_cases h:bK (nf l)
 .rw [dO h];exact h.sh
 .rw [iN h];exact⟨by simp,λm hm=>absurd hm (by simp)⟩
def oC:Sh []:=⟨by simp,λm hm=>absurd hm (by simp)⟩
def RS(a b:List aA):Sh (mP a b).2:=by unfold mP;split;exact RQ _;exact oC
def RU(a b:List aA):Sh (mO a b).2:=by unfold mO;split;exact RQ _;exact oC
def Hy(a:List aA)(n:Int):Sh (iK a n):=by unfold iK;split;exact RS _ _;exact oC
abbrev Y24(pp:Int×Int×Int×Unit->Bool)(ff:Int×Int×Int×Unit->Int×Unit):Prop:=∀op a b,pp (op,a,b,())=true/\ff (op,a,b,())=(wdo op a b,())
abbrev Y25(pp:List aA×List aA×Unit->Bool)(ff:List aA×List aA×Unit->Bool×List aA×Unit):Prop:=∀a b,Sh a->Sh b->pp (a,b,())=true/\ff (a,b,())=((mO a b).1,(mO a b).2,())
abbrev Y26(pp:List aA×Int×Unit->Bool)(ff:List aA×Int×Unit->List aA×Unit):Prop:=∀a n,Sh a->pp (a,n,())=true/\ff (a,n,())=(iK a n,())
abbrev Y27(pp:List aA×Unit->Bool)(ff:List aA×Unit->Int×Bool×Unit):Prop:=∀a,Sh a->pp (a,())=true/\ff (a,())=((iC a).1,(iC a).2,())
def ahT{p1 f1 p2 f2 p3 f3 p4 f4 p5 f5 p6 f6 p7 f7}(U1:Y14 p1 f1)(U2:Y22 p2 f2)(U3:Y24 p3 f3)(U4:Y25 p4 f4)(U5:Y23 p5 f5)(U6:Y26 p6 f6)(U7:Y27 p7 f7)(op:Int)(x y:List aA)(hx:Sh x)(hy:Sh y):XI.F (p1,f1,p2,f2,p3,f3,p4,f4,p5,f5,p6,f6,p7,f7,()) (op,x,y,()) (λz=>z=((fO op x y).1,(fO op x y).2,())):=by
 dsimp only [XI,gm];simp (disch:=omega) only [RR,U1 x y hx,U2,U3,U4 x y hx hy,U4 x _ hx (Hy y 65535),U5 x y hx hy,U6 y _ hy,U7 x hx,U7 y hy];unfold fO;refine⟨λh=>by rw [if_pos h],λh=>⟨λh1=>by rw [if_neg h,if_pos h1],λh1=>⟨λh2=>by rw [if_neg h,if_neg h1,if_pos h2],λh2=> ?_⟩⟩⟩;rw [if_neg h,if_neg h1,if_neg h2];unfold uo;generalize iC x=nx;generalize iC y=ny;obtain⟨n,bn⟩:=nx;obtain⟨m,bm⟩:=ny;dsimp only;by_cases e:gT x y=0<;>by_cases o4:op=4<;>cases bn<;>cases bm<;>simp [e,o4]
 .by_cases c:m=0<;>by_cases c2:m=65535<;>simp [c,c2]
 .by_cases c:n=0<;>by_cases c2:n=65535<;>simp [c,c2]
 .by_cases c:op=5<;>by_cases c2:m=0<;>simp [c,c2]
 .by_cases c:op=5<;>by_cases c2:n=0<;>simp [c,c2]
noncomputable def tDo (t:List Atom) (op:Int) (x y:List aA):List Atom×List aA:=
 if(fO op x y).2 then(t,(fO op x y).1)else
 if op≠2/\0<gT x y then(if(bY t ⟨4,op,y,x⟩).2<0 then([],[])else((bY t ⟨4,op,y,x⟩).1,gK (bY t ⟨4,op,y,x⟩).2))
 else(if(bY t ⟨4,op,x,y⟩).2<0 then([],[])else((bY t ⟨4,op,x,y⟩).1,gK (bY t ⟨4,op,x,y⟩).2))
noncomputable def tOk (t:List Atom) (op:Int) (x y:List aA):Bool:=(fO op x y).2 || !decide ((if op≠2/\0<gT x y then(bY t ⟨4,op,y,x⟩).2 else(bY t ⟨4,op,x,y⟩).2)<0)
abbrev Y28(pp:Int×Unit->Bool)(ff:Int×Unit->List aA×Unit):Prop:=∀n,pp (n,())=true/\ff (n,())=(gK n,())
def ahU{p1 f1 p4 f4}{p2:Int×List aA×List aA×Unit->Bool}{f2:Int×List aA×List aA×Unit->List aA×Bool×Unit}{p3:List Atom×Atom×Unit->Bool}{f3:List Atom×Atom×Unit->List Atom×Int×Unit}(U1:Y8 p1 f1)(U2:∀op x y,Sh x->Sh y->p2 (op,x,y,())=true/\f2 (op,x,y,())=((fO op x y).1,(fO op x y).2,()))(U3:∀t a,t.length<1000000000->ShA a->p3 (t,a,())=true/\f3 (t,a,())=((bY t a).1,(bY t a).2,()))(U4:Y28 p4 f4)(t:List Atom)(op:Int)(x y:List aA)(ht:t.length<1000000000)(hx:Sh x)(hy:Sh y):XM.F (p1,f1,p2,f2,p3,f3,p4,f4,()) (t,op,x,y,()) (λz=>z.1=(tDo t op x y).1/\z.2.1=(tDo t op x y).2/\z.2.2.1=tOk t op x y):=by
 have s1:ShA ⟨4,op,x,y⟩:=⟨hx,hy⟩;have s2:ShA ⟨4,op,y,x⟩:=⟨hy,hx⟩;dsimp only [XM,gm];simp (disch:=omega) only [RR,U1 x y hx,U2 op x y hx hy,U3 t _ ht s1,U3 t _ ht s2,U4];unfold tDo tOk;refine⟨λh=>by rw [if_pos h,h];exact⟨rfl,rfl,rfl⟩,λh=> ?_⟩;rw [if_neg (by rw [h];simp),h,Bool.false_or];generalize bY t ⟨4,op,y,x⟩=r1;generalize bY t ⟨4,op,x,y⟩=r2;generalize gT x y=o;by_cases c1:op=2<;>by_cases c2:0<o<;>by_cases c3:r1.2<0<;>by_cases c4:r2.2<0<;>simp [c1,c2,c3,c4]
noncomputable def kM (t:List Atom) (op:Int) (x y:List aA):List Atom×List aA:=
 @ite _ (bB t/\(1<=op/\op<=5)/\bK x/\bK y/\bH x t.length/\bH y t.length) (Classical.propDecidable _) (tDo t op x y) ([],[])
def Mc(n:Int):Sh (gK n):=by
 unfold gK;split
 .exact⟨by simp,λm hm=>by rw [List.mem_singleton]at hm;subst hm;simp⟩
 .exact oC
def Yc(op:Int)(x y:List aA)(hx:Sh x)(hy:Sh y):Sh (fO op x y).1:=by
 unfold fO;split; · exact RU _ _
 split; · exact RU _ _
 split; · exact RS _ _
 unfold uo
 repeat' split
 all_goals first | exact hx | exact hy | exact oC | exact Hw _
def RV{t:List Atom}{a:Atom}(ht:ShT t)(h:t.length<=200)(ha:ShA a):ShT (bY t a).1:=by
 unfold bY;split; · exact ht
 split; · exact ht
 refine⟨by simp;omega,λm hm=> ?_⟩;rw [List.mem_append,List.mem_singleton]at hm;rcases hm with hm | rfl
 .exact ht.2 m hm
 .exact ha
def RX:ShT []:=⟨by simp,λm hm=>absurd hm (by simp)⟩
def aeN{t:List Atom}{op:Int}{x y:List aA}(ht:ShT t)(h:t.length<=200)(hx:Sh x)(hy:Sh y):ShT (tDo t op x y).1/\Sh (tDo t op x y).2:=by
 unfold tDo;split; · exact⟨ht,Yc _ _ _ hx hy⟩
 repeat' split
 all_goals first | exact⟨RX,oC⟩ | exact⟨RV ht h ⟨hx,hy⟩,Mc _⟩ | exact⟨RV ht h ⟨hy,hx⟩,Mc _⟩
def Md{t:List Atom}{op:Int}{x y:List aA}(ht:ShT t)(hx:Sh x)(hy:Sh y):ShT (kM t op x y).1/\Sh (kM t op x y).2:=by
 unfold kM;split
 .rename_i h;exact aeN ht h.1.2 hx hy
 .exact⟨RX,oC⟩
abbrev Y29(pp:List Atom×Unit->Bool)(ff:List Atom×Unit->Bool×Unit):Prop:=∀a,ShT a->pp (a,())=true/\ff (a,())=(bp (bB a),())
abbrev Y31(pp:List Atom×Unit->Bool)(ff:List Atom×Unit->List Atom×Unit):Prop:=∀a,ShT a->pp (a,())=true/\ff (a,())=(a,())
def JM{α:Type}{d:α}{a b:List α}(h:a.length=b.length)(h2:All a.length (λi=>a.getD i.toNat d=b.getD i.toNat d)):a=b:=by
 refine List.ext_getElem h λi h3 h4=> ?_
 have:=h2 i ah ah;dsimp only at this;rw [show(i:Int).toNat=i from rfl,getD_lt h3,getD_lt h4]at this;exact this
abbrev Y32(pp:List Int×List Int×Unit->Bool)(ff:List Int×List Int×Unit->Bool×Unit):Prop:=∀a b,a.length<1000000000->pp (a,b,())=true/\ff (a,b,())=(bp (a=b),())
abbrev Y33(pp:List aA×List aA×Unit->Bool)(ff:List aA×List aA×Unit->Bool×Unit):Prop:=∀a b,Sh a->pp (a,b,())=true/\ff (a,b,())=(bp (a=b),())
def Yd{a b:Int}:or2 a b=0↔a=0/\b=0:=by unfold or2;split<;>omega
def Hz{a b:aA}:CB a b=0↔a=b:=by
 unfold CB;rw [Yd,iR,kF];constructor
 .rintro⟨h1,h2⟩;cases a;cases b;simp_all
 .rintro rfl;exact⟨rfl,rfl⟩
def Ua(a b:aA):CB b a= -CB a b:=by
 unfold CB or2;rw [lU,wC];repeat' split<;>omega
def HV:∀a b:List aA,wP b a= -wP a b
 | [],[]=>rfl | [],_::_=>rfl | _::_,[]=>rfl
 | a::az,b::bs=>by
  simp only [wP,Ua a b,HV az bs];split<;>split<;>omega
def HY:∀ {a b:List aA},a.length=b.length->wP a b=0->a=b
 | [],[],_,_=>rfl | [],_::_,h,_=>by simp at h
 | _::_,[],h,_=>by simp at h
 | a::az,b::bs,hl,h=>by
  simp only [wP]at h;split at h
  .exact absurd h (by assumption)
  .rename_i h1;rw [Hz.1 (Classical.not_not.1 h1),HY (by simpa using hl) h]
def HZ:∀a:List aA,wP a a=0
 | []=>rfl
 | a::az=>by simp only [wP,Hz.2 rfl];simp [HZ az]
def Bj(a b:List aA):gT b a= -gT a b:=by
 unfold gT;rw [wC,HV];repeat' split<;>omega
def pE{a b:List aA}:gT a b=0↔a=b:=by
 unfold gT;constructor
 .intro h;split at h
  .exact absurd h (by assumption)
  .rename_i h1;have:=kF.1 (Classical.not_not.1 h1);exact HY ah h
 .rintro rfl;rw [if_neg (by rw [kF.2 rfl];simp),HZ]
def pF{a b:Atom}:tY a b=true↔a=b:=by
 unfold tY;rw [Bool.and_eq_true,Bool.and_eq_true,Bool.and_eq_true,decide_eq_true_eq,decide_eq_true_eq,decide_eq_true_eq,decide_eq_true_eq,pE,pE];constructor
 .rintro⟨⟨⟨h1,h2⟩,h3⟩,h4⟩;cases a;cases b;simp_all
 .rintro rfl;exact⟨⟨⟨rfl,rfl⟩,rfl⟩,rfl⟩
def qK{α:Type}{d:α}{l:List α}{G:α->Prop}:All l.length (λi=>G (l.getD i.toNat d))↔∀m∈l,G m:=by
 constructor
 .intro h m hm;obtain⟨i,hi,rfl⟩:=List.getElem_of_mem hm;have:=h i ah ah;dsimp only at this;rw [show(i:Int).toNat=i from rfl,getD_lt hi]at this;exact this
 .intro h i h1 h2;exact h _ (fH h1 h2)
def dJ{p:List aA}{n:Int}:bH p n↔∀m∈p,∀k∈m.atoms,k<n:=by
 unfold bH JH;rw [qK (d:=default) (G:=λm:aA=>All m.atoms.length (λi=>¬n<=m.atoms.getD i.toNat default))];refine forall_congr' λm=>forall_congr' λ_=> ?_
 rw [qK (d:=default) (G:=λk:Int=>¬n<=k)];exact forall_congr' λk=>forall_congr' λ_=>by omega
def eH{α:Type}{d:α}{R:α->α->Prop}(tr:∀ {a b c},R a b->R b c->R a c){l:List α}:l.Pairwise R↔∀i:Int,0<i->i<l.length->R (l.getD (i-1).toNat d) (l.getD i.toNat d):=by
 rw [List.pairwise_iff_getElem];constructor
 .intro h i h1 h2;rw [getD_lt ah,getD_lt ah];exact h _ _ ah ah ah
 .intro h i j hi hj hij;obtain⟨n,rfl⟩:∃n,j=i+1+n:=⟨j-i-1,ah⟩
  clear hij
  induction n with
  | zero=>
   have:=h (i+1:Nat) ah ah;rw [show(((i+1:Nat):Int)-1).toNat=i by omega,show(((i+1:Nat):Int)).toNat=i+1 by omega,getD_lt hi,getD_lt ah]at this;exact this
  | succ n ih=>
   have h1:=ih ah;have:=h (i+1+n+1:Nat) ah ah;rw [show(((i+1+n+1:Nat):Int)-1).toNat=i+1+n by omega,show(((i+1+n+1:Nat):Int)).toNat=i+1+n+1 by omega,getD_lt ah,getD_lt ah]at this;exact tr h1 this
def JN{l:List Int}:Srt l↔l.Pairwise (· <= ·):=by
 rw [eH (d:=default) (R:=λa b:Int=>a<=b) (λh1 h2=>Int.le_trans h1 h2)];unfold Srt;constructor
 .intro h i h1 h2;have:=h (i-1) ah ah;dsimp only at this;rw [show i-1+1=i by omega]at this;exact this
 .intro h i h1 h2;have:=h (i+1) ah ah;rw [show i+1-1=i by omega]at this;exact this
def fT{a b c:aA}(h1:lt a b)(h2:lt b c):lt a c:=eX (le_of_lt h1) h2
def aok(l:List Int):Prop:=l.Pairwise (· <= ·)/\∀k∈l,0<=k/\k<=199
def fU{p:List aA}:bK p↔Nf p/\p.length<=12/\∀m∈p,m.atoms.length<=4/\aok m.atoms:=by
 constructor
 .rintro⟨h1,h2,h3,h4⟩;have h1':∀m∈p,mOk m:=qK (d:=default) (G:=mOk).1 (λi g1 g2=>(h1 i g1 g2).1);have h4':∀m∈p,¬(0<m.atoms.length/\m.atoms.getD 0 default<0):=qK (d:=default) (G:=λm:aA=>¬(0<m.atoms.length/\m.atoms.getD 0 default<0)).1 h4;refine⟨⟨(eH (d:=default) (R:=lt) fT).2 λi g1 g2=>(h1 i ah g2).2 g1,λm hm=>(h1' m hm).1⟩,h2,λm hm=>⟨(h1' m hm).2.1,JN.1 (h1' m hm).2.2,λk hk=>⟨?_,by have:=dJ.1 h3 m hm k hk;omega⟩⟩⟩;have hs:=JN.1 (h1' m hm).2.2;have hn:=h4' m hm;cases ha:m.atoms with
  | nil=>rw [ha]at hk;exact absurd hk (by simp)
  | cons b l=>
   rw [ha]at hk hs hn;simp at hn;rcases List.mem_cons.1 hk with rfl | hk
   .exact hn
   .have:=List.rel_of_pairwise_cons hs hk;omega
 .rintro⟨h1,h2,h3⟩;refine⟨λi g1 g2=>⟨⟨h1.co _ (fH g1 g2),(h3 _ (fH g1 g2)).1,JN.2 (h3 _ (fH g1 g2)).2.1⟩,λg3=>(eH (d:=default) (R:=lt) fT).1 h1.ss i g3 g2⟩,h2,dJ.2 λm hm k hk=>by have:=((h3 m hm).2.2 k hk);omega,?_⟩;refine qK (d:=default) (G:=λm:aA=>¬(0<m.atoms.length/\m.atoms.getD 0 default<0)).2 λm hm=> ?_
  rintro⟨g1,g2⟩;have:=(h3 m hm).2.2 _ (fH (i:=0) (d:=default) (xs:=m.atoms) ah ah);rw [show Int.toNat 0=0 from rfl]at this;omega
def Ye{l:List aA}{k:List Int}(h:cf l k≠0):∃m∈l,m.atoms=k:=Classical.byContradiction λh2=>h (iq λm hm e=>h2 ⟨m,hm,e⟩)
def Nf.cf{o:List aA}(h:Nf o){m:aA}(hm:m∈o):cf o m.atoms=m.bU:=by
 induction o with
 | nil=>exact absurd hm (by simp)
 | cons a o ih=>
  rw [bQ];rcases List.mem_cons.1 hm with rfl | hm
  .rw [if_pos rfl,iq (λm' hm'=>((List.rel_of_pairwise_cons h.ss hm').ne).symm)];omega
  .rw [if_neg (List.rel_of_pairwise_cons h.ss hm).ne,ih ⟨h.ss.tail,λm hm=>h.co m (by simp [hm])⟩ hm];omega
def Nf.from{o l:List aA}(h:Nf o)(h2:∀k,F.cf o k=F.cf l k%65536){m:aA}(hm:m∈o):∃m'∈l,m'.atoms=m.atoms:=by
 refine Ye λe=> ?_
 have:=h2 m.atoms;rw [h.cf hm,e]at this;have:=h.co m hm;omega
def Nf.bnd{o:List aA}(h:Nf o)(k:List Int):0<=F.cf o k/\F.cf o k<=65535:=by
 by_cases e:F.cf o k=0
 .omega
 .obtain⟨m,hm,rfl⟩:=Ye e;rw [h.cf hm];have:=h.co m hm;omega
def wE{o:List aA}(h:Nf o):nf o=o:=ER h λk=>by have:=h.bnd k;omega
def aa8{l o:List aA}(h:Nf o)(h2:∀k,F.cf o k=F.cf l k%65536)(h3:∀m∈l,aok m.atoms):
  lY l=(decide (o.length<=12/\∀m∈o,m.atoms.length<=4),if o.length<=12/\∀m∈o,m.atoms.length<=4 then o else []):=by
 unfold lY;rw [ER h h2];by_cases c:o.length<=12/\∀m∈o,m.atoms.length<=4
 .have:bK o:=fU.2 ⟨h,c.1,λm hm=>⟨c.2 m hm,by obtain⟨m',g1,g2⟩:=h.from h2 hm;rw [<-g2];exact h3 m' g1⟩⟩;rw [dO this,decide_eq_true c,if_pos rfl,if_pos c]
 .have:¬bK o:=λg=>c ⟨(fU.1 g).2.1,λm hm=>((fU.1 g).2.2 m hm).1⟩
  rw [iN this,decide_eq_false c,if_neg (by simp),if_neg c]
def aeO(a b c:Int):OT.F () (a,b,c,()) (λy=>y=(inB a b c,())):=by
 dsimp only [OT,gm];simp (disch:=omega) only [RR];rfl
def aeP(a:Int):Pm.F () (a,()) (λy=>y=(inB a 0 65535,())):=by
 dsimp only [Pm,gm];simp (disch:=omega) only [RR];refine congrArg (λb=>(b,())) ?_;rw [Bool.eq_iff_iff,kL,Bool.and_eq_true,decide_eq_true_eq,decide_eq_true_eq];omega
def aeQ{p1 f1}(U1:Y1 p1 f1)(a:Int):
  Pv.F (p1,f1,()) (a,()) (λy=>y=(fJ a,())):=by
 dsimp only [Pv,gm];simp (disch:=omega) only [RR,U1,kL,zF];unfold fJ;exact⟨λh=>by rw [if_neg ah],λh=>by rw [if_pos ah]⟩
def aeR{p1 f1}(U1:Y1 p1 f1)(a:Int):
  Pb.F (p1,f1,()) (a,()) (λy=>y=(gK a,())):=by
 dsimp only [Pb,gm];simp (disch:=omega) only [RR,U1,kL,zF];unfold gK;exact⟨λh=>by rw [if_neg ah],λh=>by rw [if_pos ah]⟩
def Yf(a:Int):a.tmod 65536=if 0<=a then a%65536 else- (-a%65536):=by
 split
 .rw [Int.tmod_eq_emod_of_nonneg ah]
 .have:=Int.neg_tmod (-a) 65536;rw [Int.neg_neg]at this;rw [this,Int.tmod_eq_emod_of_nonneg ah]
def aeS(a:Int):Pf.F () (a,()) (λy=>y=(a%65536,())):=by
 dsimp only [Pf,gm];simp only [X5];by_cases h:0<=a
 .rw [show a.tmod 65536=a%65536 by rw [Yf,if_pos h]];simp (disch:=omega) only [RR];refine⟨ah,λh2=> ?_⟩;exfalso;omega
 .rw [show a.tmod 65536= - (-a%65536) by rw [Yf,if_neg h]];simp (disch:=omega) only [RR];refine⟨ah,λh2=> ?_,λh2=> ?_⟩
  .rw [show-(-a%65536)+65536=a%65536 by omega]
  .rw [show-(-a%65536)=a%65536 by omega]
def aeT(a b:List Int)(ha:a.length<1000000000):OV.F () (a,b,()) (λy=>y=(dX a b,())):=by
 dsimp only [OV,gm];simp (disch:=omega) only [RR];refine⟨λh=>⟨λh1=> ?_,λh1=> ?_⟩,λh=> ?_⟩
 .rw [show dX a b= -1 by(have e:iW a.length b.length= -1:=by unfold iW;rw [if_pos h1]);unfold dX or2;rw [e];rfl]
 .rw [show dX a b=1 by(have e:iW a.length b.length=1:=by unfold iW;rw [if_neg h1,if_pos ah]);unfold dX or2;rw [e];rfl]
 have hl:a.length=b.length:=by omega
 have e0:dX a b=mK a b:=by unfold dX or2;rw [kF.2 ah,if_neg (by simp)]
 refine aQ (λ(y:List Int×List Int×Int×Unit)=>y.1=a/\y.2.1=b/\0<=y.2.2.1/\y.2.2.1<=a.length/\dX a b=mK (a.drop y.2.2.1.toNat) (b.drop y.2.2.1.toNat)) (λy=>(a.length-y.2.2.1).toNat) ⟨rfl,rfl,by simp,by simp,by simpa using e0⟩ ?_;rintro⟨(l1:List Int),(l2:List Int),(i:Int),⟨⟩⟩ hI;dsimp only at hI ⊢;obtain⟨rfl,rfl,h1,h2,h3⟩:=hI;simp (disch:=omega) only [RR];refine⟨λh4=> ?_,λh4=> ?_⟩
 .have e:=Bd l1 l2 i.toNat ah ah;rw [getD_lt ah,getD_lt ah];refine⟨ah,ah,ah,ah,λh5=> ?_,λh5=>⟨ah,ah,ah,ah,λh6=> ?_,λh6=>⟨⟨ah,ah,?_⟩,ah⟩⟩⟩
  .rw [h3,e,show iW l1[i.toNat] l2[i.toNat]= -1 by unfold iW;rw [if_pos h5]];rfl
  .rw [h3,e,show iW l1[i.toNat] l2[i.toNat]=1 by unfold iW;rw [if_neg h5,if_pos h6]];rfl
  .rw [h3,e,show iW l1[i.toNat] l2[i.toNat]=0 by unfold iW;rw [if_neg h5,if_neg h6],show(i+1).toNat=i.toNat+1 by omega];rfl
 .rw [h3,List.drop_eq_nil_of_le ah,List.drop_eq_nil_of_le ah];rfl
def aeU{p1 f1}(U1:Y1 p1 f1)(m:aA)(hm:m.atoms.length<1000000000):
  OU.F (p1,f1,()) (m,()) (λy=>y=(bp ((1<=m.bU/\m.bU<=65535)/\m.atoms.length<=4/\aok m.atoms),())):=by
 dsimp only [OU,gm];simp (disch:=omega) only [RR,U1,kL,zF];refine⟨λh=> ?_,λ⟨h1,h2⟩=> ?_⟩
 .rw [iN];rintro⟨g1,g2,g3⟩;omega
 refine aQ (λ(y:Int×aA×Unit)=>y.2.1=m/\0<=y.1/\y.1<=m.atoms.length/\All y.1 (λi=>(0<=m.atoms.getD i.toNat default/\m.atoms.getD i.toNat default<=199)/\(0<i->m.atoms.getD (i-1).toNat default<=m.atoms.getD i.toNat default))) (λy=>(m.atoms.length-y.1).toNat) ⟨rfl,by simp,by simp,All.zero⟩ ?_;rintro⟨(i:Int),(m':aA),⟨⟩⟩ hI;dsimp only at hI ⊢;obtain⟨rfl,h3,h4,h5⟩:=hI;simp (disch:=omega) only [RR,U1,kL,zF];refine⟨λh6=>⟨ah,ah,by by_cases c:0<i;(· right;omega);(· left;simp [c]),by by_cases c:0<i;(· right;omega);(· left;simp [c]),ah,ah,λh7=> ?_,λh7=>⟨⟨ah,ah,h5.snoc ⟨h7.1,λc=> ?_⟩⟩,ah⟩⟩,λh6=> ?_⟩
 .rw [iN];rintro⟨g1,g2,g3,g4⟩;rcases h7 with h7 | ⟨h7,h8⟩
  .exact h7 (g4 _ (fH h3 h6))
  .have:=(eH (d:=default) (R:=λa b:Int=>a<=b) (λh1 h2=>Int.le_trans h1 h2)).1 g3 i h7 h6;omega
 .have:=h7.2;rw [decide_eq_true c,Bool.true_and,decide_eq_false_iff_not]at this;omega
 .have h8:=h5.le (by omega:(m'.atoms.length:Int)<=i);rw [dO];refine⟨ah,ah,(eH (d:=default) (R:=λa b:Int=>a<=b) (λh1 h2=>Int.le_trans h1 h2)).2 λj j1 j2=>(h8 j ah j2).2 j1,qK (d:=default) (G:=λk:Int=>0<=k/\k<=199).1 λj j1 j2=>(h8 j j1 j2).1⟩
def aeV{p4 f4}{p1:aA×Unit->Bool}{f1:aA×Unit->Bool×Unit}(U1:∀m:aA,m.atoms.length<1000000000->p1 (m,())=true/\f1 (m,())=(bp ((1<=m.bU/\m.bU<=65535)/\m.atoms.length<=4/\aok m.atoms),()))(U4:Y7 p4 f4)(a:List aA)(ha:Sh a):OW.F (p1,f1,p4,f4,()) (a,()) (λy=>y=(bp (bK a),())):=by
 have hlen:=ha.1;dsimp only [OW,gm];simp (disch:=omega) only [RR];refine⟨λh=> ?_,λh=> ?_⟩
 .rw [iN (λh2=>by have:=h2.len;omega)]
 refine aQ (λ(y:Int×List aA×Unit)=>y.2.1=a/\0<=y.1/\y.1<=a.length/\All y.1 (λi=>((1<=((a).getD (i).toNat default).bU/\((a).getD (i).toNat default).bU<=65535)/\((a).getD (i).toNat default).atoms.length<=4/\aok ((a).getD (i).toNat default).atoms)/\(0<i->lt ((a).getD (i-1).toNat default) ((a).getD (i).toNat default)))) (λy=>(a.length-y.1).toNat) ⟨rfl,by simp,by simp,All.zero⟩ ?_;rintro⟨(i:Int),(l':List aA),⟨⟩⟩ hI;dsimp only at hI ⊢;obtain⟨rfl,h1,h2,h3⟩:=hI;simp (disch:=omega) only [RR,U1 _ (ha.at _),U4 _ _ (ha.at _),dh,lT];refine⟨λh4=>⟨ah,ah,by by_cases c:0<i;(· right;omega);(· left;simp [c]),by by_cases c:0<i;(· right;omega);(· left;simp [c]),ah,ah,λh5=> ?_,λh5=>⟨⟨ah,ah,h3.snoc ⟨h5.1,λc=> ?_⟩⟩,ah⟩⟩,λh4=> ?_⟩
 .rw [iN (λh=> ?_)];obtain⟨g1,g2,g3⟩:=fU.1 h;rcases h5 with h5 | ⟨h5,h6⟩
  .exact h5 ⟨g1.co _ (fH h1 h4),g3 _ (fH h1 h4)⟩
  .have:=(eH (d:=default) (R:=lt) fT).1 g1.ss i h5 h4;unfold lt at this;omega
 .have:=h5.2;rw [decide_eq_true c,Bool.true_and,decide_eq_false_iff_not]at this;unfold lt;omega
 .have h8:=h3.le (by omega:(l'.length:Int)<=i);rw [dO];have h9:=qK (d:=default) (G:=λm:aA=>(1<=m.bU/\m.bU<=65535)/\m.atoms.length<=4/\aok m.atoms).1 λj j1 j2=>(h8 j j1 j2).1
  exact fU.2 ⟨⟨(eH (d:=default) (R:=lt) fT).2 λj j1 j2=>(h8 j ah j2).2 j1,λm hm=>(h9 m hm).1⟩,ah,λm hm=>(h9 m hm).2⟩
def aeW(a:List aA)(n:Int)(ha:Sh a):OX.F () (a,n,()) (λy=>y=(bp (bH a n),())):=by
 have hlen:=ha.1;dsimp only [OX,gm];simp (disch:=omega) only [RR];refine aQ (λ(y:Int×Int×List aA×Unit)=>y.1=n/\y.2.2.1=a/\0<=y.2.1/\y.2.1<=a.length/\All y.2.1 (λi=>JH n ((a).getD (i).toNat default))) (λy=>(a.length-y.2.1).toNat) ⟨rfl,rfl,by simp,by simp,All.zero⟩ ?_;rintro⟨(n':Int),(i:Int),(l:List aA),⟨⟩⟩ hI;dsimp only at hI ⊢;obtain⟨rfl,rfl,h1,h2,h3⟩:=hI;simp (disch:=omega) only [RR];refine⟨λh4=> ?_,λh4=> ?_⟩
 .have h5:=ha.at i.toNat;refine aQ (λ(y:Int×Int×Int×List aA×Unit)=>y.1=n'/\y.2.1=i/\y.2.2.2.1=l/\0<=y.2.2.1/\y.2.2.1<=((l).getD (i).toNat default).atoms.length/\All y.2.2.1 (λj=>¬n'<=((l).getD (i).toNat default).atoms.getD j.toNat default)) (λy=>(((l).getD (i).toNat default).atoms.length-y.2.2.1).toNat) ⟨rfl,rfl,rfl,by simp,by simp,All.zero⟩ ?_;rintro⟨(n'':Int),(i':Int),(j:Int),(l':List aA),⟨⟩⟩ hI;dsimp only at hI ⊢;obtain⟨rfl,rfl,rfl,g1,g2,g3⟩:=hI;simp (disch:=omega) only [RR];refine⟨ah,ah,λg4=>⟨ah,ah,ah,ah,λg5=> ?_,λg5=>⟨⟨ah,ah,g3.snoc g5⟩,ah⟩⟩,λg4=>⟨⟨ah,ah,h3.snoc (g3.le ah)⟩,ah⟩⟩;rw [iN (λh=>h i' h1 h4 j g1 g4 g5)]
 .rw [dO (show bH l n' from h3.le ah)]
theorem aeX{p4 f4}(U4:Y7 p4 f4)(a b:List aA)(ha:Sh a):O1.F (p4,f4,()) (a,b,()) (λy=>y=(gT a b,())):=by
 have hlen:=ha.1;dsimp only [O1,gm];simp (disch:=omega) only [RR];refine⟨λh=>⟨λh1=> ?_,λh1=> ?_⟩,λh=> ?_⟩
 .rw [show gT a b= -1 by(have e:iW a.length b.length= -1:=by unfold iW;rw [if_pos h1]);unfold gT;rw [e];rfl]
 .rw [show gT a b=1 by(have e:iW a.length b.length=1:=by unfold iW;rw [if_neg h1,if_pos ah]);unfold gT;rw [e];rfl]
 have hl:a.length=b.length:=by omega
 have e0:gT a b=wP a b:=by unfold gT;rw [kF.2 ah,if_neg (by simp)]
 refine aQ (λ(y:Int×List aA×List aA×Unit)=>y.2.1=a/\y.2.2.1=b/\0<=y.1/\y.1<=a.length/\gT a b=wP (a.drop y.1.toNat) (b.drop y.1.toNat)) (λy=>(a.length-y.1).toNat) ⟨rfl,rfl,by simp,by simp,by simpa using e0⟩ ?_;rintro⟨(i:Int),(l:List aA),(l':List aA),⟨⟩⟩ hI;dsimp only at hI ⊢;obtain⟨rfl,rfl,h1,h2,h3⟩:=hI;simp (disch:=omega) only [RR,U4 _ _ (ha.at _)];refine⟨λh4=> ?_,λh4=> ?_⟩
 .have e:=Bg l l' i.toNat ah ah;rw [getD_lt ah,getD_lt ah];generalize hu:l[i.toNat]=u at e ⊢;generalize hv:l'[i.toNat]=v at e ⊢;have em:CB u v=if dX u.atoms v.atoms≠0 then dX u.atoms v.atoms else iW u.bU v.bU:=rfl
  refine⟨ah,ah,ah,ah,λh5=> ?_,λh5=>⟨ah,ah,ah,ah,λh6=>⟨ah,ah,ah,ah,λh7=> ?_,λh7=> ?_⟩,λh6=>⟨⟨ah,ah,?_⟩,ah⟩⟩⟩
  .rw [if_pos h5]at em;rw [h3,e,em,if_pos h5]
  .rw [if_neg (by simpa using h5),show iW u.bU v.bU= -1 by unfold iW;rw [if_pos h7]]at em;rw [h3,e,em];rfl
  .rw [if_neg (by simpa using h5),show iW u.bU v.bU=1 by unfold iW;rw [if_neg h7,if_pos ah]]at em;rw [h3,e,em];rfl
  .rw [if_neg (by simpa using h5),kF.2 h6]at em;rw [h3,e,em,show(i+1).toNat=i.toNat+1 by omega];rfl
 .rw [h3,List.drop_eq_nil_of_le ah];rfl
def aeY(a:Atom):OY.F () (a,()) (λy=>y=(bp (a.x=[]/\a.y=[]),())):=by
 dsimp only [OY,gm];simp (disch:=omega) only [RR];refine congrArg (λb=>(b,())) ?_;rw [Bool.eq_iff_iff,dh,Bool.and_eq_true,decide_eq_true_eq,decide_eq_true_eq];constructor
 .rintro⟨h1,h2⟩;exact⟨List.eq_nil_of_length_eq_zero ah,List.eq_nil_of_length_eq_zero ah⟩
 .rintro⟨h1,h2⟩;rw [h1,h2];exact⟨rfl,rfl⟩
def aeZ{p1 f1 p4 f4 p3 f3}{p5:Atom×Unit->Bool}{f5:Atom×Unit->Bool×Unit}(U1:Y1 p1 f1)(U4:Y11 p4 f4)(U3:Y6 p3 f3)(U5:∀a,p5 (a,())=true/\f5 (a,())=(bp (a.x=[]/\a.y=[]),()))(a:Atom)(n:Int)(ha:ShA a):
  OZ.F (p1,f1,p4,f4,p3,f3,p5,f5,()) (a,n,()) (λy=>y=(bp (iB a n),())):=by
 obtain⟨hx,hy⟩:=ha;dsimp only [OZ,gm];simp (disch:=omega) only [RR,U1,U5,U3 a.x n hx,U3 a.y n hy,U4 a.x hx,U4 a.y hy];unfold iB;have E:∀(b:Bool) (P:Prop),(b=true↔P)->(b,())=(bp P,()):=λb P h=>by
  rw [show b=bp P from Bool.eq_iff_iff.2 (h.trans dh.symm)]
 have T:∀ {P:Prop},¬P->(false,())=(bp P,()):=λh=>by rw [iN h]
 refine⟨λh=>E _ _ ?_,λh=>⟨λh1=>⟨λ_=>E _ _ ?_,λh'=>absurd h1 h'⟩,λh1=>⟨λh2=>E _ _ ?_,λh2=>⟨λh3=>E _ _ ?_,λh3=>T ?_⟩⟩⟩⟩
 .rw [if_neg ah,Bool.and_eq_true,kL,dh];constructor
  .rintro⟨g1,g2⟩;exact⟨g2,Or.inl ⟨h,g1⟩⟩
  .rintro⟨g2,⟨_,g1⟩ | ⟨g3,g1⟩⟩
   .exact⟨g1,g2⟩
   .omega
 .rw [if_neg ah,Bool.and_eq_true,kL,dh];constructor
  .rintro⟨g1,g2⟩;exact⟨g2,Or.inr ⟨Or.inl h1,g1⟩⟩
  .rintro⟨g2,⟨_,g1⟩ | ⟨g3,g1⟩⟩
   .omega
   .exact⟨g1,g2⟩
 .rw [if_neg ah,Bool.and_eq_true,kL,dh];constructor
  .rintro⟨g1,g2⟩;exact⟨g2,Or.inr ⟨Or.inr h2,g1⟩⟩
  .rintro⟨g2,⟨_,g1⟩ | ⟨g3,g1⟩⟩
   .omega
   .exact⟨g1,g2⟩
 .rw [if_pos h3];simp only [Bool.and_eq_true,kL,dh,and_assoc]
 .rw [if_neg h3];rintro⟨_,⟨g,_⟩ | ⟨g,_⟩⟩<;>omega
def ae0{p1 f1}(U1:Y8 p1 f1)(a b:Atom)(ha:ShA a):
  O4.F (p1,f1,()) (a,b,()) (λy=>y=(tY a b,())):=by
 dsimp only [O4,gm];simp (disch:=omega) only [RR,U1 a.x b.x ha.1,U1 a.y b.y ha.2];rfl
def Yg(G:Int->Prop):∀n:Nat,∃r,Idx n G r
 | 0=>⟨-1,Or.inl ⟨rfl,All.zero⟩⟩
 | n+1=>by
  obtain⟨r,h⟩:=Yg G n;rcases h with⟨h1,h2⟩ | ⟨h1,h2,h3,h4⟩
  .by_cases g:G n
   .exact⟨n,Or.inr ⟨ah,ah,g,h2⟩⟩
   .exact⟨-1,Or.inl ⟨rfl,by have:=h2.snoc g;exact this.le ah⟩⟩
  .exact⟨r,Or.inr ⟨h1,ah,h3,h4⟩⟩
def Qc(G:Int->Prop)(n:Nat):Idx n G (idxOf n G):=by
 obtain⟨r,h⟩:=Yg G n;rw [<-h.eq];exact h
def lD(t:List Atom)(a:Atom):Idx t.length (λi=>a=t.getD i.toNat default) (qJ t a):=by
 have:=Qc (λi=>tY a (t.getD i.toNat default)=true) t.length;simp only [pF]at this;unfold qJ;simp only [pF];exact this
def jC{t:List Atom}:bB t↔All t.length (λi=>iB (t.getD i.toNat default) i/\All i (λj=>¬t.getD i.toNat default=t.getD j.toNat default))/\t.length<=200:=by
 unfold bB;refine and_congr ⟨λh i h1 h2=>⟨(h i h1 h2).1,?_⟩,λh i h1 h2=>⟨(h i h1 h2).1,?_⟩⟩ Iff.rfl
 .have:=lD t (t.getD i.toNat default);rw [(h i h1 h2).2]at this;rcases this with⟨g1,_⟩ | ⟨_,_,_,g⟩
  .omega
  .exact g
 .exact((lD t (t.getD i.toNat default)).uniq (Or.inr ⟨h1,h2,rfl,(h i h1 h2).2⟩))
def ae1{p1 f1 p2 f2}(U1:Y18 p1 f1)(U2:Y15 p2 f2)(a:List Atom)(ha:ShT a):
  O5.F (p1,f1,p2,f2,()) (a,()) (λy=>y=(bp (bB a),())):=by
 have hlen:=ha.1;dsimp only [O5,gm];simp (disch:=omega) only [RR];refine⟨λh=> ?_,λh=> ?_⟩
 .rw [iN (λh2=>by have:=h2.2;omega)]
 refine aQ (λ(y:Int×List Atom×Unit)=>y.2.1=a/\0<=y.1/\y.1<=a.length/\All y.1 (λi=>iB ((a).getD (i).toNat default) i/\All i (λj=>¬((a).getD (i).toNat default)=((a).getD (j).toNat default)))) (λy=>(a.length-y.1).toNat) ⟨rfl,by simp,by simp,All.zero⟩ ?_;rintro⟨(i:Int),(l:List Atom),⟨⟩⟩ hI;dsimp only at hI ⊢;obtain⟨rfl,h1,h2,h3⟩:=hI;simp (disch:=omega) only [RR,U1 _ _ (ha.at _),dh,lT];refine⟨λh4=>⟨ah,ah,λh5=> ?_,λh5=> ?_⟩,λh4=> ?_⟩
 .rw [iN (λh=>h5 (h.1 i h1 h4).1)]
 .refine aQ (λ(y:Int×Int×List Atom×Unit)=>y.1=i/\y.2.2.1=l/\0<=y.2.1/\y.2.1<=i/\All y.2.1 (λj=>¬((l).getD (i).toNat default)=((l).getD (j).toNat default))) (λy=>(i-y.2.1).toNat) ⟨rfl,rfl,by simp,by simp;omega,All.zero⟩ ?_;rintro⟨(i':Int),(j:Int),(l':List Atom),⟨⟩⟩ hI;dsimp only at hI ⊢;obtain⟨rfl,rfl,g1,g2,g3⟩:=hI;simp (disch:=omega) only [RR,U2 _ _ (ha.at _)];refine⟨λg4=>⟨ah,ah,ah,ah,λg5=> ?_,λg5=>⟨⟨ah,ah,g3.snoc ?_⟩,ah⟩⟩,λg4=>⟨⟨ah,ah,h3.snoc ⟨h5,g3.le ah⟩⟩,ah⟩⟩
  .rw [iN (λh=>((jC.1 h).1 i' h1 h4).2 j g1 g4 (pF.1 g5).symm)]
  .intro e;rw [pF.2 e.symm]at g5;cases g5
 .rw [dO (jC.2 ⟨h3.le ah,ah⟩)]
def ae2{p4 f4 p3 f3}(U4:Y11 p4 f4)(U3:Y6 p3 f3)(x y:List aA)(n:Int)(hx:Sh x)(hy:Sh y):O6.F (p4,f4,p3,f3,()) (x,y,n,()) (λz=>z=(bp (bK x/\bK y/\bH x n/\bH y n),())):=by
 dsimp only [O6,gm];simp (disch:=omega) only [RR,U3 x n hx,U3 y n hy,U4 x hx,U4 y hy];refine congrArg (λb=>(b,())) ?_;rw [Bool.eq_iff_iff,dh];simp only [Bool.and_eq_true,dh,and_assoc]
def ae3{p1 f1 p2 f2}(U1:Y9 p1 f1)(U2:Y10 p2 f2)(op a b:Int):
  Px.F (p2,f2,p1,f1,()) (op,a,b,()) (λy=>y=(wdo op a b,())):=by
 dsimp only [Px,gm];simp (disch:=omega) only [RR,U1,U2,Qb,Ya,kL,zF];by_cases ha:(0<=a/\a<=65535)/\(0<=b/\b<=65535)
 .have hm:0<=a*b/\a*b<=65535*65535:=⟨Int.mul_nonneg ha.1.1 ha.2.1,Int.mul_le_mul ha.1.2 ha.2.2 ha.2.1 ah⟩;rw [w64 (x:=a+b) ah ah,w64 (x:=a-b) ah ah,w64 (x:=a*b) ah ah];unfold wdo;rw [if_pos ha];refine⟨λh=>absurd h ah,λ_=>⟨λh=> ?_,λh=>⟨λh1=> ?_,λh1=>⟨λh2=> ?_,λh2=>⟨λh3=> ?_,λh3=>⟨λh4=> ?_,λh4=> ?_⟩⟩⟩⟩⟩⟩<;>(subst_vars;first | rfl | simp only [if_true,if_false, *])
 .refine⟨λh=> ?_,λh=>absurd h ?_⟩
  .unfold wdo;rw [if_neg ha]
  .exact ha
theorem ae4{p1 f1}(U1:Y11 p1 f1)(a:List aA)(ha:Sh a):
  Pw.F (p1,f1,()) (a,()) (λy=>y=((iC a).1,(iC a).2,())):=by
 dsimp only [Pw,gm];simp (disch:=omega) only [RR,U1 a ha];unfold iC;have z:Int.toNat 0=0:=rfl;rw [z];refine⟨λh=> ?_,λh=>⟨λh1=> ?_,λh1=>⟨ah,ah,λh2=> ?_,λh2=>⟨ah,ah,?_⟩⟩⟩⟩
 .rw [if_neg (by simpa using h)]
 .rw [if_pos h,if_pos ah]
 .rw [if_pos h,if_neg ah,if_neg ah]
 .rw [if_pos h,if_neg ah,if_pos ah]
def ae5(a:List aA)(ha:Sh a):O7.F () (a,()) (λy=>y=(a,())):=by
 have hlen:=ha.1;dsimp only [O7,gm];simp (disch:=omega) only [RR];refine aQ (λ(y:List aA×Int×List aA×Unit)=>y.1=a/\y.2.2.1=a.take y.2.1.toNat/\0<=y.2.1/\y.2.1<=a.length) (λy=>(a.length-y.2.1).toNat) ⟨rfl,by simp,by simp,by simp⟩ ?_;rintro⟨(l:List aA),(i:Int),(o:List aA),⟨⟩⟩ hI;dsimp only at hI ⊢;obtain⟨rfl,rfl,h1,h2⟩:=hI;have h3:=ha.at i.toNat;have h4:=List.length_take_le' i.toNat l;simp (disch:=omega) only [RR];simp only [List.length_nil,List.nil_append,List.length_cons];refine⟨λh4=>⟨ah,ah,ah,ah,Or.inr ah,ah,ah,⟨iE h1 h4 rfl,ah,ah⟩,ah⟩,λh4=>by rw [List.take_of_length_le ah]⟩
def JO(l:List aA):Prop:=l.length<=12/\∀m∈l,m.atoms.length<=4
def ae6{p1 f1}(U1:Y13 p1 f1)(a:List aA)(ha:Sh a):
  Pj.F (p1,f1,()) (a,()) (λy=>y=(bp (JO a),if bp (JO a)then a else [],())):=by
 have hlen:=ha.1;dsimp only [Pj,gm];simp (disch:=omega) only [RR];refine⟨λh=> ?_,λh=> ?_⟩
 .rw [iN (λh2=>by have:=h2.1;omega)];rfl
 refine aQ (λ(y:List aA×Int×Unit)=>y.1=a/\0<=y.2.1/\y.2.1<=a.length/\All y.2.1 (λi=>((a).getD (i).toNat default).atoms.length<=4)) (λy=>(a.length-y.2.1).toNat) ⟨rfl,by simp,by simp,All.zero⟩ ?_;rintro⟨(l:List aA),(i:Int),⟨⟩⟩ hI;dsimp only at hI ⊢;obtain⟨rfl,h1,h2,h3⟩:=hI;simp (disch:=omega) only [RR,U1 l ha];refine⟨λh4=>⟨ah,ah,λh5=> ?_,λh5=>⟨⟨ah,ah,h3.snoc ah⟩,ah⟩⟩,λh4=> ?_⟩
 .rw [iN (λh=>by have:=h.2 _ (fH (d:=default) h1 h4);omega)];rfl
 .rw [dO (show JO l from⟨ah,qK (d:=default) (G:=λm:aA=>m.atoms.length<=4).1 (h3.le ah)⟩)];rfl
def ae7{p1 f1}(U1:Y13 p1 f1)(a:Atom)(ha:ShA a):
  O8.F (p1,f1,()) (a,()) (λy=>y=(a.kind,a.k,a.x,a.y,())):=by
 dsimp only [O8,gm];simp (disch:=omega) only [RR,U1 a.x ha.1,U1 a.y ha.2]
abbrev Y34(pp:Atom×Unit->Bool)(ff:Atom×Unit->Int×Int×List aA×List aA×Unit):Prop:=∀a,ShA a->pp (a,())=true/\ff (a,())=(a.kind,a.k,a.x,a.y,())
def ae8{p1 f1}(U1:Y34 p1 f1)(a:List Atom)(ha:ShT a):
  PE.F (p1,f1,()) (a,()) (λy=>y=(a,())):=by
 have hlen:=ha.1;dsimp only [PE,gm];simp (disch:=omega) only [RR];refine aQ (λ(y:Int×List Atom×List Atom×Unit)=>y.2.1=a/\y.2.2.1=a.take y.1.toNat/\0<=y.1/\y.1<=a.length) (λy=>(a.length-y.1).toNat) ⟨rfl,by simp,by simp,by simp⟩ ?_;rintro⟨(i:Int),(l:List Atom),(o:List Atom),⟨⟩⟩ hI;dsimp only at hI ⊢;obtain⟨rfl,rfl,h1,h2⟩:=hI;simp (disch:=omega) only [RR,U1 _ (ha.at _)];have h5:=List.length_take_le' i.toNat l;refine⟨λh4=>⟨ah,ah,?_,⟨iE h1 h4 rfl,ah,ah⟩,ah⟩,λh4=>by rw [List.take_of_length_le ah]⟩;simp only [List.length_cons,List.length_nil];omega
def wF{p:List aA}{n m:Int}(h:bH p n)(h2:n<=m):bH p m:=dJ.2 λa ha k hk=>by have:=dJ.1 h a ha k hk;omega
def Yh{a:Atom}{n m:Int}(h:iB a n)(h2:n<=m):iB a m:=by
 unfold iB at h ⊢;split
 .rename_i h3;rw [if_pos h3]at h;exact⟨h.1,h.2.1,h.2.2.1,wF h.2.2.2.1 h2,wF h.2.2.2.2 h2⟩
 .rename_i h3;rw [if_neg h3]at h;exact h
def ae9{p1 f1 p2 f2 p3 f3}(U1:Y18 p1 f1)(U2:Y15 p2 f2)(U3:Y34 p3 f3)(a:Atom)(t:List Atom)(ha:ShA a)(ht:ShT t)(hok:bB t):O9.F (p1,f1,p2,f2,p3,f3,()) (a,t,()) (λy=>y=((bY t a).2,(bY t a).1,())):=by
 have hlen:=ht.1;dsimp only [O9,gm];simp (disch:=omega) only [RR,U1 _ _ ha,dh,lT];have hsp:=lD t a;refine⟨λh=> ?_,λh=> ?_⟩
 .have:qJ t a= -1:=by
   rcases hsp with⟨g,_⟩ | ⟨g1,g2,g3,_⟩
   .exact g
   .exfalso;apply h;have:=(hok.1 _ g1 g2).1;rw [<-g3]at this;exact Yh this ah
  unfold bY;rw [this,if_neg ah,if_pos (Or.inl h)]
 refine aQ (λ(y:Int×List Atom×Atom×Unit)=>y.2.1=t/\y.2.2.1=a/\0<=y.1/\y.1<=t.length/\All y.1 (λi=>¬a=t.getD i.toNat default)) (λy=>(t.length-y.1).toNat) ⟨rfl,rfl,by simp,by simp,All.zero⟩ ?_;rintro⟨(i:Int),(l:List Atom),(a':Atom),⟨⟩⟩ hI;dsimp only at hI ⊢;obtain⟨rfl,rfl,h1,h2,h3⟩:=hI;simp (disch:=omega) only [RR,U2 _ _ (ht.at _),U3 _ ha];refine⟨λh4=>⟨ah,ah,ah,ah,λh5=> ?_,λh5=>⟨⟨ah,ah,h3.snoc ?_⟩,ah⟩⟩,λh4=> ?_⟩
 .have e:=(pF.1 h5).symm;have:qJ l a'=i:=hsp.uniq (Or.inr ⟨h1,h4,e,h3⟩);unfold bY;rw [this,if_pos h1]
 .intro e;rw [pF.2 e.symm]at h5;cases h5
 .have:qJ l a'= -1:=hsp.uniq (Or.inl ⟨rfl,h3.le ah⟩);unfold bY;rw [this,if_neg ah];refine⟨λh5=> ?_,λh5=>⟨?_,?_⟩⟩
  .rw [if_pos (Or.inr ah)]
  .simp only [List.length_cons,List.length_nil];omega
  .rw [if_neg (by rintro(g | g);exact g h;omega),List.length_append];rw [w64 (by simp only [List.length_cons,List.length_nil];omega) (by simp only [List.length_cons,List.length_nil];omega)];simp only [List.length_cons,List.length_nil];rw [show(((l.length+(0+1):Nat):Int)-1)=l.length by omega]
def Ce(op n:Int)(y:List aA):List aA×Bool:=if op=4/\n=0 then([],true)else if(op=4/\n=65535)\/(op=5/\n=0)then(y,true)else([],false)
def afa{p1 f1}(U1:Y13 p1 f1)(op n:Int)(y:List aA)(hy:Sh y):
  Py.F (p1,f1,()) (op,n,y,()) (λz=>z=((Ce op n y).2,(Ce op n y).1,())):=by
 dsimp only [Py,gm];simp (disch:=omega) only [RR,U1 y hy];unfold Ce;by_cases c1:op=4<;>by_cases c2:n=0<;>by_cases c3:n=65535<;>by_cases c4:op=5<;>simp [c1,c2,c3,c4]<;>omega
def aa9(op:Int)(x y:List aA):uo op x y=if(iC x).2&& (iC y).2 then(fJ (wdo op (iC x).1 (iC y).1),true)
  else if gT x y=0 then(if op=4 then(x,true)else([],true))else if(iC x).2 then Ce op (iC x).1 y else if(iC y).2 then Ce op (iC y).1 x else([],false):=by
 unfold uo Ce;by_cases c1:gT x y=0<;>by_cases c2:op=4<;>simp [c1,c2]
def afb{p1 f1 p2 f2 p3 f3 p4 f4 p7 f7}{p8:Int×Int×List aA×Unit->Bool}{f8:Int×Int×List aA×Unit->Bool×List aA×Unit}(U1:Y8 p1 f1)(U2:Y13 p2 f2)(U3:Y24 p3 f3)(U4:Y22 p4 f4)(U7:Y27 p7 f7)(U8:∀op n y,Sh y->p8 (op,n,y,())=true/\f8 (op,n,y,())=((Ce op n y).2,(Ce op n y).1,()))(op:Int)(x y:List aA)(hx:Sh x)(hy:Sh y):Pz.F (p1,f1,p2,f2,p3,f3,p4,f4,p7,f7,p8,f8,()) (op,x,y,()) (λz=>z=((uo op x y).2,(uo op x y).1,())):=by
 dsimp only [Pz,gm];simp (disch:=omega) only [RR,U1 x y hx,U2 x hx,U3,U4,U7 x hx,U7 y hy,U8 op _ y hy,U8 op _ x hx];rw [aa9];generalize iC x=nx;generalize iC y=ny;obtain⟨n,bn⟩:=nx;obtain⟨m,bm⟩:=ny;dsimp only;by_cases e:gT x y=0<;>by_cases o4:op=4<;>cases bn<;>cases bm<;>simp [e,o4]
noncomputable def EU (op:Int) (x y:List aA):List aA×Bool:=
 if op=1 then((mO x y).2,(mO x y).1)else if op=2 then((mO x (iK y 65535)).2,(mO x (iK y 65535)).1)else if op=3 then((mP x y).2,(mP x y).1)else([],false)
def afc{p5 f5 p4 f4 p6 f6}(U5:Y23 p5 f5)(U4:Y25 p4 f4)(U6:Y26 p6 f6)(op:Int)(x y:List aA)(hx:Sh x)(hy:Sh y):Pq.F (p5,f5,p4,f4,p6,f6,()) (op,x,y,()) (λz=>z=((EU op x y).2,(EU op x y).1,())):=by
 dsimp only [Pq,gm];simp (disch:=omega) only [RR,U4 x y hx hy,U4 x _ hx (Hy y 65535),U5 x y hx hy,U6 y _ hy];unfold EU;refine⟨λh=>by rw [if_pos h],λh=>⟨λh1=>by rw [if_neg h,if_pos h1],λh1=>⟨λh2=>by rw [if_neg h,if_neg h1,if_pos h2],λh2=>by rw [if_neg h,if_neg h1,if_neg h2]⟩⟩⟩
abbrev Y35(pp:Atom×List Atom×Unit->Bool)(ff:Atom×List Atom×Unit->Int×List Atom×Unit):Prop:=∀a t,ShA a->ShT t->bB t->pp (a,t,())=true/\ff (a,t,())=((bY t a).2,(bY t a).1,())
def afd{p1 f1 p2 f2 p5 f5}{p3:Int×List aA×List aA×Unit->Bool}{f3:Int×List aA×List aA×Unit->Bool×List aA×Unit}{p4:Int×List aA×List aA×Unit->Bool}{f4:Int×List aA×List aA×Unit->Bool×List aA×Unit}(U1:Y28 p1 f1)(U2:Y8 p2 f2)(U3:∀op x y,Sh x->Sh y->p3 (op,x,y,())=true/\f3 (op,x,y,())=((EU op x y).2,(EU op x y).1,()))(U4:∀op x y,Sh x->Sh y->p4 (op,x,y,())=true/\f4 (op,x,y,())=((uo op x y).2,(uo op x y).1,()))(U5:Y35 p5 f5)(op:Int)(x y:List aA)(t:List Atom)(hop:1<=op/\op<=5)(hx:Sh x)(hy:Sh y)(ht:ShT t)(hok:bB t):PD.F (p1,f1,p2,f2,p3,f3,p4,f4,p5,f5,()) (op,x,y,t,()) (λz=>z=((tDo t op x y).1,(tDo t op x y).2,())):=by
 have s1:ShA ⟨4,op,x,y⟩:=⟨hx,hy⟩;have s2:ShA ⟨4,op,y,x⟩:=⟨hy,hx⟩;dsimp only [PD,gm];simp (disch:=omega) only [RR,U1,U2 x y hx,U3 op x y hx hy,U4 op x y hx hy,U5 _ _ s1 ht hok,U5 _ _ s2 ht hok];have e1:(op=4\/op=5)->uo op x y=fO op x y:=λh=>by unfold fO;rw [if_neg ah,if_neg ah,if_neg ah]
 have e2:¬(op=4\/op=5)->EU op x y=fO op x y:=λh=>by
  unfold fO EU;by_cases c1:op=1
  .rw [if_pos c1,if_pos c1]
  .rw [if_neg c1,if_neg c1];by_cases c2:op=2
   .rw [if_pos c2,if_pos c2]
   .rw [if_neg c2,if_neg c2,if_pos ah,if_pos ah]
 unfold tDo;by_cases c:op=4\/op=5
 .rw [e1 c];generalize bY t ⟨4,op,y,x⟩=r1;generalize bY t ⟨4,op,x,y⟩=r2;generalize gT x y=o;generalize fO op x y=s;obtain⟨p,b⟩:=s;have c':¬op=2:=by omega
  cases b<;>by_cases c2:0<o<;>by_cases c3:r1.2<0<;>by_cases c4:r2.2<0<;>simp [c,c',c2,c3,c4]<;>omega
 .rw [e2 c];generalize bY t ⟨4,op,y,x⟩=r1;generalize bY t ⟨4,op,x,y⟩=r2;generalize gT x y=o;generalize fO op x y=s;obtain⟨p,b⟩:=s;obtain⟨n4,n5⟩:=not_or.1 c;cases b<;>by_cases c1:op=2<;>by_cases c2:0<o<;>by_cases c3:r1.2<0<;>by_cases c4:r2.2<0<;>simp [n4,n5,c1,c2,c3,c4]
def Me{t:List Atom}{op:Int}{x y:List aA}:(bp (bB t)&&inB op 1 5&&bp (bK x/\bK y/\bH x t.length/\bH y t.length))=true->kM t op x y=tDo t op x y:=λh=>by
 simp only [Bool.and_eq_true,dh,kL,and_assoc]at h;unfold kM;rw [if_pos (by simpa only [and_assoc]using h)]
def Ia{t:List Atom}{op:Int}{x y:List aA}:¬(bp (bB t)&&inB op 1 5&&bp (bK x/\bK y/\bH x t.length/\bH y t.length))=true->kM t op x y=([],[]):=λh=>by
 simp only [Bool.and_eq_true,dh,kL,and_assoc]at h;unfold kM;rw [if_neg (by simpa only [and_assoc]using h)]
def afe{p1 f1 p2 f2 p5 f5}{p3:List aA×List aA×Int×Unit->Bool}{f3:List aA×List aA×Int×Unit->Bool×Unit}{p4:Int×List aA×List aA×List Atom×Unit->Bool}{f4:Int×List aA×List aA×List Atom×Unit->List Atom×List aA×Unit}(U1:Y1 p1 f1)(U2:Y29 p2 f2)(U3:∀x y n,Sh x->Sh y->p3 (x,y,n,())=true/\f3 (x,y,n,())=(bp (bK x/\bK y/\bH x n/\bH y n),()))(U4:∀op x y t,1<=op/\op<=5->Sh x->Sh y->ShT t->bB t->p4 (op,x,y,t,())=true/\f4 (op,x,y,t,())=((tDo t op x y).1,(tDo t op x y).2,()))(U5:Y31 p5 f5)(t:List Atom)(op:Int)(x y:List aA)(ht:ShT t)(hx:Sh x)(hy:Sh y):PI.F (p1,f1,p2,f2,p3,f3,p4,f4,p5,f5,()) (t,op,x,y,()) (λz=>z=((kM t op x y).1,(kM t op x y).2,())):=by
 dsimp only [PI,gm];simp (disch:=omega) only [RR,U1,U2 t ht,U3 x y _ hx hy,U5 t ht];refine⟨λh=> ?_,λh=> ?_⟩
 .rw [Ia];intro g;simp only [Bool.and_eq_true]at g;rcases h with(h | h) | h
  .rw [g.1.1]at h;cases h
  .rw [g.1.2]at h;cases h
  .rw [g.2]at h;cases h
 .rw [Me (by rw [h.1.1,h.1.2,h.2];rfl)];have h1:=dh.1 h.1.1;have h2:=kL.1 h.1.2;exact⟨(U4 _ _ _ _ h2 hx hy ht h1).1,by rw [(U4 _ _ _ _ h2 hx hy ht h1).2]⟩
structure Plus(l:List aA)(m:aA)(o:List aA):Prop where
 nf:Nf o
 cf:∀k,cf o k=F.cf (l++ [m]) k%65536
 len:o.length<=l.length+1
def aff{p1 f1 p2 f2}(U1:Y7 p1 f1)(U2:Y10 p2 f2)(l:List aA)(m:aA)(hl:l.length<1000000000)(hn:Nf l)(hm:1<=m.bU/\m.bU<=65535)(hma:m.atoms.length<1000000000):Ph.F (p1,f1,p2,f2,()) (l,m,()) (λy=>Plus l m y.1):=by
  dsimp only [Ph,gm]
  refine aQ (λ(y:List aA×Bool×Int×aA×List aA×Unit)=>y.1=l/\y.2.2.2.1=m/\0<=y.2.2.1/\y.2.2.1<=l.length/\
      ((y.2.1=false/\y.2.2.2.2.1=l.take y.2.2.1.toNat/\∀x∈l.take y.2.2.1.toNat,lt x m)\/
       (y.2.1=true/\Nf y.2.2.2.2.1/\(∀k,cf y.2.2.2.2.1 k=cf (l.take y.2.2.1.toNat++ [m]) k%65536)/\(y.2.2.2.2.1.length:Int)<=y.2.2.1+1/\(y.2.2.1<l.length->lt m ((l).getD (y.2.2.1).toNat default)/\∀x∈y.2.2.2.2.1,lt x ((l).getD (y.2.2.1).toNat default))))) (λy=>(l.length-y.2.2.1).toNat)
    ⟨rfl,rfl,by simp,by simp,Or.inl ⟨rfl,by simp,by simp⟩⟩ ?_
  rintro⟨(l':List aA),(dn:Bool),(i:Int),(m':aA),(o:List aA),⟨⟩⟩ hI;dsimp only at hI ⊢;obtain⟨rfl,rfl,h1,h2,h3⟩:=hI;simp (disch:=omega) only [RR,U1 _ _ hma,U2];have hss:=hn.ss;have nx:i+1<l'.length->lt ((l').getD (i).toNat default) ((l').getD (i+1).toNat default):=λh=>by
    have:=(eH (d:=default) (R:=lt) fT).1 hss (i+1) ah h;rw [show i+1-1=i by omega]at this;exact this
  have tk:i<l'.length->l'.take (i+1).toNat=l'.take i.toNat++ [((l').getD (i).toNat default)]:=λh=>(iE h1 h rfl).symm
  have bf:i<l'.length->∀x∈l'.take i.toNat,lt x ((l').getD (i).toNat default):=λh x hx=>by
    have:=hss;rw [<-List.take_append_drop i.toNat l',List.pairwise_append]at this;refine this.2.2 x hx _ ?_;rw [getD_lt ah,List.drop_eq_getElem_cons (show i.toNat<l'.length by omega)];exact List.mem_cons_self
  have lt0:=List.length_take_le' i.toNat l';have lt1:=List.length_take_le i.toNat l';have co:i<l'.length->1<=((l').getD (i).toNat default).bU/\((l').getD (i).toNat default).bU<=65535:=λh=>hn.co _ (fH h1 h)
  have ntk:Nf (l'.take i.toNat):=⟨List.Pairwise.sublist (List.take_sublist _ _) hss,λx hx=>hn.co x (List.mem_of_mem_take hx)⟩;have Yi:∀ {a:List aA} {x:aA},Nf a->(∀y∈a,lt y x)->1<=x.bU/\x.bU<=65535->Nf (a++ [x]):=λ{a x} g1 g2 g3=>⟨by
    rw [List.pairwise_append];exact⟨g1.ss,List.pairwise_singleton _ _,λy hy z hz=>by rw [List.mem_singleton]at hz;subst hz;exact g2 y hy⟩,λy hy=>by
    rw [List.mem_append,List.mem_singleton]at hy;rcases hy with hy | rfl
    · exact g1.co y hy
    · exact g3⟩
  have l1:∀(x:List aA) (y:aA),(x++ [y]).length=x.length+1:=λx y=>by rw [List.length_append];rfl
  have fin:∀o,i=l'.length->Nf o->(∀k,cf o k=cf (l'.take i.toNat++ [m']) k%65536)->(o.length:Int)<=i+1->Plus l' m' o:=λo e g1 g2 g3=>⟨g1,λk=>by rw [g2 k,List.take_of_length_le ah],ah⟩
  by_cases hi:i<l'.length
  · have nx:=nx;have tk:=tk hi;have bf:=bf hi;have co:=co hi;rw [tk];have hv:∀ {P:Prop},P->(∀x,x=((l').getD (i).toNat default)->P)->P:=λh _=>h
    generalize ((l').getD (i).toNat default)=v at nx tk bf co h3 ⊢;have cfs:∀k,cf (l'.take i.toNat++ [v]++ [m']) k=cf (l'.take i.toNat) k+(if v.atoms=k then v.bU else 0)+(if m'.atoms=k then m'.bU else 0):=λk=>by
      rw [dY,dY,bQ,bQ,jG];simp only [Int.add_zero]
    have cfm:∀k,cf (l'.take i.toNat++ [m']) k=cf (l'.take i.toNat) k+(if m'.atoms=k then m'.bU else 0):=λk=>by
      rw [dY,bQ,jG,Int.add_zero]
    rcases h3 with⟨rfl,rfl,h4⟩ | ⟨rfl,h4,h5,h6,h7⟩
    ·
      simp (disch:=omega) only [RR,decide_true,Bool.not_false,Bool.true_and,decide_eq_true_eq,hi];by_cases c1:dX m'.atoms v.atoms<0
      · have c2:¬dX m'.atoms v.atoms=0:=by omega
        simp (disch:=omega) only [RR,c1,c2];have n1:=Yi ntk h4 hm;have b2:∀x∈l'.take i.toNat++ [m'],lt x v:=λx hx=>by
          rw [List.mem_append,List.mem_singleton]at hx;rcases hx with hx | rfl
          · exact bf x hx
          · exact c1
        have n2:=Yi n1 b2 co;refine⟨ah,by rw [show([m']:List aA).length=1 from rfl];omega,ah,by rw [l1,show([v]:List aA).length=1 from rfl];omega,⟨ah,ah,Or.inr ⟨n2,λk=> ?_,by rw [l1,l1];omega,λh=>⟨fT c1 (nx h),λx hx=> ?_⟩⟩⟩,ah⟩
        · have e1:=cfs k;have e2:=n2.bnd k;have e3:cf (l'.take i.toNat++ [m']++ [v]) k=cf (l'.take i.toNat++ [v]++ [m']) k:=by rw [e1,dY,cfm,bQ,jG];omega
          rw [<-e3];omega
        · rw [List.mem_append,List.mem_singleton]at hx;rcases hx with hx | rfl
          · exact fT (b2 x hx) (nx h)
          · exact nx h
      · by_cases c2:dX m'.atoms v.atoms=0
        · have ev:=iR.1 c2;simp (disch:=omega) only [RR,c1,c2,List.append_nil];have zz:cf (l'.take i.toNat) v.atoms=0:=iq λx hx=>(bf x hx).ne
          refine⟨ah,λh=>absurd h ah,λ_=>⟨ah,λc3=> ?_,λc3=> ?_⟩⟩
          · have n2:=Yi (x:=⟨(v.bU+m'.bU)%65536,v.atoms⟩) ntk bf ⟨by dsimp only;omega,by dsimp only;omega⟩;refine⟨ah,by simp only [List.length_cons,List.length_nil];omega,⟨ah,ah,Or.inr ⟨n2,λk=> ?_,by rw [l1];omega,λh=>⟨?_,λx hx=> ?_⟩⟩⟩,ah⟩
            · have e1:=cfs k;have e2:=n2.bnd k;rw [e1];rw [dY,bQ,jG]at e2 ⊢;dsimp only at e2 ⊢;by_cases ek:v.atoms=k
              · rw [if_pos ek]at e2 ⊢;rw [if_pos ek,if_pos (ev.trans ek)];rw [<-ek,zz]at e2 ⊢;omega
              · rw [if_neg ek]at e2 ⊢;rw [if_neg ek,if_neg (λe=>ek (ev.symm.trans e))];omega
            · have:=nx h;unfold lt at this ⊢;rw [ev];exact this
            · rw [List.mem_append,List.mem_singleton]at hx;rcases hx with hx | rfl
              · exact fT (bf x hx) (nx h)
              · exact nx h
          · refine⟨⟨ah,ah,Or.inr ⟨ntk,λk=> ?_,ah,λh=>⟨?_,λx hx=>fT (bf x hx) (nx h)⟩⟩⟩,ah⟩
            · have e1:=cfs k;have e2:=ntk.bnd k;rw [e1];by_cases ek:v.atoms=k
              · rw [if_pos ek,if_pos (ev.trans ek),<-ek,zz];omega
              · rw [if_neg ek,if_neg (λe=>ek (ev.symm.trans e))];omega
            · have:=nx h;unfold lt at this ⊢;rw [ev];exact this
        · simp (disch:=omega) only [RR,c1,c2];refine⟨ah,ah,by simp only [List.length_cons,List.length_nil];omega,⟨ah,ah,Or.inl (λx hx=> ?_)⟩,ah⟩;rw [List.mem_append,List.mem_singleton]at hx;rcases hx with hx | rfl
          · exact h4 x hx
          · unfold lt;rw [lU];omega
    · have c3:=(h7 hi).1;have b2:=(h7 hi).2;have c1:dX m'.atoms v.atoms<0:=c3;have c2:¬dX m'.atoms v.atoms=0:=by omega
      simp (disch:=omega) only [RR,decide_true,Bool.not_true,Bool.false_and,decide_eq_true_eq,hi,c2];have n2:=Yi h4 b2 co;refine⟨ah,λh=>h.1.elim,ah,by simp only [List.length_cons,List.length_nil];omega,⟨ah,ah,Or.inr ⟨n2,λk=> ?_,by rw [l1];omega,λh=>⟨fT c3 (nx h),λx hx=> ?_⟩⟩⟩,ah⟩
      · have e1:=cfs k;have e2:=n2.bnd k;have e3:=h5 k;rw [cfm]at e3;rw [dY,bQ,jG]at e2 ⊢;rw [e1];by_cases ek:v.atoms=k
        · rw [if_pos ek]at e2 ⊢;omega
        · rw [if_neg ek]at e2 ⊢;omega
      · rw [List.mem_append,List.mem_singleton]at hx;rcases hx with hx | rfl
        · exact fT (b2 x hx) (nx h)
        · exact nx h
  · have ei:i=l'.length:=by omega
    rcases h3 with⟨rfl,rfl,h4⟩ | ⟨rfl,h4,h5,h6,h7⟩
    · simp (disch:=omega) only [RR,decide_true,Bool.not_false,Bool.true_and,decide_eq_true_eq,hi];have n1:=Yi ntk h4 hm;refine⟨by simp only [List.length_cons,List.length_nil];omega,fin _ ei n1 (λk=> ?_) (by rw [l1];omega)⟩;have e2:=n1.bnd k;omega
    · simp (disch:=omega) only [RR,decide_true,Bool.not_true,Bool.false_and,decide_eq_true_eq,hi];exact fin _ ei h4 h5 h6
def qj{a o:List Int}(h:o.Pairwise (· <= ·))(hp:o.Perm a):o=dS a:=by
 refine List.Perm.eq_of_pairwise (le:=λx y:Int=>x<=y) (λa b _ _ h1 h2=>Int.le_antisymm h1 h2) h ?_ (hp.trans (List.mergeSort_perm a _).symm);have:=List.pairwise_mergeSort (le:=λx y:Int=>decide (x<=y)) (λa b c h1 h2=>by simp at*;omega) (λa b=>by simp;omega) a;exact this.imp (λh=>by simpa using h)
def afg(a b:List Int)(ha:a.length<100000000)(hb:b.length<100000000)(sa:a.Pairwise (· <= ·))(sb:b.Pairwise (· <= ·)):
  Po.F () (a,b,()) (λy=>y=(dS (a++b),())):=by
 dsimp only [Po,gm];have sa':=(eH (d:=default) (R:=λa b:Int=>a<=b) (λh1 h2=>Int.le_trans h1 h2)).1 sa;have sb':=(eH (d:=default) (R:=λa b:Int=>a<=b) (λh1 h2=>Int.le_trans h1 h2)).1 sb
 let I:List Int->Int->Int->Prop:=λo i k=>0<=i/\i<=a.length/\0<=k/\k<=b.length/\o.Pairwise (· <= ·)/\o.Perm (a.take i.toNat++b.take k.toNat)/\(i<a.length->∀x∈o,x<=((a).getD (i).toNat default))/\(k<b.length->∀x∈o,x<=((b).getD (k).toNat default))
 have sn:∀ {o:List Int} {y:Int},o.Pairwise (· <= ·)->(∀x∈o,x<=y)->(o++ [y]).Pairwise (· <= ·):=λ{o y} g1 g2=>by
  rw [List.pairwise_append];exact⟨g1,List.pairwise_singleton _ _,λx hx z hz=>by rw [List.mem_singleton]at hz;subst hz;exact g2 x hx⟩
 have il:∀o i k,I o i k->(o.length:Int)=i+k:=λo i k ⟨h1,h2,h3,h4,_,h5,_⟩=>by
  have:=h5.length_eq;rw [List.length_append,List.length_take,List.length_take]at this;omega
 have stA:∀o i k,I o i k->i<a.length->(k<b.length->((a).getD (i).toNat default)<=((b).getD (k).toNat default))->I (o++ [((a).getD (i).toNat default)]) (i+1) k:=by
  rintro o i k ⟨h1,h2,h3,h4,h5,h6,h7,h8⟩ hi hk;refine⟨ah,ah,h3,h4,sn h5 (h7 hi),?_,λg x hx=> ?_,λg x hx=> ?_⟩
  .rw [<-iE (d:=default) h1 hi rfl];refine(h6.append_right _).trans ?_;rw [List.append_assoc,List.append_assoc];exact(List.perm_append_comm).append_left _
  .have:=sa' (i+1) ah g;rw [show i+1-1=i by omega]at this;rw [List.mem_append,List.mem_singleton]at hx;rcases hx with hx | rfl
   .exact Int.le_trans (h7 hi x hx) this
   .exact this
  .rw [List.mem_append,List.mem_singleton]at hx;rcases hx with hx | rfl
   .exact h8 g x hx
   .exact hk g
 have stB:∀o i k,I o i k->k<b.length->(i<a.length->((b).getD (k).toNat default)<=((a).getD (i).toNat default))->I (o++ [((b).getD (k).toNat default)]) i (k+1):=by
  rintro o i k ⟨h1,h2,h3,h4,h5,h6,h7,h8⟩ hk hi;refine⟨h1,h2,ah,ah,sn h5 (h8 hk),?_,λg x hx=> ?_,λg x hx=> ?_⟩
  .rw [<-iE (d:=default) h3 hk rfl,<-List.append_assoc];exact h6.append_right _
  .rw [List.mem_append,List.mem_singleton]at hx;rcases hx with hx | rfl
   .exact h7 g x hx
   .exact hi g
  .have:=sb' (k+1) ah g;rw [show k+1-1=k by omega]at this;rw [List.mem_append,List.mem_singleton]at hx;rcases hx with hx | rfl
   .exact Int.le_trans (h8 hk x hx) this
   .exact this
 refine aQ (λ(y:List Int×List Int×Int×Int×List Int×Unit)=>y.1=a/\y.2.1=b/\I y.2.2.2.2.1 y.2.2.1 y.2.2.2.1) (λy=>(b.length-y.2.2.2.1).toNat)
  ⟨rfl,rfl,by simp,by simp,by simp,by simp,List.Pairwise.nil,by simp,λ_ x hx=>absurd hx (by simp),λ_ x hx=>absurd hx (by simp)⟩ ?_
 rintro⟨(a':List Int),(b':List Int),(i:Int),(k:Int),(o:List Int),⟨⟩⟩ hI;dsimp only at hI ⊢;obtain⟨rfl,rfl,hI⟩:=hI;have hb1:=hI.1;have hb2:=hI.2.1;have hb3:=hI.2.2.1;have hb4:=hI.2.2.2.1;have hol:=il _ _ _ hI;simp (disch:=omega) only [RR];refine⟨λh9=> ?_,λh9=> ?_⟩
 .refine aQ (λ(y:List Int×List Int×Int×Int×List Int×Unit)=>y.1=a'/\y.2.1=b'/\y.2.2.2.1=k/\I y.2.2.2.2.1 y.2.2.1 k) (λy=>(a'.length-y.2.2.1).toNat) ⟨rfl,rfl,rfl,hI⟩ ?_;rintro⟨(a2:List Int),(b2:List Int),(i2:Int),(k2:Int),(o2:List Int),⟨⟩⟩ hI2;dsimp only at hI2 ⊢;obtain⟨rfl,rfl,rfl,hI2⟩:=hI2;have hc1:=hI2.1;have hc2:=hI2.2.1;have hol:=il _ _ _ hI2;simp (disch:=omega) only [RR];refine⟨ah,ah,ah,ah,λ⟨g1,g2⟩=>⟨ah,g1,by simp only [List.length_cons,List.length_nil];omega,stA _ _ _ hI2 g1 (λ_=>g2),ah⟩,λg=>⟨ah,h9,by simp only [List.length_cons,List.length_nil];omega,stB _ _ _ hI2 h9 (λg1=> ?_),ah⟩⟩;rw [decide_eq_true g1,Bool.true_and,decide_eq_false_iff_not]at g;omega
 .have e1:List.drop i.toNat (List.take ((a'.length:Int)).toNat a')=a'.drop i.toNat:=by rw [List.take_of_length_le ah]
  rw [e1];refine⟨ah,ah,ah,by rw [List.length_drop];omega,?_⟩;obtain⟨h1,h2,h3,h4,h5,h6,h7,h8⟩:=hI;rw [qj (a:=a'++b') (o:=o++a'.drop i.toNat)]
  .rw [List.pairwise_append];refine⟨h5,List.Pairwise.sublist (List.drop_sublist _ _) sa,λx hx y hy=> ?_⟩;by_cases hi:i<a'.length
   .refine Int.le_trans (h7 hi x hx) ?_;rw [List.drop_eq_getElem_cons (show i.toNat<a'.length by omega)]at hy;have hd:=List.Pairwise.sublist (List.drop_sublist i.toNat _) sa;rw [List.drop_eq_getElem_cons (show i.toNat<a'.length by omega)]at hd;rw [getD_lt (show i.toNat<a'.length by omega)];rcases List.mem_cons.1 hy with rfl | hy
    .exact Int.le_refl _
    .exact List.rel_of_pairwise_cons hd hy
   .rw [List.drop_eq_nil_of_le ah]at hy;exact absurd hy (by simp)
  .rw [List.take_of_length_le (show b'.length<=k.toNat by omega)]at h6;refine(h6.append_right _).trans ?_;rw [List.append_assoc];refine((List.perm_append_comm).append_left _).trans ?_;rw [<-List.append_assoc,List.take_append_drop]
def bK.nf{p:List aA}(h:bK p):Nf p:=(fU.1 h).1
def bK.aok{p:List aA}(h:bK p){m:aA}(hm:m∈p):m.atoms.length<=4/\F.aok m.atoms:=(fU.1 h).2.2 m hm
def JQ{l o:List aA}(h:Nf o)(h2:∀k,cf o k=cf l k%65536)(h3:∀m∈l,aok m.atoms):(bp (JO o),if bp (JO o)then o else [])=((lY l).1,(lY l).2):=by
 rw [aa8 h h2 h3];by_cases c:JO o
 .rw [dO c,if_pos rfl];dsimp only;rw [decide_eq_true (show o.length<=12/\∀m∈o,m.atoms.length<=4 from c),if_pos (show o.length<=12/\∀m∈o,m.atoms.length<=4 from c)]
 .rw [iN c,if_neg (by simp)];dsimp only;rw [decide_eq_false (show¬(o.length<=12/\∀m∈o,m.atoms.length<=4)from c),if_neg (show¬(o.length<=12/\∀m∈o,m.atoms.length<=4)from c)]
def Yj{o l:List aA}(h:Nf o)(h2:∀k,cf o k=cf l k%65536)(h3:∀m∈l,m.atoms.length<1000000000)(h4:o.length<1000000000):Sh o:=⟨h4,λm hm=>by
 obtain⟨m',g1,g2⟩:=h.from h2 hm;rw [<-g2];exact h3 m' g1⟩
abbrev Y36(pp:List aA×aA×Unit->Bool)(ff:List aA×aA×Unit->List aA×Unit):Prop:=∀(l:List aA) m,l.length<1000000000->Nf l->1<=m.bU/\m.bU<=65535->m.atoms.length<1000000000->pp (l,m,())=true/\Plus l m (ff (l,m,())).1
abbrev Y37(pp:List aA×Unit->Bool)(ff:List aA×Unit->Bool×List aA×Unit):Prop:=∀a,Sh a->pp (a,())=true/\ff (a,())=(bp (JO a),if bp (JO a)then a else [],())
def afh{p1 f1 p2 f2 p3 f3}(U1:Y11 p1 f1)(U2:Y36 p2 f2)(U3:Y37 p3 f3)(a b:List aA)(ha:Sh a)(hb:Sh b):Pk.F (p1,f1,p2,f2,p3,f3,()) (a,b,()) (λy=>y=((mO a b).1,(mO a b).2,())):=by
 dsimp only [Pk,gm];simp (disch:=omega) only [RR,U1 a ha,U1 b hb,dh,lT];unfold mO;refine⟨λh=> ?_,λ⟨h1,h2⟩=> ?_⟩
 .rw [if_neg];rw [Bool.and_eq_true,dh,dh];rintro⟨g1,g2⟩;rcases h with h | h
  .exact h g1
  .exact h g2
 rw [if_pos (by rw [dO h1,dO h2];rfl)];have l1:=h1.len;have l2:=h2.len;have hl:∀m∈a++b,F.aok m.atoms/\m.atoms.length<1000000000:=λm hm=>by
  rw [List.mem_append]at hm;rcases hm with hm | hm
  .exact⟨(h1.aok hm).2,ha.2 m hm⟩
  .exact⟨(h2.aok hm).2,hb.2 m hm⟩
 refine aQ (λ(y:List aA×Int×List aA×Unit)=>y.2.2.1=b/\0<=y.2.1/\y.2.1<=b.length/\Nf y.1/\(∀k,cf y.1 k=cf (a++b.take y.2.1.toNat) k%65536)/\(y.1.length:Int)<=12+y.2.1) (λy=>(b.length-y.2.1).toNat)
  ⟨rfl,by simp,by simp,h1.nf,λk=>by have:=h1.nf.bnd k;simp only [Int.toNat_zero,List.take_zero,List.append_nil];omega,by simp only;omega⟩ ?_
 rintro⟨(o:List aA),(i:Int),(b':List aA),⟨⟩⟩ hI;dsimp only at hI ⊢;obtain⟨rfl,h3,h4,h5,h6,h7⟩:=hI;have so:Sh o:=Yj h5 h6 (λm hm=>(hl m (by rw [List.mem_append]at hm ⊢;exact hm.imp id List.mem_of_mem_take)).2) ah;simp (disch:=omega) only [RR,U3 o so];refine⟨λh9=> ?_,λh9=> ?_⟩
 .have hm:=h2.nf.co _ (fH (d:=default) h3 h9);have pl:=(U2 o ((b').getD (i).toNat default) so.1 h5 hm (hb.at _)).2;refine⟨ah,ah,(U2 o ((b').getD (i).toNat default) so.1 h5 hm (hb.at _)).1,⟨ah,ah,pl.nf,λk=> ?_,by have:=pl.len;omega⟩,ah⟩;rw [pl.cf k,dY,h6 k,<-iE (d:=default) h3 h9 rfl,<-List.append_assoc,dY (a++_)];omega
 .have:=JQ h5 (λk=>by rw [h6 k,List.take_of_length_le ah]) (λm hm=>(hl m hm).1);exact congrArg (λz:Bool×List aA=>(z.1,z.2,())) this
def afi{p1 f1 p0 f0 p2 f2 p3 f3}{p4:List Int×List Int×Unit->Bool}{f4:List Int×List Int×Unit->List Int×Unit}(U1:Y11 p1 f1)(U0:Y10 p0 f0)(U2:Y36 p2 f2)(U4:∀a b:List Int,a.length<100000000->b.length<100000000->a.Pairwise (· <= ·)->b.Pairwise (· <= ·)->p4 (a,b,())=true/\f4 (a,b,())=(dS (a++b),()))(U3:Y37 p3 f3)(a b:List aA)(ha:Sh a)(hb:Sh b):Pp.F (p1,f1,p0,f0,p2,f2,p4,f4,p3,f3,()) (a,b,()) (λy=>y=((mP a b).1,(mP a b).2,())):=by
 have hp1:=λz1 z2=>(U1 z1 z2).1
 have hf1:=λz1 z2=>(U1 z1 z2).2
 have hp0:=λz1=>(U0 z1).1
 have hf0:=λz1=>(U0 z1).2
 have hp2:=λz1 z2 z3 z4 z5 z6=>(U2 z1 z2 z3 z4 z5 z6).1
 have hf2:=λz1 z2 z3 z4 z5 z6=>(U2 z1 z2 z3 z4 z5 z6).2
 have hp4:=λz1 z2 z3 z4 z5 z6=>(U4 z1 z2 z3 z4 z5 z6).1
 have hf4:=λz1 z2 z3 z4 z5 z6=>(U4 z1 z2 z3 z4 z5 z6).2
 have hp3:=λz1 z2=>(U3 z1 z2).1
 have hf3:=λz1 z2=>(U3 z1 z2).2
 dsimp only [Pp,gm];simp (disch:=omega) only [RR,hp1 a ha,hf1 a ha,hp1 b hb,hf1 b hb,dh,lT];unfold mP;refine⟨λh=> ?_,λ⟨h1,h2⟩=> ?_⟩
 .rw [if_neg];rw [Bool.and_eq_true,dh,dh];rintro⟨g1,g2⟩;rcases h with h | h
  .exact h g1
  .exact h g2
 rw [if_pos (by rw [dO h1,dO h2];rfl)];have l1:=h1.len;have l2:=h2.len;have am:∀m∈a,∀n∈b,aok (mulM m n).atoms/\(mulM m n).atoms.length<=8:=λm hm n hn=>by
  obtain⟨g1,g2⟩:=h1.aok hm;obtain⟨g3,g4⟩:=h2.aok hn;refine⟨⟨?_,λk hk=> ?_⟩,?_⟩
  .have:=List.pairwise_mergeSort (le:=λx y:Int=>decide (x<=y)) (λa b c h1 h2=>by simp at*;omega) (λa b=>by simp;omega) (m.atoms++n.atoms);exact this.imp (λh=>by simpa using h)
  .have:k∈m.atoms++n.atoms:=List.mem_mergeSort.1 hk;rw [List.mem_append]at this;rcases this with hk | hk
   .exact g2.2 k hk
   .exact g4.2 k hk
  .show(dS _).length<=8;rw [rW,List.length_append];omega
 have pm:∀m∈prods a b,aok m.atoms/\m.atoms.length<=8:=λm hm=>by
  unfold prods at hm;rw [List.mem_flatMap]at hm;obtain⟨x,hx,hm⟩:=hm;rw [List.mem_map]at hm;obtain⟨y,hy,rfl⟩:=hm;exact am x hx y hy
 let J:List aA->Int->Int->Prop:=λo i k=>Nf o/\(∀t,cf o t=cf (prods (a.take i.toNat) b++(b.take k.toNat).map (mulM ((a).getD (i).toNat default))) t%65536)/\(o.length:Int)<=12*i+k
 refine aQ (λ(y:Int×List aA×List aA×List aA×Unit)=>y.2.1=a/\y.2.2.1=b/\0<=y.1/\y.1<=a.length/\J y.2.2.2.1 y.1 0) (λy=>(a.length-y.1).toNat)
  ⟨rfl,rfl,by simp,by simp,⟨⟨List.Pairwise.nil,λm hm=>absurd hm (by simp)⟩,λk=>by simp [cf,prods],by simp⟩⟩ ?_
 rintro⟨(i:Int),(a':List aA),(b':List aA),(o:List aA),⟨⟩⟩ hI;dsimp only at hI ⊢;obtain⟨rfl,rfl,h3,h4,hJ⟩:=hI;have hJ1:=hJ.2.2;have so:Sh o:=Yj (l:=prods (a'.take i.toNat) b') hJ.1 (λt=>by rw [hJ.2.1 t];simp) (λm hm=>by
  have:m∈prods a' b':=by
   unfold prods at hm ⊢;rw [List.mem_flatMap]at hm ⊢;obtain⟨x,hx,hm⟩:=hm;exact⟨x,List.mem_of_mem_take hx,hm⟩
  have:=(pm m this).2;omega) ah
 simp (disch:=omega) only [RR,hp3 o so,hf3 o so];refine⟨λh9=> ?_,λh9=> ?_⟩
 .refine aQ (λ(y:Int×Int×List aA×List aA×List aA×Unit)=>y.1=i/\y.2.2.1=a'/\y.2.2.2.1=b'/\0<=y.2.1/\y.2.1<=b'.length/\J y.2.2.2.2.1 i y.2.1) (λy=>(b'.length-y.2.1).toNat) ⟨rfl,rfl,rfl,by simp,by simp,hJ⟩ ?_;rintro⟨(i':Int),(k:Int),(a2:List aA),(b2:List aA),(o2:List aA),⟨⟩⟩ hI;dsimp only at hI ⊢;obtain⟨rfl,rfl,rfl,g1,g2,hK⟩:=hI;have hK1:=hK.2.2;by_cases g3:k<b2.length
  .have ma:((a2).getD (i').toNat default)∈a2:=fH h3 h9;have mb:((b2).getD (k).toNat default)∈b2:=fH g1 g3;have ca:=h1.nf.co _ ma;have cb:=h2.nf.co _ mb;obtain⟨q1,q2⟩:=h1.aok ma;obtain⟨q3,q4⟩:=h2.aok mb;have hm:=JL (show 0<=((a2).getD (i').toNat default).bU by omega) ah (show 0<=((b2).getD (k).toNat default).bU by omega) ah;have am':=(am _ ma _ mb).2;simp (disch:=omega) only [RR,hp0,hf0,hp4 _ _ (show((a2).getD (i').toNat default).atoms.length<100000000 by omega) (show((b2).getD (k).toNat default).atoms.length<100000000 by omega) q2.1 q4.1,hf4 _ _ (show((a2).getD (i').toNat default).atoms.length<100000000 by omega) (show((b2).getD (k).toNat default).atoms.length<100000000 by omega) q2.1 q4.1];have tk:prods (a2.take i'.toNat) b2++(b2.take (k+1).toNat).map (mulM ((a2).getD (i').toNat default))=prods (a2.take i'.toNat) b2++(b2.take k.toNat).map (mulM ((a2).getD (i').toNat default))++ [mulM ((a2).getD (i').toNat default) ((b2).getD (k).toNat default)]:=by
    rw [<-iE (d:=default) g1 g3 rfl,List.map_append,List.append_assoc];rfl
   refine⟨λ_=>⟨ah,ah,ah,ah,λg4=> ?_,λg4=>⟨⟨ah,ah,hK.1,λt=> ?_,ah⟩,ah⟩⟩,λh=>absurd g3 h⟩
   .have ahV:(⟨((a2).getD (i').toNat default).bU*((b2).getD (k).toNat default).bU%65536,dS (((a2).getD (i').toNat default).atoms++((b2).getD (k).toNat default).atoms)⟩:aA).atoms.length<1000000000:=by have:(dS (((a2).getD (i').toNat default).atoms++((b2).getD (k).toNat default).atoms)).length<=8:=am';dsimp only;omega
    have cc:1<=(⟨((a2).getD (i').toNat default).bU*((b2).getD (k).toNat default).bU%65536,dS (((a2).getD (i').toNat default).atoms++((b2).getD (k).toNat default).atoms)⟩:aA).bU/\(⟨((a2).getD (i').toNat default).bU*((b2).getD (k).toNat default).bU%65536,dS (((a2).getD (i').toNat default).atoms++((b2).getD (k).toNat default).atoms)⟩:aA).bU<=65535:=by dsimp only;omega
    have pl:=hf2 o2 _ ah hK.1 cc ahV;refine⟨ah,ah,ah,ah,hp2 o2 _ ah hK.1 cc ahV,⟨ah,ah,pl.nf,λt=> ?_,by have:=pl.len;omega⟩,ah⟩;rw [pl.cf t,dY,hK.2.1 t,tk,dY (prods _ _++_)];show(_+cf [mulM ((a2).getD (i').toNat default) ((b2).getD (k).toNat default)] t)%65536=_;omega
   .rw [tk,dY,hK.2.1 t];have:cf [mulM ((a2).getD (i').toNat default) ((b2).getD (k).toNat default)] t=0:=by
     rw [bQ,jG];have:(mulM ((a2).getD (i').toNat default) ((b2).getD (k).toNat default)).bU=0:=by show((a2).getD (i').toNat default).bU*((b2).getD (k).toNat default).bU%65536=0;omega
     rw [this];split<;>rfl
    rw [this];omega
  .simp (disch:=omega) only [RR];refine⟨λh=>absurd h g3,λ_=>⟨⟨ah,ah,hK.1,λt=> ?_,ah⟩,ah⟩⟩;rw [hK.2.1 t,List.take_of_length_le (show b2.length<=k.toNat by omega),<-ET,iE (d:=default) h3 h9 rfl];simp
 .have:=JQ hJ.1 (l:=prods a' b') (λt=>by rw [hJ.2.1 t,List.take_of_length_le (show a'.length<=i.toNat by omega)];simp) (λm hm=>(pm m hm).1);exact congrArg (λz:Bool×List aA=>(z.1,z.2,())) this
def EW{m:aA}(n:Int)(h:aok m.atoms):mulM m ⟨n,[]⟩=⟨m.bU*n%65536,m.atoms⟩:=by
 unfold mulM;rw [<-qj (a:=m.atoms++ []) (o:=m.atoms) h.1 (by simp)]
def Bn(a:List aA)(n:aA):prods a [n]=a.map (λm=>mulM m n):=by
 induction a with
 | nil=>rfl
 | cons x a ih=>simp only [prods,List.flatMap_cons,List.map_cons,List.map_nil]at ih ⊢;rw [ih];rfl
def Mf{t:List Int}:∀ {l:List aA},(∀m∈l,m.bU=0)->cf l t=0
 | [],_=>rfl
 | m::l,h=>by rw [bQ,Mf (λm hm=>h m (by simp [hm])),h m (by simp)];split<;>rfl
def iF:bK []:=fU.2 ⟨⟨List.Pairwise.nil,λm hm=>absurd hm (by simp)⟩,by simp,λm hm=>absurd hm (by simp)⟩
def lW(n:Int):bK (fJ n):=by
 unfold fJ;split
 .refine fU.2 ⟨⟨List.pairwise_singleton _ _,λm hm=> ?_⟩,by simp,λm hm=> ?_⟩
  .rw [List.mem_singleton]at hm;subst hm;assumption
  .rw [List.mem_singleton]at hm;subst hm;exact⟨by simp,List.Pairwise.nil,λk hk=>absurd hk (by simp)⟩
 .exact iF
def nK(n:Int):bK (gK n):=by
 unfold gK;split
 .refine fU.2 ⟨⟨List.pairwise_singleton _ _,λm hm=> ?_⟩,by simp,λm hm=> ?_⟩
  .rw [List.mem_singleton]at hm;subst hm;dsimp only;omega
  .rw [List.mem_singleton]at hm;subst hm;exact⟨by simp,List.pairwise_singleton _ _,λk hk=>by rw [List.mem_singleton]at hk;omega⟩
 .exact iF
def afj{p1 f1 p0 f0 p4 f4 p3 f3}(U1:Y11 p1 f1)(U0:Y10 p0 f0)(U4:Y13 p4 f4)(U3:Y9 p3 f3)(a:List aA)(n:Int)(ha:Sh a):Pn.F (p1,f1,p0,f0,p4,f4,p3,f3,()) (a,n,()) (λy=>y=(iK a n,())):=by
 dsimp only [Pn,gm];simp (disch:=omega) only [RR,U1 a ha,U3,dh,lT,kL,zF];unfold iK;refine⟨λh=> ?_,λ⟨h1,h2⟩=> ?_⟩
 .rw [if_neg];rw [Bool.and_eq_true,dh,kL];rintro⟨g1,g2⟩;rcases h with h | h
  .exact h g1
  .exact h g2
 rw [if_pos (by rw [dO h1,Bool.true_and,kL];exact h2)];have l1:=h1.len;have hss:=h1.nf.ss
 refine aQ (λ(y:Int×Int×List aA×List aA×Unit)=>y.1=n/\y.2.2.1=a/\0<=y.2.1/\y.2.1<=a.length/\Nf y.2.2.2.1/\(y.2.2.2.1.length:Int)<=y.2.1/\(∀t,cf y.2.2.2.1 t=cf ((a.take y.2.1.toNat).map (λm=>⟨m.bU*n%65536,m.atoms⟩)) t%65536)
   /\(∀x∈y.2.2.2.1,x.atoms.length<=4/\(y.2.1<a.length->lt x ((a).getD (y.2.1).toNat default)))) (λy=>(a.length-y.2.1).toNat)
  ⟨rfl,rfl,by simp,by simp,⟨List.Pairwise.nil,λm hm=>absurd hm (by simp)⟩,by simp,λt=>by simp [cf],λx hx=>absurd hx (by simp)⟩ ?_
 rintro⟨(n':Int),(i:Int),(a':List aA),(o:List aA),⟨⟩⟩ hI;dsimp only at hI ⊢;obtain⟨rfl,rfl,h3,h4,h5,h6,h7,h8⟩:=hI;have so:Sh o:=⟨ah,λm hm=>by have:=(h8 m hm).1;omega⟩;by_cases h9:i<a'.length
 .have ma:((a').getD (i).toNat default)∈a':=fH h3 h9;have ca:=h1.nf.co _ ma;have qa:=h1.aok ma;have hm:=JL (show 0<=((a').getD (i).toNat default).bU by omega) ah h2.1 h2.2;have nx:i+1<a'.length->lt ((a').getD (i).toNat default) ((a').getD (i+1).toNat default):=λh=>by
   have:=(eH (d:=default) (R:=lt) fT).1 hss (i+1) ah h;rw [show i+1-1=i by omega]at this;exact this
  have tk:(a'.take (i+1).toNat).map (λm:aA=>(⟨m.bU*n'%65536,m.atoms⟩:aA))=(a'.take i.toNat).map (λm:aA=>(⟨m.bU*n'%65536,m.atoms⟩:aA))++ [⟨((a').getD (i).toNat default).bU*n'%65536,((a').getD (i).toNat default).atoms⟩]:=by
   rw [<-iE (d:=default) h3 h9 rfl,List.map_append];rfl
  simp (disch:=omega) only [RR,U0];refine⟨λ_=>⟨ah,ah,λg=>⟨ah,ah,by simp only [List.length_cons,List.length_nil];omega,⟨ah,ah,?_,?_,λt=> ?_,λx hx=> ?_⟩,ah⟩,λg=>⟨⟨ah,ah,h5,ah,λt=> ?_,λx hx=>⟨(h8 x hx).1,λg2=>fT ((h8 x hx).2 h9) (nx g2)⟩⟩,ah⟩⟩,λh=>absurd h9 h⟩
  .refine⟨?_,λx hx=> ?_⟩
   .rw [List.pairwise_append];exact⟨h5.ss,List.pairwise_singleton _ _,λx hx z hz=>by rw [List.mem_singleton]at hz;subst hz;exact(h8 x hx).2 h9⟩
   .rw [List.mem_append,List.mem_singleton]at hx;rcases hx with hx | rfl
    .exact h5.co x hx
    .dsimp only;omega
  .rw [List.length_append];simp only [List.length_cons,List.length_nil];omega
  .rw [tk,dY,dY,h7 t,bQ,jG];dsimp only;by_cases et:((a').getD (i).toNat default).atoms=t
   .rw [if_pos et];have z:cf o t=0:=iq λx hx e=>((h8 x hx).2 h9).ne (e.trans et.symm)
    rw [h7 t]at z;omega
   .rw [if_neg et];omega
  .rw [List.mem_append,List.mem_singleton]at hx;rcases hx with hx | rfl
   .exact⟨(h8 x hx).1,λg2=>fT ((h8 x hx).2 h9) (nx g2)⟩
   .exact⟨qa.1,λg2=>nx g2⟩
  .rw [tk,dY,h7 t,bQ,jG];dsimp only;have:((a').getD (i).toNat default).bU*n'%65536=0:=by omega
   rw [this];split<;>omega
 .simp (disch:=omega) only [RR,U4 o so];refine⟨λh=>absurd h h9,λ_=> ?_⟩;have eq:∀t,cf o t=cf (prods a' (fJ n')) t%65536:=λt=>by
   rw [h7 t,List.take_of_length_le ah];unfold fJ;by_cases hn:1<=n'/\n'<=65535
   .rw [if_pos hn,Bn]
    congr 2
    exact List.map_congr_left λm hm=>(EW n' (h1.aok hm).2).symm
   .rw [if_neg hn];have hz:n'=0:=by omega
    have hz2:cf (a'.map (λm=>(⟨m.bU*n'%65536,m.atoms⟩:aA))) t=0:=Mf λm hm=>by
     rw [List.mem_map]at hm;obtain⟨x,_,rfl⟩:=hm;dsimp only;rw [hz];simp
    rw [hz2,show prods a' []=[] by simp [prods]];rfl
  have fb:JO o:=⟨ah,λm hm=>(h8 m hm).1⟩;have:=JQ h5 eq (λm hm=>by
   unfold fJ at hm;split at hm
   .rw [Bn,List.mem_map]at hm;obtain⟨x,hx,rfl⟩:=hm;rw [EW n' (h1.aok hx).2];exact(h1.aok hx).2
   .rw [show prods a' []=[] by simp [prods]]at hm;exact absurd hm (by simp))
  unfold mP;rw [if_pos (by rw [dO h1,dO (lW n')];rfl),<-congrArg Prod.snd this];dsimp only;rw [dO fb];rfl
def Yk(l:List aA):(Nf (nf l)/\∀k,cf (nf l) k=cf l k%65536)\/nf l=[]:=by
 by_cases he:∃o,Nf o/\∀k,cf o k=cf l k%65536
 .obtain⟨o,h1,h2⟩:=he;rw [ER h1 h2];exact Or.inl ⟨h1,h2⟩
 .right;unfold nf;rw [dif_neg he]
def Yl{l:List aA}{n:Int}(h:bH l n):bH (nf l) n:=by
 rcases Yk l with⟨h1,h2⟩ | h1
 .refine dJ.2 λm hm k hk=> ?_
  obtain⟨m',g1,g2⟩:=h1.from h2 hm;exact dJ.1 h m' g1 k (g2▸hk)
 .rw [h1];exact dJ.2 λm hm=>absurd hm (by simp)
def kG(n:Int):bH [] n:=dJ.2 λm hm=>absurd hm (by simp)
def RY(l:List aA):bK (lY l).2:=by
 unfold lY;by_cases h:bK (nf l)
 .rw [dO h];exact h
 .rw [iN h];exact iF
def EX{l:List aA}{n:Int}(h:bH l n):bH (lY l).2 n:=by
 unfold lY;dsimp only;split
 .exact Yl h
 .exact kG n
def Ub{a b:List aA}{n:Int}(h1:bH a n)(h2:bH b n):bH (a++b) n:=dJ.2 λm hm k hk=>by
 rw [List.mem_append]at hm;rcases hm with hm | hm
 .exact dJ.1 h1 m hm k hk
 .exact dJ.1 h2 m hm k hk
def Mg{a b:List aA}{n:Int}(h1:bH a n)(h2:bH b n):bH (prods a b) n:=dJ.2 λm hm k hk=>by
 unfold prods at hm;rw [List.mem_flatMap]at hm;obtain⟨x,hx,hm⟩:=hm;rw [List.mem_map]at hm;obtain⟨y,hy,rfl⟩:=hm;have:k∈x.atoms++y.atoms:=List.mem_mergeSort.1 hk;rw [List.mem_append]at this;rcases this with hk | hk
 .exact dJ.1 h1 x hx k hk
 .exact dJ.1 h2 y hy k hk
def RZ(a b:List aA):bK (mO a b).2:=by unfold mO;split;exact RY _;exact iF
def abb(a b:List aA):bK (mP a b).2:=by unfold mP;split;exact RY _;exact iF
def EY{a b:List aA}{n:Int}(h1:bH a n)(h2:bH b n):bH (mO a b).2 n:=by unfold mO;split;exact EX (Ub h1 h2);exact kG n
def EZ{a b:List aA}{n:Int}(h1:bH a n)(h2:bH b n):bH (mP a b).2 n:=by unfold mP;split;exact EX (Mg h1 h2);exact kG n
def vK(c n:Int):bH (fJ c) n:=dJ.2 λm hm k hk=>by
 unfold fJ at hm;split at hm
 .rw [List.mem_singleton]at hm;subst hm;exact absurd hk (by simp)
 .exact absurd hm (by simp)
def tu{k n:Int}(h:k<n):bH (gK k) n:=dJ.2 λm hm j hj=>by
 unfold gK at hm;split at hm
 .rw [List.mem_singleton]at hm;subst hm;rw [List.mem_singleton]at hj;omega
 .exact absurd hm (by simp)
def bB.sh{t:List Atom}(h:bB t):ShT t:=⟨by have:=h.2;omega,λa ha=>by
 obtain⟨i,hi,rfl⟩:=List.getElem_of_mem ha;have:=(h.1 i ah ah).1;rw [show(i:Int).toNat=i from rfl,getD_lt hi]at this;unfold iB at this;split at this
 .exact⟨this.2.1.sh,this.2.2.1.sh⟩
 .rw [ShA,this.1.1,this.1.2];exact⟨oC,oC⟩⟩
def zG{t:List Atom}{a:Atom}(h:bB t)(h2:t.length<200):bB (bY t a).1/\t.length<=(bY t a).1.length/\(bY t a).1.length<=t.length+1/\(iB a t.length->0<=(bY t a).2):=by
 have hsp:=lD t a;unfold bY;split
 .rename_i h3;exact⟨h,Nat.le_refl _,Nat.le_succ _,λ_=>h3⟩
 .rename_i h3;split
  .rename_i h4;exact⟨h,Nat.le_refl _,Nat.le_succ _,λh5=>by rcases h4 with h4 | h4;exact absurd h5 h4;omega⟩
  .rename_i h4;have h5:iB a t.length:=Classical.byContradiction λh5=>h4 (Or.inl h5)
   refine⟨jC.2 ⟨?_,by rw [List.length_append];simp only [List.length_cons,List.length_nil];omega⟩,by rw [List.length_append];exact Nat.le_add_right _ _,by rw [List.length_append];exact Nat.le_refl _,λ_=>by dsimp only;omega⟩;have hl:((t++ [a]).length:Int)=t.length+1:=by rw [List.length_append];rfl
   have g1:∀i:Int,0<=i->i<t.length->(t++ [a]).getD i.toNat default=t.getD i.toNat default:=λi i1 i2=>by
    rw [getD_lt (show i.toNat< (t++ [a]).length by omega),getD_lt (show i.toNat<t.length by omega),List.getElem_append_left]
   have g2:(t++ [a]).getD ((t.length:Int)).toNat default=a:=by
    rw [getD_lt (show((t.length:Int)).toNat< (t++ [a]).length by omega)];simp
   rw [hl];intro i i1 i2;dsimp only;by_cases i3:i<t.length
   .rw [g1 i i1 i3];have:=(jC.1 h).1 i i1 i3;exact⟨this.1,λj j1 j2=>by dsimp only;rw [g1 j j1 ah];exact this.2 j j1 j2⟩
   .have:i=t.length:=by omega
    subst this;rw [g2];refine⟨h5,λj j1 j2=> ?_⟩;dsimp only;rw [g1 j j1 j2];rcases hsp with⟨_,g⟩ | ⟨g,_⟩
    .exact g j j1 j2
    .exact absurd g h3
def By(b:List Int):Prop:=∀z∈b,0<=z/\z<=255
def By.at{b:List Int}(h:By b)(n:Nat):0<=b.getD n default/\b.getD n default<=255:=by
 by_cases h1:n<b.length
 .rw [getD_lt h1];exact h _ (List.getElem_mem _)
 .simp only [List.getD,List.getElem?_eq_none (by omega:b.length<=n)];decide
def R3{l o:List aA}(h:bK o)(h2:∀k,cf o k=cf l k%65536):lY l=(true,o):=by
 unfold lY;rw [ER h.nf h2,dO h,if_pos rfl]
def Qd{x:List aA}(h:bK x):bK (iK x 65535)/\∀k,cf (iK x 65535) k=(65535*cf x k)%65536:=by
 have hc:∀(l:List aA) k,cf (l.map λm=>(⟨m.bU*65535%65536,m.atoms⟩:aA)) k%65536=(65535*cf l k)%65536:=λl k=>by
  induction l with
  | nil=>rfl
  | cons m l ih=>rw [List.map_cons,bQ,bQ];dsimp only;split<;>omega
 have no:Nf (x.map λm=>(⟨m.bU*65535%65536,m.atoms⟩:aA)):=⟨by
  rw [List.pairwise_map];exact h.nf.ss,λm hm=>by
  rw [List.mem_map]at hm;obtain⟨n,hn,rfl⟩:=hm;have:=h.nf.co n hn;dsimp only;omega⟩
 have ok:bK (x.map λm=>(⟨m.bU*65535%65536,m.atoms⟩:aA)):=fU.2 ⟨no,by rw [List.length_map];exact h.len,λm hm=>by
  rw [List.mem_map]at hm;obtain⟨n,hn,rfl⟩:=hm;exact show n.atoms.length<=4/\aok n.atoms from h.aok hn⟩
 have pe:prods x (fJ 65535)=x.map λm=>(⟨m.bU*65535%65536,m.atoms⟩:aA):=by
  unfold fJ;rw [if_pos ah,Bn];exact List.map_congr_left λm hm=>EW 65535 (h.aok hm).2
 have e:iK x 65535=x.map λm=>(⟨m.bU*65535%65536,m.atoms⟩:aA):=by
  unfold iK mP;rw [if_pos (by rw [dO h];rfl),if_pos (by rw [dO h,dO (lW _)];rfl),pe,R3 ok (λk=>by have:=no.bnd k;omega)]
 rw [e];exact⟨ok,λk=>by rw [<-hc];have:=no.bnd k;omega⟩
def sub_self{x:List aA}(h:bK x):fO 2 x x=([],true):=by
 obtain⟨h1,h2⟩:=Qd h;unfold fO mO;rw [if_neg ah,if_pos rfl,if_pos (by rw [dO h,dO h1];rfl),R3 iF (λk=>by rw [dY,h2,jG];omega)]
abbrev Y48(pp:List Atom×List Atom×Unit->Bool)(ff:List Atom×List Atom×Unit->Bool×Unit):Prop:=∀a b,ShT a->pp (a,b,())=true/\ff (a,b,())=(bp (a=b),())
def R4{d:List Int}{i j x:Int}(h1:0<=i)(h2:i<d.length)(h3:0<=j):((d.set i.toNat x).getD (j).toNat default)=if j=i then x else((d).getD (j).toNat default):=by
 simp only [List.getD];by_cases h:j=i
 .subst h;rw [if_pos rfl,List.getElem?_set_self ah];rfl
 .rw [if_neg h,List.getElem?_set_ne ah]
def Uc{d:List Int}{i j:Int}(h1:0<=i)(h2:i<d.length)(h3:0<=j)(h4:j<d.length)(h5:i≠j):((d.set i.toNat ((d).getD (j).toNat default)).set j.toNat ((d).getD (i).toNat default)).Perm d:=by
 rw [List.perm_iff_count];intro x;rw [getD_lt (show i.toNat<d.length by omega),getD_lt (show j.toNat<d.length by omega),List.count_set (by simp;omega),List.count_set ah,List.getElem_set_ne ah];have h6:(if d[i.toNat]==x then 1 else 0)<=List.count x d:=by
  split
  .rename_i h;exact List.count_pos_iff.2 (by rw [<-eq_of_beq h];exact List.getElem_mem _)
  .omega
 split<;>split<;>simp_all<;>omega
def afk{p f}(U:Y5 p f)(a b:Int)(d:List Int)(hd:d.length<1000000000)(h1:a=0)(h2:b=d.length):
  P8.F (p,f,()) (a,b,d,()) (λy=>y.1=dS d):=by
 subst h1;dsimp only [P8,gm];simp (disch:=omega) only [RR];have fin:∀e:List Int,e.Perm d->(∀q:Int,1<=q->q<e.length->((e).getD (q-1).toNat default)<=((e).getD (q).toNat default))->e=dS d:=λe g1 g2=>
  qj ((eH (d:=default) (R:=λa b:Int=>a<=b) (λh1 h2=>Int.le_trans h1 h2)).2 g2) g1
 refine aQ (λ(y:Int×Int×Int×List Int×Unit)=>y.1=0/\y.2.1=b/\1<=y.2.2.1/\(y.2.2.1<=b\/y.2.2.1=1)/\y.2.2.2.1.Perm d/\∀q,1<=q->q<y.2.2.1->((y.2.2.2.1).getD (q-1).toNat default)<=((y.2.2.2.1).getD (q).toNat default)) (λy=>(b-y.2.2.1).toNat)
  ⟨rfl,rfl,by simp,Or.inr rfl,List.Perm.refl d,λq g1 g2=>by dsimp only at g2;omega⟩ ?_
 rintro⟨(a':Int),(b':Int),(i:Int),(e:List Int),⟨⟩⟩ hI;dsimp only at hI ⊢;obtain⟨rfl,rfl,h4,h5,h6,h7⟩:=hI;have hle:=h6.length_eq;simp (disch:=omega) only [RR];refine⟨λh9=> ?_,λh9=>fin e h6 λq g1 g2=>h7 q g1 ah⟩
 refine aQ (λ(y:Int×Int×Int×Int×List Int×Unit)=>y.1=0/\y.2.1=b'/\y.2.2.1=i/\0<=y.2.2.2.1/\y.2.2.2.1<=i/\y.2.2.2.2.1.Perm d
   /\(∀q,1<=q->q<=i->q≠y.2.2.2.1->((y.2.2.2.2.1).getD (q-1).toNat default)<=((y.2.2.2.2.1).getD (q).toNat default))/\(1<=y.2.2.2.1->y.2.2.2.1+1<=i->((y.2.2.2.2.1).getD (y.2.2.2.1-1).toNat default)<=((y.2.2.2.2.1).getD (y.2.2.2.1+1).toNat default))) (λy=>y.2.2.2.1.toNat)
  ⟨rfl,rfl,rfl,by simp;omega,by simp,h6,λq g1 g2 g3=>h7 q g1 (by dsimp only at g3;omega),λg1 g2=>by dsimp only at g2;omega⟩ ?_
 rintro⟨(a'':Int),(b'':Int),(i':Int),(j:Int),(e':List Int),⟨⟩⟩ hI;dsimp only at hI ⊢;obtain⟨rfl,rfl,rfl,h10,h11,h12,h13,h14⟩:=hI;have hle':=h12.length_eq;simp (disch:=omega) only [RR,List.length_set,U]
 repeat' (refine And.intro ?_ ?_)
 all_goals try omega
 .intro ⟨g1,g2⟩;have at2:∀k,0<=k->(((e'.set j.toNat ((e').getD (j-1).toNat default)).set (j-1).toNat ((e').getD (j).toNat default)).getD (k).toNat default)=if k=j-1 then((e').getD (j).toNat default)else if k=j then((e').getD (j-1).toNat default)else((e').getD (k).toNat default):=λk hk=>by
   rw [R4 ah (by simp;omega) hk,R4 ah ah hk]
  repeat' (refine And.intro ?_ ?_)
  all_goals try omega
  .exact(Uc ah ah ah ah ah).trans h12
  .intro q k1 k2 k3;rw [at2 _ ah,at2 _ ah];by_cases c1:q=j
   .subst c1;rw [if_pos rfl,if_neg ah,if_pos rfl];omega
   .rw [if_neg ah];by_cases c2:q=j+1
    .subst c2;rw [if_pos ah,if_neg ah,if_neg ah];exact h14 ah ah
    .rw [if_neg ah,if_neg ah,if_neg ah];exact h13 q k1 k2 c1
  .intro k1 k2;rw [at2 _ ah,at2 _ ah,if_neg ah,if_neg ah,if_neg ah,if_pos ah];have:=h13 (j-1) ah ah ah;exact this
 .intro g;refine⟨⟨ah,ah,h12,λq k1 k2=> ?_⟩,ah⟩;by_cases c:q=j
  .subst c;rw [Bool.and_eq_false_iff,decide_eq_false_iff_not,decide_eq_false_iff_not]at g;omega
  .exact h13 q k1 ah c
def afl{p1:Int×Int×List Int×Unit->Bool}{f1:Int×Int×List Int×Unit->List Int×Unit}{p:Int×Int×Unit->Bool}{f:Int×Int×Unit->Bool×Unit}(U1:∀(a b:Int) (d:List Int),d.length<1000000000->a=0->b=d.length->p1 (a,b,d,())=true/\(f1 (a,b,d,())).1=dS d)(p2 p3 f2 f3 p4 f4 p5 f5 p6 f6 p7 f7 p8 f8 p9 f9)(a b k:Int)(d:List Int)(hd:d.length<=12)(h1:a=0)(h2:b=d.length):
  P9.F (p,f,p1,f1,p2,f2,p3,f3,p4,f4,p5,f5,p6,f6,p7,f7,p8,f8,p9,f9,()) (a,b,k,d,()) (λy=>y.1=dS d):=by
 subst h1;dsimp only [P9,gm];simp (disch:=omega) only [RR];refine aQ (λ(y:Int×Int×Int×Bool×Bool×List Int×Unit)=>y.1=0/\y.2.1=b/\y.2.2.2.2.2.1=d) (λy=>0) ⟨rfl,rfl,rfl⟩ ?_;rintro⟨(a':Int),(b':Int),(k':Int),(u:Bool),(v:Bool),(e:List Int),⟨⟩⟩ hI;dsimp only at hI ⊢;obtain⟨rfl,rfl,rfl⟩:=hI;simp (disch:=omega) only [RR];exact⟨λ_=>⟨(U1 0 b' e ah rfl h2).1,(U1 0 b' e ah rfl h2).2⟩,λh=>absurd h ah⟩
def afm{p1:Int×Int×Int×List Int×Unit->Bool}{f1:Int×Int×Int×List Int×Unit->List Int×Unit}{p2:Int×Unit->Bool}{f2:Int×Unit->Int×Unit}(U1:∀(a b k:Int) (d:List Int),d.length<=12->a=0->b=d.length->p1 (a,b,k,d,())=true/\(f1 (a,b,k,d,())).1=dS d)(U2:∀n,0<=n->n<=18446744073709551615->p2 (n,())=true)(a:List Int)(ha:a.length<=8):
  Qa.F (p1,f1,p2,f2,()) (a,()) (λy=>y=(dS a,())):=by
 dsimp only [Qa,gm];have e:IntKind.u64.wrap (a.length:Int)=(a.length:Int):=IntWalk.u64_in _ ah;refine⟨?_,(U1 _ _ _ _ ah rfl rfl).1,by rw [(U1 _ _ _ _ ah rfl rfl).2]⟩;rw [e];exact U2 _ ah ah
def wOK(l:List Int):Prop:=∀z∈l,0<=z/\z<=65535
def wOK.at{l:List Int}(h:wOK l)(n:Nat):0<=l.getD n default/\l.getD n default<=65535:=by
 by_cases hn:n<l.length
 .rw [getD_lt hn];exact h _ (List.getElem_mem _)
 .rw [List.getD,List.getElem?_eq_none ah];decide
def abd(v:List Int)(k:Int):Int:=if k<v.length then((v).getD (k).toNat default)else 0
def evM(v:List Int)(c:Int)(l:List Int):Int:=l.foldl (λc k=>c*abd v k%65536) c
def evF(v:List Int)(p:List aA):Int:=p.foldl (λs m=>(s+evM v m.bU m.atoms)%65536) 0
def aVal(regs loads ins out:List Int)(a:Atom):Int:=
 if a.kind=1 then abd regs a.k else if a.kind=2 then abd loads a.k else if a.kind=3 then abd ins a.k else wdo a.k (evF out a.x) (evF out a.y)
def tv(regs loads ins:List Int)(t:List Atom):List Int:=t.foldl (λo a=>o++ [aVal regs loads ins o a]) []
def wOK.snoc{l:List Int}(h:wOK l){x:Int}(hx:0<=x/\x<=65535):wOK (l++ [x]):=λz hz=>by
 rw [List.mem_append,List.mem_singleton]at hz;rcases hz with hz | rfl
 .exact h z hz
 .exact hx
def ins(c:Int)(at_:List Int):List aA->List aA
 | []=>if c%65536=0 then []else [⟨c%65536,at_⟩]
 | m::o=>if dX at_ m.atoms<0 then(if c%65536=0 then m::o else⟨c%65536,at_⟩::m::o)
  else if at_=m.atoms then(if(c+m.bU)%65536=0 then o else⟨(c+m.bU)%65536,at_⟩::o)else m::ins c at_ o
def Ym{c:Int}{a:List Int}{x:aA}(hx:dX x.atoms a<0):∀ {o:List aA},(∀y∈o,lt x y)->∀y∈ins c a o,lt x y
 | [],_,y,hy=>by
  unfold ins at hy;split at hy
  .cases hy
  .rw [List.mem_singleton]at hy;subst hy;exact hx
 | m::o,h,y,hy=>by
  unfold ins at hy;split at hy
  .split at hy
   .exact h y hy
   .rcases List.mem_cons.1 hy with rfl | hy
    .exact hx
    .exact h y hy
  .split at hy
   .split at hy
    .exact h y (List.mem_cons_of_mem _ hy)
    .rcases List.mem_cons.1 hy with rfl | hy
     .exact hx
     .exact h y (List.mem_cons_of_mem _ hy)
   .rcases List.mem_cons.1 hy with rfl | hy
    .exact h _ (List.mem_cons_self ..)
    .exact Ym hx (λz hz=>h z (List.mem_cons_of_mem _ hz)) y hy
def Yn(c:Int)(a:List Int):∀ {o:List aA},Nf o->Nf (ins c a o)/\∀k,cf (ins c a o) k=((if a=k then c else 0)+cf o k)%65536
 | [],h=>by
  unfold ins;by_cases h1:c%65536=0
  .rw [if_pos h1];exact⟨h,λk=>by rw [jG];split<;>omega⟩
  .rw [if_neg h1];refine⟨⟨List.pairwise_singleton _ _,λm hm=>by rw [List.mem_singleton]at hm;subst hm;dsimp only;omega⟩,λk=> ?_⟩;rw [bQ,jG];dsimp only;split<;>omega
 | m::o,h=>by
  have hb:=h.bnd;have ho:Nf o:=⟨h.ss.tail,λx hx=>h.co x (List.mem_cons_of_mem _ hx)⟩;have hm:=h.co m (List.mem_cons_self ..);unfold ins;by_cases h1:dX a m.atoms<0
  .rw [if_pos h1];by_cases h2:c%65536=0
   .rw [if_pos h2];exact⟨h,λk=>by have:=hb k;split<;>omega⟩
   .rw [if_neg h2];have g:Nf (⟨c%65536,a⟩::m::o):=⟨List.pairwise_cons.2 ⟨λy hy=>by
     rcases List.mem_cons.1 hy with rfl | hy
     .exact h1
     .exact fT (b:=m) h1 (List.rel_of_pairwise_cons h.ss hy),h.ss⟩,λx hx=>by
     rcases List.mem_cons.1 hx with rfl | hx
     .dsimp only;omega
     .exact h.co x hx⟩
    refine⟨g,λk=> ?_⟩;have hk:=hb k;have gk:=g.bnd k;rw [bQ]at gk ⊢;dsimp only at gk ⊢;split<;>split at gk<;>omega
  .rw [if_neg h1];by_cases h2:a=m.atoms
   .rw [if_pos h2];by_cases h3:(c+m.bU)%65536=0
    .rw [if_pos h3];refine⟨ho,λk=> ?_⟩;have ok:=ho.bnd k;have hk:=hb k;rw [bQ]at hk ⊢;rw [h2];by_cases h4:m.atoms=k
     .rw [if_pos h4,if_pos h4];have:cf o k=0:=iq λx hx e=>(List.rel_of_pairwise_cons h.ss hx:lt m x).ne (h4.trans e.symm)
      omega
     .rw [if_neg h4,if_neg h4];omega
    .rw [if_neg h3];have g:Nf (⟨(c+m.bU)%65536,a⟩::o):=⟨List.pairwise_cons.2 ⟨λy hy=>by
      have:lt m y:=List.rel_of_pairwise_cons h.ss hy;unfold lt at this ⊢;rw [h2];exact this,ho.ss⟩,λx hx=>by
      rcases List.mem_cons.1 hx with rfl | hx
      .dsimp only;omega
      .exact ho.co x hx⟩
     refine⟨g,λk=> ?_⟩;have ok:=ho.bnd k;rw [bQ,bQ];dsimp only;rw [h2];by_cases h4:m.atoms=k
     .rw [if_pos h4,if_pos h4,if_pos h4];have:cf o k=0:=iq λx hx e=>(List.rel_of_pairwise_cons h.ss hx:lt m x).ne (h4.trans e.symm)
      omega
     .rw [if_neg h4,if_neg h4,if_neg h4];omega
   .rw [if_neg h2];obtain⟨i1,i2⟩:=Yn c a ho;have hlt:dX m.atoms a<0:=by
     have:=lU m.atoms a;by_cases z:dX m.atoms a=0
     .exact absurd (iR.1 z).symm h2
     .omega
    refine⟨⟨List.pairwise_cons.2 ⟨Ym hlt (λy hy=>List.rel_of_pairwise_cons h.ss hy),i1.ss⟩,λx hx=>by
     rcases List.mem_cons.1 hx with rfl | hx
     .exact hm
     .exact i1.co x hx⟩,λk=> ?_⟩
    rw [bQ,bQ,i2 k];by_cases h4:m.atoms=k
    .have:cf o k=0:=iq λx hx e=>(List.rel_of_pairwise_cons h.ss hx:lt m x).ne (h4.trans e.symm)
     rw [if_pos h4,if_neg (by rw [<-h4];exact h2),this];omega
    .rw [if_neg h4];omega
def acD:∀l:List aA,∃o,Nf o/\∀k,cf o k=cf l k%65536
 | []=>⟨[],⟨List.Pairwise.nil,λm hm=>by cases hm⟩,λk=>rfl⟩
 | m::l=>by
  obtain⟨o,h1,h2⟩:=acD l;obtain⟨g1,g2⟩:=Yn m.bU m.atoms h1;refine⟨_,g1,λk=> ?_⟩;rw [g2,bQ,h2];split<;>omega
def JR(l:List aA):Nf (nf l)/\∀k,cf (nf l) k=cf l k%65536:=by
 obtain⟨o,h1,h2⟩:=acD l;rw [ER h1 h2];exact⟨h1,h2⟩
def Yo{op:Int}(hop:1<=op/\op<=5){x y:List aA}(hx:bK x)(hy:bK y):bK (fO op x y).1:=by
 unfold fO;split
 .exact RZ _ _
 .split
  .exact RZ _ _
  .split
   .exact abb _ _
   .unfold uo
    repeat' split
    all_goals first | exact lW _ | exact iF | assumption
abbrev hX(o:IOp):Prop:=o.kind≠1/\o.kind≠2/\o.kind≠6
abbrev hY(o:IOp):Prop:=o.kind=3\/o.kind=5
abbrev mkV(o:IOp):Prop:=(1<=o.kind/\o.kind<=4)\/o.kind=6
abbrev evO(o:IOp):Prop:=4<=o.kind/\o.kind<=7
def Vl(ops:List IOp)(x n:Int):Prop:=0<=x/\x<n/\mkV ((ops).getD (x).toNat default)
structure zH(ops:List IOp)(len i:Int)(o:IOp):Prop where
 kd:1<=o.kind/\o.kind<=8
 x1:hX o->Vl ops o.x i
 x0:¬hX o->o.x=0
 y1:hY o->Vl ops o.y i
 y0:¬hY o->o.y=0
 k1:o.kind=1->0<=o.k/\o.k<=65535
 k2:o.kind=2\/o.kind=8->0<=o.k/\o.k<=3
 k3:o.kind=3->1<=o.k/\o.k<=5
 k0:4<=o.kind->o.kind<=7->o.k=0
 a1:evO o->0<=o.at_/\o.at_<len
 a0:¬evO o->o.at_=0
structure ahW(b:Blk):Prop where
 f:1<=b.fin/\b.fin<=4
 x1:b.fin≠1->Vl b.ops b.x b.ops.length
 x0:b.fin=1->b.x=0
 y1:3<=b.fin->Vl b.ops b.y b.ops.length
 y0:b.fin<=2->b.y=0
 k1:b.fin≠2->0<=b.k/\b.k<=65535
 k0:b.fin=2->b.k=0
structure kR(b:Blk):Prop where
 ln:1<=b.len/\b.len<=8
 pc:0<=b.pc/\b.pc<=64-b.len
 sz:b.ops.length<=48
 op:∀i:Int,0<=i->i<b.ops.length->zH b.ops b.len i ((b.ops).getD (i).toNat default)
 en:ahW b
structure SS where
 t:List Atom
 regs:List (List aA)
 vals:List (List aA)
 ld:Int
 inn:Int
 evs:List Ev
def xOf(s:SS)(o:IOp):List aA:=if hX o then((s.vals).getD (o.x).toNat default)else []
def yOf(s:SS)(o:IOp):List aA:=if hY o then((s.vals).getD (o.y).toNat default)else []
def aOf(s:SS)(o:IOp):Atom:=if o.kind=4 then⟨2,s.ld,[],[]⟩else⟨3,s.inn,[],[]⟩
noncomputable def nT (s:SS) (o:IOp):List Atom:=if o.kind=3 then(tDo s.t o.k (xOf s o) (yOf s o)).1 else if o.kind=4\/o.kind=6 then(bY s.t (aOf s o)).1 else s.t
noncomputable def nV (s:SS) (o:IOp):List aA:=if o.kind=1 then fJ o.k else if o.kind=2 then((s.regs).getD (o.k).toNat default)else if o.kind=3 then(tDo s.t o.k (xOf s o) (yOf s o)).2 else if o.kind=4\/o.kind=6 then gK (bY s.t (aOf s o)).2 else []
def nR(s:SS)(o:IOp):List (List aA):=if o.kind=8 then s.regs.set o.k.toNat (xOf s o)else s.regs
def nE(s:SS)(o:IOp):List Ev:=if evO o then s.evs++ [⟨o.kind,o.at_,xOf s o,yOf s o,if o.kind=4\/o.kind=5 then s.regs else []⟩]else s.evs
noncomputable def stp (s:SS) (o:IOp):SS:=⟨nT s o,nR s o,s.vals++ [nV s o],if o.kind=4 then s.ld+1 else s.ld,if o.kind=6 then s.inn+1 else s.inn,nE s o⟩
noncomputable def rN (t:List Atom):Nat->List Atom×List (List aA)
 | 0=>(t,[])
 | n+1=>((bY (rN t n).1 ⟨1,n,[],[]⟩).1,(rN t n).2++ [gK (bY (rN t n).1 ⟨1,n,[],[]⟩).2])
noncomputable def s0 (t:List Atom):SS:=⟨(rN t 4).1,(rN t 4).2,[],0,0,[]⟩
noncomputable def FW (t:List Atom) (b:Blk):SS:=b.ops.foldl stp (s0 t)
def ahX(b:Blk)(s:SS):Sym:=⟨s.evs,s.regs,b.fin,if b.fin=1 then []else((s.vals).getD (b.x).toNat default),if 3<=b.fin then((s.vals).getD (b.y).toNat default)else [],b.k⟩
def ahY:Sym:=⟨[],[],0,[],[],0⟩
noncomputable def symEnd (s:Sym) (behind:Int):Sym:=
 if bp (bK s.x/\bK s.y)=false then ahY
 else if s.fin=2/\(iC s.x).2=true then⟨s.events,s.regs,1,[],[],(iC s.x).1⟩
 else if s.fin≠3/\s.fin≠4 then s
 else if s.x=s.y\/(iC s.x).2=true/\(iC s.y).2=true then
  ⟨s.events,s.regs,1,[],[],if s.x=s.y/\s.fin=3\/((iC s.x).2=true/\(iC s.y).2=true)/\(s.fin=3/\(iC s.x).1=(iC s.y).1\/s.fin=4/\(iC s.x).1< (iC s.y).1)then s.k else behind⟩
 else if s.fin=3/\0<gT s.x s.y then⟨s.events,s.regs,s.fin,s.y,s.x,s.k⟩else s
noncomputable def iT (t:List Atom) (b:Blk):List Atom×Sym:=if bp (bB t/\t.length<=100/\kR b)=true then((FW t b).t,symEnd (ahX b (FW t b)) (b.pc+b.len))else([],ahY)
def vL(t:List Atom)(a:Atom):t<+:(bY t a).1:=by
 unfold bY;split
 .exact List.prefix_refl _
 .split
  .exact List.prefix_refl _
  .exact List.prefix_append _ _
def tC{α:Type}{a b:List α}(h:a<+:b):a.length<=b.length:=h.length_le
def afn{α:Type}{d:α}{a b:List α}(h:a<+:b){i:Int}(h1:i.toNat<a.length):b.getD i.toNat d=a.getD i.toNat d:=by
 obtain⟨c,rfl⟩:=h;rw [getD_lt h1,getD_lt (by rw [List.length_append];omega),List.getElem_append_left h1]
def wG{t:List Atom}{a:Atom}(h:0<=(bY t a).2):(bY t a).2< (bY t a).1.length/\(((bY t a).1).getD ((bY t a).2).toNat default)=a:=by
 have hsp:=lD t a
 revert h
 unfold bY;split
 .intro h;rcases hsp with⟨h1,_⟩ | ⟨_,h2,h3,_⟩
  .exact absurd h (by dsimp only;omega)
  .exact⟨h2,h3.symm⟩
 .split
  .intro h;exact absurd h (by dsimp only;omega)
  .intro _;dsimp only;refine⟨by rw [List.length_append];simp only [List.length_cons,List.length_nil];omega,?_⟩;rw [getD_lt (by rw [List.length_append];simp only [List.length_cons,List.length_nil];omega)];simp
def Qe{u:List Atom}{a:Atom}(hu:bB u){k:Int}(h0:0<=k)(h1:k<u.length)(h2:((u).getD (k).toNat default)=a):bY u a=(u,k):=by
 have hf:qJ u a=k:=by
  refine(lD u a).uniq (Or.inr ⟨h0,h1,h2.symm,λj j1 j2=> ?_⟩);have:=(jC.1 hu).1 k h0 h1;have g:=this.2 j j1 j2;dsimp only at g ⊢;rw [h2]at g;exact g
 unfold bY;rw [hf,if_pos h0]
def zI{t u:List Atom}{a:Atom}(hu:bB u)(h:0<=(bY t a).2)(hp:(bY t a).1<+:u):bY u a=(u,(bY t a).2):=by
 obtain⟨g1,g2⟩:=wG h;have:=tC hp;exact Qe hu h ah (by rw [afn hp ah,g2])
def Mh{op n:Int}{x y:List aA}(ux:bH x n)(uy:bH y n):bH (fO op x y).1 n:=by
 unfold fO;split
 .exact EY ux uy
 .split
  .refine EY ux ?_;unfold iK;split
   .exact EZ uy (vK _ _)
   .exact kG _
  .split
   .exact EZ ux uy
   .unfold uo
    repeat' split
    all_goals first | exact ux | exact uy | exact kG _ | exact vK _ _
structure afo(t:List Atom)(op:Int)(x y:List aA):Prop where
 tok:bB (tDo t op x y).1
 pre:t<+:(tDo t op x y).1
 len:(tDo t op x y).1.length<=t.length+1
 pok:bK (tDo t op x y).2
 und:bH (tDo t op x y).2 (tDo t op x y).1.length
 ok:tOk t op x y=true
def abe{t:List Atom}{op:Int}{x y:List aA}(h:bB t)(h2:t.length<200)(h3:1<=op/\op<=5)(hx:bK x)(hy:bK y)(ux:bH x t.length)(uy:bH y t.length):afo t op x y:=by
 by_cases c:(fO op x y).2=true
 .have e:tDo t op x y=(t,(fO op x y).1):=by unfold tDo;rw [if_pos c]
  refine⟨?_,?_,?_,?_,?_,by unfold tOk;rw [c];rfl⟩<;>rw [e]
  .exact h
  .exact List.prefix_refl _
  .exact Nat.le_succ _
  .exact Yo h3 hx hy
  .exact Mh ux uy
 .have key:∀x' y',bK x'->bK y'->bH x' t.length->bH y' t.length->0<=(bY t ⟨4,op,x',y'⟩).2/\bB (bY t ⟨4,op,x',y'⟩).1/\(bY t ⟨4,op,x',y'⟩).1.length<=t.length+1:=λx' y' a1 a2 a3 a4=>by
   have p1:=zG (a:=⟨4,op,x',y'⟩) h h2;have q1:=p1.2.2.2 (by unfold iB;rw [if_pos rfl];exact⟨h3,a1,a2,a3,a4⟩);exact⟨q1,p1.1,p1.2.2.1⟩
  by_cases c2:op≠2/\0<gT x y
  .obtain⟨k1,k2,k3⟩:=key y x hy hx uy ux;have e:tDo t op x y=((bY t ⟨4,op,y,x⟩).1,gK (bY t ⟨4,op,y,x⟩).2):=by unfold tDo;rw [if_neg c,if_pos c2,if_neg ah]
   refine⟨?_,?_,?_,?_,?_,by unfold tOk;rw [if_pos c2,decide_eq_false ah,Bool.not_false,Bool.or_true]⟩<;>rw [e]
   .exact k2
   .exact vL _ _
   .exact k3
   .exact nK _
   .exact tu (wG k1).1
  .obtain⟨k1,k2,k3⟩:=key x y hx hy ux uy;have e:tDo t op x y=((bY t ⟨4,op,x,y⟩).1,gK (bY t ⟨4,op,x,y⟩).2):=by unfold tDo;rw [if_neg c,if_neg c2,if_neg ah]
   refine⟨?_,?_,?_,?_,?_,by unfold tOk;rw [if_neg c2,decide_eq_false ah,Bool.not_false,Bool.or_true]⟩<;>rw [e]
   .exact k2
   .exact vL _ _
   .exact k3
   .exact nK _
   .exact tu (wG k1).1
def Yp{t u:List Atom}{op:Int}{x y:List aA}(hu:bB u)(h:tOk t op x y=true)(hp:(tDo t op x y).1<+:u):tDo u op x y=(u,(tDo t op x y).2):=by
 by_cases c:(fO op x y).2=true
 .unfold tDo;rw [if_pos c,if_pos c]
 .by_cases c2:op≠2/\0<gT x y
  .have k1:0<=(bY t ⟨4,op,y,x⟩).2:=by
    unfold tOk at h;rw [if_pos c2,Bool.or_eq_true,Bool.not_eq_true',decide_eq_false_iff_not]at h;have:=h.resolve_left c;omega
   have e:tDo t op x y=((bY t ⟨4,op,y,x⟩).1,gK (bY t ⟨4,op,y,x⟩).2):=by unfold tDo;rw [if_neg c,if_pos c2,if_neg ah]
   rw [e]at hp ⊢;have:=zI hu k1 hp;unfold tDo;rw [if_neg c,if_pos c2,this,if_neg (by dsimp only;omega)]
  .have k1:0<=(bY t ⟨4,op,x,y⟩).2:=by
    unfold tOk at h;rw [if_neg c2,Bool.or_eq_true,Bool.not_eq_true',decide_eq_false_iff_not]at h;have:=h.resolve_left c;omega
   have e:tDo t op x y=((bY t ⟨4,op,x,y⟩).1,gK (bY t ⟨4,op,x,y⟩).2):=by unfold tDo;rw [if_neg c,if_neg c2,if_neg ah]
   rw [e]at hp ⊢;have:=zI hu k1 hp;unfold tDo;rw [if_neg c,if_neg c2,this,if_neg (by dsimp only;omega)]
structure SI(n:Int)(i:Nat)(s:SS):Prop where
 tok:bB s.t
 tl:(s.t.length:Int)<=n+i
 r4:s.regs.length=4
 rok:∀p∈s.regs,bK p/\bH p s.t.length
 vl:s.vals.length=i
 vok:∀p∈s.vals,bK p/\bH p s.t.length
 ld:0<=s.ld/\s.ld<=i
 inn:0<=s.inn/\s.inn<=i
def JU{l:List (List aA)}{n:Int}(h:∀p∈l,bK p/\bH p n)(i:Int):bK ((l).getD (i).toNat default)/\bH ((l).getD (i).toNat default) n:=by
 by_cases c:i.toNat<l.length
 .rw [getD_lt c];exact h _ (List.getElem_mem _)
 .rw [List.getD_eq_getElem?_getD,List.getElem?_eq_none ah];exact⟨iF,kG _⟩
def SI.x{n:Int}{i:Nat}{s:SS}(h:SI n i s)(o:IOp):bK (xOf s o)/\bH (xOf s o) s.t.length:=by
 unfold xOf;split
 .exact JU h.vok _
 .exact⟨iF,kG _⟩
def SI.y{n:Int}{i:Nat}{s:SS}(h:SI n i s)(o:IOp):bK (yOf s o)/\bH (yOf s o) s.t.length:=by
 unfold yOf;split
 .exact JU h.vok _
 .exact⟨iF,kG _⟩
def R5{n:Int}{i:Nat}{s:SS}(h:SI n i s)(hi:i<200)(o:IOp)(m:Int):iB (aOf s o) m:=by
 have h1:=h.ld;have h2:=h.inn;unfold aOf;split
 .unfold iB;rw [if_neg (by simp)];exact⟨⟨rfl,rfl⟩,Or.inr ⟨Or.inl rfl,by dsimp only;omega,by dsimp only;omega⟩⟩
 .unfold iB;rw [if_neg (by simp)];exact⟨⟨rfl,rfl⟩,Or.inr ⟨Or.inr rfl,by dsimp only;omega,by dsimp only;omega⟩⟩
structure SOK(s:SS)(o:IOp):Prop where
 pre:s.t<+:(stp s o).t
 d:o.kind=3->afo s.t o.k (xOf s o) (yOf s o)
 p:o.kind=4\/o.kind=6->0<=(bY s.t (aOf s o)).2
def E5{n:Int}{i:Nat}{s:SS}{o:IOp}(h:SI n i s)(hk:o.kind=3->1<=o.k/\o.k<=5)(hn:n+i<200)(hi:i<200):SI n (i+1) (stp s o)/\SOK s o:=by
 have hl:=h.tl;have tl:s.t.length<200:=by omega
 have hd:o.kind=3->afo s.t o.k (xOf s o) (yOf s o):=λe=>abe h.tok tl (hk e) (h.x o).1 (h.y o).1 (h.x o).2 (h.y o).2
 have hput:=zG (a:=aOf s o) h.tok tl;have hp:=hput.2.2.2 (R5 h hi o _);have T:bB (nT s o)/\(nT s o).length<=s.t.length+1/\s.t<+:nT s o:=by
  unfold nT;split
  .rename_i e;have:=hd e;exact⟨this.tok,this.len,this.pre⟩
  .split
   .exact⟨hput.1,hput.2.2.1,vL _ _⟩
   .exact⟨h.tok,Nat.le_succ _,List.prefix_refl _⟩
 have up:∀ {p:List aA},bK p/\bH p s.t.length->bK p/\bH p (nT s o).length:=λhp=>⟨hp.1,wF hp.2 (by have:=tC T.2.2;omega)⟩
 have V:bK (nV s o)/\bH (nV s o) (nT s o).length:=by
  unfold nV;split
  .exact⟨lW _,vK _ _⟩
  .split
   .exact up (JU h.rok _)
   .split
    .rename_i e;have:=hd e;refine⟨this.pok,?_⟩;have e2:nT s o=(tDo s.t o.k (xOf s o) (yOf s o)).1:=by unfold nT;rw [if_pos e]
     rw [e2];exact this.und
    .split
     .rename_i e1 e2;have e3:nT s o=(bY s.t (aOf s o)).1:=by unfold nT;rw [if_neg ah,if_pos e2]
      rw [e3];exact⟨nK _,tu (wG hp).1⟩
     .exact⟨iF,kG _⟩
 have g1:=h.ld;have g2:=h.inn;refine⟨⟨T.1,?_,?_,?_,?_,?_,?_,?_⟩,⟨T.2.2,hd,λ_=>hp⟩⟩
 .have:=T.2.1;show((nT s o).length:Int)<=_;omega
 .show(nR s o).length=4;unfold nR;split
  .rw [List.length_set];exact h.r4
  .exact h.r4
 .show∀p∈nR s o,_;intro p hp;unfold nR at hp;split at hp
  .rcases List.mem_or_eq_of_mem_set hp with hp | rfl
   .exact up (h.rok p hp)
   .exact up (h.x o)
  .exact up (h.rok p hp)
 .show(s.vals++ [nV s o]).length=i+1;rw [List.length_append,h.vl];rfl
 .show∀p∈s.vals++ [nV s o],_;intro p hp;rw [List.mem_append,List.mem_singleton]at hp;rcases hp with hp | rfl
  .exact up (h.vok p hp)
  .exact V
 .show 0<=(if o.kind=4 then s.ld+1 else s.ld)/\(if o.kind=4 then s.ld+1 else s.ld)<=_;split<;>omega
 .show 0<=(if o.kind=6 then s.inn+1 else s.inn)/\(if o.kind=6 then s.inn+1 else s.inn)<=_;split<;>omega
def E8{n:Int}:∀(ops:List IOp) (i:Nat) (s:SS),SI n i s->(∀o∈ops,o.kind=3->1<=o.k/\o.k<=5)->n+i+ops.length<=200->i+ops.length<=200->SI n (i+ops.length) (ops.foldl stp s)/\s.t<+:(ops.foldl stp s).t
 | [],i,s,h,_,_,_=>⟨h,List.prefix_refl _⟩
 | o::r,i,s,h,hk,h1,h2=>by
  rw [List.length_cons]at h1 h2;obtain⟨a1,a2⟩:=E5 h (hk o List.mem_cons_self) ah ah;obtain⟨b1,b2⟩:=E8 r (i+1) (stp s o) a1 (λo ho=>hk o (List.mem_cons_of_mem _ ho)) ah ah;rw [List.foldl_cons,List.length_cons,show i+(r.length+1)=i+1+r.length by omega];exact⟨b1,a2.pre.trans b2⟩
structure RI(t:List Atom)(n:Nat)(r:List Atom×List (List aA)):Prop where
 tok:bB r.1
 tl:r.1.length<=t.length+n
 pre:t<+:r.1
 r4:r.2.length=n
 rok:∀p∈r.2,bK p/\bH p r.1.length
def Mi{t:List Atom}(h:bB t)(hl:t.length<=196):∀n:Nat,n<=4->RI t n (rN t n)
 | 0,_=>⟨h,Nat.le_refl _,List.prefix_refl _,rfl,λp hp=>absurd hp (by simp [rN])⟩
 | n+1,hn=>by
  have ih:=Mi h hl n ah;have l:=ih.tl;have hp:=zG (a:=⟨1,n,[],[]⟩) ih.tok ah;have h0:=hp.2.2.2 (by unfold iB;rw [if_neg (by simp)];exact⟨⟨rfl,rfl⟩,Or.inl ⟨rfl,by dsimp only;omega,by dsimp only;omega⟩⟩);have pr:=vL (rN t n).1 ⟨1,n,[],[]⟩;unfold rN;refine⟨hp.1,?_,ih.pre.trans pr,?_,λp h=> ?_⟩
  .have:=hp.2.2.1;dsimp only;omega
  .dsimp only;rw [List.length_append,ih.r4];rfl
  .dsimp only at h ⊢;rw [List.mem_append,List.mem_singleton]at h;rcases h with h | rfl
   .have:=ih.rok p h;exact⟨this.1,wF this.2 (by have:=tC pr;omega)⟩
   .exact⟨nK _,tu (wG h0).1⟩
def afp{t:List Atom}(h:bB t)(hl:t.length<=196){n:Nat}(hn:n<4):0<=(bY (rN t n).1 ⟨1,n,[],[]⟩).2:=by
 have ih:=Mi h hl n ah;have l:=ih.tl;exact(zG (a:=⟨1,n,[],[]⟩) ih.tok ah).2.2.2 (by unfold iB;rw [if_neg (by simp)];exact⟨⟨rfl,rfl⟩,Or.inl ⟨rfl,by dsimp only;omega,by dsimp only;omega⟩⟩)
def acE{t:List Atom}(h:bB t)(hl:t.length<=196):SI (t.length+4) 0 (s0 t):=by
 have:=Mi h hl 4 ah;have l:=this.tl;exact⟨this.tok,by show((rN t 4).1.length:Int)<=_;omega,this.r4,this.rok,rfl,λp hp=>absurd hp (by simp [s0]),by simp [s0],by simp [s0]⟩
def kR.k3{b:Blk}(h:kR b):∀o∈b.ops,o.kind=3->1<=o.k/\o.k<=5:=λo ho=>by
 obtain⟨i,hi,rfl⟩:=List.getElem_of_mem ho;have:=(h.op i ah ah).k3;rw [show(i:Int).toNat=i from rfl,getD_lt hi]at this;exact this
def abf{t:List Atom}{b:Blk}(h:bB t)(hl:t.length<=100)(hb:kR b):SI (t.length+4) b.ops.length (FW t b)/\t<+:(FW t b).t:=by
 have sz:=hb.sz;obtain⟨h1,h2⟩:=E8 b.ops 0 (s0 t) (acE h ah) hb.k3 ah ah;rw [Nat.zero_add]at h1;exact⟨h1,(Mi h ah 4 ah).pre.trans h2⟩
def SS.on(s:SS)(u:List Atom):SS:=⟨u,s.regs,s.vals,s.ld,s.inn,s.evs⟩
theorem afq{s:SS}{o:IOp}{u:List Atom}(hu:bB u)(h:SOK s o)(hp:(stp s o).t<+:u):stp (s.on u) o=(stp s o).on u:=by
 have hp:nT s o<+:u:=hp;have ex:xOf (s.on u) o=xOf s o:=rfl;have ey:yOf (s.on u) o=yOf s o:=rfl;have ea:aOf (s.on u) o=aOf s o:=rfl;have eT:nT (s.on u) o=u:=by
  unfold nT;split
  .rename_i e;rw [ex,ey];have h3:=(h.d e).ok;unfold nT at hp;rw [if_pos e]at hp;rw [show(s.on u).t=u from rfl,Yp hu h3 hp]
  .split
   .rename_i e1 e2;unfold nT at hp;rw [if_neg e1,if_pos e2]at hp;rw [ea,show(s.on u).t=u from rfl,zI hu (h.p e2) hp]
   .rfl
 have eV:nV (s.on u) o=nV s o:=by
  unfold nV;split
  .rfl
  .split
   .rfl
   .split
    .rename_i e;rw [ex,ey];have h3:=(h.d e).ok;unfold nT at hp;rw [if_pos e]at hp;rw [show(s.on u).t=u from rfl,Yp hu h3 hp]
    .split
     .rename_i e1 e2;unfold nT at hp;rw [if_neg e1,if_pos e2]at hp;rw [ea,show(s.on u).t=u from rfl,zI hu (h.p e2) hp]
     .rfl
 show SS.mk (nT (s.on u) o) (nR (s.on u) o) ((s.on u).vals++ [nV (s.on u) o]) _ _ (nE (s.on u) o)=SS.mk u (nR s o) (s.vals++ [nV s o]) _ _ (nE s o);rw [eT,eV];rfl
def Yq{n:Int}{u:List Atom}(hu:bB u):∀(ops:List IOp) (i:Nat) (s:SS),SI n i s->(∀o∈ops,o.kind=3->1<=o.k/\o.k<=5)->n+i+ops.length<=200->i+ops.length<=200->(ops.foldl stp s).t<+:u->ops.foldl stp (s.on u)=(ops.foldl stp s).on u
 | [],i,s,h,_,_,_,_=>rfl
 | o::r,i,s,h,hk,h1,h2,hp=>by
  rw [List.length_cons]at h1 h2;obtain⟨a1,a2⟩:=E5 h (hk o List.mem_cons_self) ah ah;rw [List.foldl_cons]at hp;obtain⟨_,b2⟩:=E8 r (i+1) (stp s o) a1 (λo ho=>hk o (List.mem_cons_of_mem _ ho)) ah ah;rw [List.foldl_cons,List.foldl_cons,afq hu a2 (b2.trans hp)];exact Yq hu r (i+1) (stp s o) a1 (λo ho=>hk o (List.mem_cons_of_mem _ ho)) ah ah hp
def acF{t u:List Atom}(h:bB t)(hl:t.length<=196)(hu:bB u):∀n:Nat,n<=4->(rN t n).1<+:u->rN u n=(u,(rN t n).2)
 | 0,_,_=>rfl
 | n+1,hn,hp=>by
  have h0:=afp h hl (n:=n) ah;have pr:=vL (rN t n).1 ⟨1,n,[],[]⟩;have hp':(bY (rN t n).1 ⟨1,n,[],[]⟩).1<+:u:=hp;have ih:=acF h hl hu n ah (pr.trans hp');show((bY (rN u n).1 ⟨1,n,[],[]⟩).1,(rN u n).2++ [gK (bY (rN u n).1 ⟨1,n,[],[]⟩).2])=(u,(rN t n).2++ [gK (bY (rN t n).1 ⟨1,n,[],[]⟩).2]);rw [ih];dsimp only;rw [zI hu h0 hp']
def abg{t u:List Atom}{b:Blk}(h:bB t)(hl:t.length<=100)(hb:kR b)(hu:bB u)(hp:(FW t b).t<+:u):FW u b=(FW t b).on u:=by
 have sz:=hb.sz;have i0:=acE h ah;obtain⟨_,h2⟩:=E8 b.ops 0 (s0 t) i0 hb.k3 ah ah;have e:s0 u=(s0 t).on u:=by
  unfold s0 SS.on;rw [acF h ah hu 4 ah (h2.trans hp)]
 unfold FW at hp ⊢;rw [e];exact Yq hu b.ops 0 (s0 t) i0 hb.k3 ah ah hp
def E9{t:List Atom}{b:Blk}(h:bB t)(hl:t.length<=100)(hb:kR b):iT t b=((FW t b).t,symEnd (ahX b (FW t b)) (b.pc+b.len)):=by
 unfold iT;rw [if_pos (dO ⟨h,hl,hb⟩)]
def Ud{t u:List Atom}{b:Blk}(h:bB t)(hl:t.length<=100)(hb:kR b)(hu:bB u)(hlu:u.length<=100)(hp:(iT t b).1<+:u):iT u b=(u,(iT t b).2):=by
 rw [E9 h hl hb]at hp ⊢;rw [E9 hu hlu hb,abg h hl hb hu hp];rfl
def Ue{t:List Atom}{b:Blk}(h:bB t)(hl:t.length<=100)(hb:kR b):bB (iT t b).1/\t<+:(iT t b).1/\(iT t b).1.length<=t.length+b.ops.length+4:=by
 unfold iT;rw [if_pos (dO ⟨h,hl,hb⟩)];obtain⟨h1,h2⟩:=abf h hl hb;have:=h1.tl;exact⟨h1.tok,h2,by dsimp only;omega⟩
def ShP(l:List (List aA)):Prop:=l.length<1000000000/\∀p∈l,Sh p
def ShE(e:Ev):Prop:=Sh e.x/\Sh e.y/\ShP e.regs
def ahZ(l:List Ev):Prop:=l.length<1000000000/\∀e∈l,ShE e
def ShP.at{l:List (List aA)}(h:ShP l)(n:Nat):Sh (l.getD n default):=by
 by_cases c:n<l.length
 .rw [getD_lt c];exact h.2 _ (List.getElem_mem _)
 .rw [List.getD_eq_getElem?_getD,List.getElem?_eq_none ah];exact oC
def abh:ShP []:=⟨by simp,λp h=>absurd h (by simp)⟩
def ahZ.at{l:List Ev}(h:ahZ l)(n:Nat):ShE (l.getD n default):=by
 by_cases c:n<l.length
 .rw [getD_lt c];exact h.2 _ (List.getElem_mem _)
 .rw [List.getD_eq_getElem?_getD,List.getElem?_eq_none ah];exact⟨oC,oC,abh⟩
def SI.regs{n:Int}{i:Nat}{s:SS}(h:SI n i s):ShP s.regs:=⟨by have:=h.r4;omega,λp hp=>(h.rok p hp).1.sh⟩
def opT(o:IOp):Int×Int×Nat:=(o.kind,o.at_,if o.kind=4\/o.kind=5 then 4 else 0)
noncomputable def t4:List Atom:=(rN [] 4).1
def Ib:bB []:=jC.2 ⟨All.zero,by simp⟩
def ah0:bB t4/\t4.length<=4:=by
 have:=Mi Ib (by simp) 4 ah;exact⟨this.tok,Nat.le_trans this.tl (by simp)⟩
noncomputable def chk (b c:Blk):Bool:=bp (kR b/\kR c/\b.pc=c.pc/\b.len=c.len/\(b=c\/(iT t4 b).2=(iT (iT t4 b).1 c).2))
structure Lk(b c:Blk):Prop where
 ob:kR b
 oc:kR c
 pc:b.pc=c.pc
 len:b.len=c.len
 run:∀u,bB u->u.length<=100->(iT u b).1=u->iT u c=iT u b
def Lk.refl{b:Blk}(h:kR b):Lk b b:=⟨h,h,rfl,rfl,λ_ _ _ _=>rfl⟩
def Lk.trans{b c d:Blk}(h:Lk b c)(g:Lk c d):Lk b d:=⟨h.ob,g.oc,h.pc.trans g.pc,h.len.trans g.len,λu h1 h2 h3=>by
 have e:=h.run u h1 h2 h3;rw [g.run u h1 h2 (by rw [e];exact h3),e]⟩
def abj{b:Blk}(hb:kR b):bB (iT t4 b).1/\(iT t4 b).1.length<=100/\iT (iT t4 b).1 b=iT t4 b:=by
 have h4:=ah0;have hr:=Ue h4.1 ah hb;have sz:=hb.sz;refine⟨hr.1,ah,?_⟩;have:=Ud h4.1 ah hb hr.1 ah (List.prefix_refl _);rw [this]
def Lk.chk{b c:Blk}(h:Lk b c):chk b c=true:=by
 obtain⟨h1,h2,h3⟩:=abj h.ob;refine dO ⟨h.ob,h.oc,h.pc,h.len,Or.inr ?_⟩;rw [h.run _ h1 h2 (by rw [h3]),h3]
def Uf:Blk:=⟨0,0,[],0,0,0,0⟩
def Qf(f:SS->IOp->SS)(s:SS){l:List IOp}{i:Nat}(h:i<l.length):(l.take (i+1)).foldl f s=f ((l.take i).foldl f s) l[i]:=by
 rw [List.take_succ_eq_append_getElem h,List.foldl_append];rfl
def ren(nm:List Int)(o:IOp):IOp:=⟨o.kind,if hX o then((nm).getD (o.x).toNat default)else o.x,if hY o then((nm).getD (o.y).toNat default)else o.y,o.k,o.at_⟩
def ah1(nm:List Int)(b:Blk)(ops:List IOp):Blk:=⟨b.pc,b.len,ops.map (ren nm),b.fin,if b.fin=1 then b.x else((nm).getD (b.x).toNat default),if 3<=b.fin then((nm).getD (b.y).toNat default)else b.y,b.k⟩
def cpN(s:List Int×List Int)(i:Int)(o:IOp):Int:=if o.kind=2/\0<=((s.2).getD (o.k).toNat default)then((s.2).getD (o.k).toNat default)else i
def cpL(s:List Int×List Int)(i:Int)(o:IOp):List Int:=if o.kind=2 then(if 0<=((s.2).getD (o.k).toNat default)then s.2 else s.2.set o.k.toNat i)else if o.kind=8 then s.2.set o.k.toNat ((s.1).getD (o.x).toNat default)else s.2
def cpS(ops:List IOp):Nat->List Int×List Int
 | 0=>([],[-1, -1, -1, -1])
 | i+1=>((cpS ops i).1++ [cpN (cpS ops i) i (ops.getD i default)],cpL (cpS ops i) i (ops.getD i default))
noncomputable def JV (b:Blk):Blk:=if bp (kR b)=true then ah1 (cpS b.ops b.ops.length).1 b b.ops else Uf
def fcO(f:List IOp)(o:IOp):IOp:=if o.kind=3/\(((f).getD (o.x).toNat default)).kind=1/\(((f).getD (o.y).toNat default)).kind=1 then⟨1,0,0,wdo o.k (((f).getD (o.x).toNat default)).k (((f).getD (o.y).toNat default)).k,0⟩else o
def fc(ops:List IOp):Nat->List IOp
 | 0=> []
 | i+1=>fc ops i++ [fcO (fc ops i) (ops.getD i default)]
def fcB(b:Blk)(f:List IOp):Blk:=
 if b.fin=2/\(((f).getD (b.x).toNat default)).kind=1 then⟨b.pc,b.len,f,1,0,b.y,(((f).getD (b.x).toNat default)).k⟩
 else if 3<=b.fin/\(((f).getD (b.x).toNat default)).kind=1/\(((f).getD (b.y).toNat default)).kind=1 then⟨b.pc,b.len,f,1,0,0,if b.fin=3/\(((f).getD (b.x).toNat default)).k=(((f).getD (b.y).toNat default)).k\/b.fin=4/\(((f).getD (b.x).toNat default)).k< (((f).getD (b.y).toNat default)).k then b.k else b.pc+b.len⟩
 else⟨b.pc,b.len,f,b.fin,b.x,b.y,b.k⟩
noncomputable def Fa (b:Blk):Blk:=if bp (kR b)=true then fcB b (fc b.ops b.ops.length)else Uf
def Yr(ops:List IOp):∀i,(fc ops i).length=i
 | 0=>rfl
 | i+1=>by show(fc ops i++ [_]).length=_;rw [List.length_append,Yr ops i];rfl
def kpS(ops:List IOp)(kp:List Bool):Nat->List Int×List IOp
 | 0=>([],[])
 | i+1=>((kpS ops kp i).1++ [((kpS ops kp i).2.length:Int)],if kp.getD i default=true then(kpS ops kp i).2++ [ops.getD i default]else(kpS ops kp i).2)
def R6(b:Blk)(kp:List Bool):Blk:=ah1 (kpS b.ops kp b.ops.length).1 b (kpS b.ops kp b.ops.length).2
def acG:List IOp->Int->Bool
 | [],_=>false
 | o::l,r=>if o.kind=4\/o.kind=5\/o.kind=2/\o.k=r then false else if o.kind=8/\o.k=r then true else acG l r
def R7(ops:List IOp)(kp:List Bool):∀i,(kpS ops kp i).1.length=i/\(kpS ops kp i).2.length<=i
 | 0=>⟨rfl,Nat.le_refl _⟩
 | i+1=>by
  obtain⟨h1,h2⟩:=R7 ops kp i;unfold kpS;refine⟨by rw [List.length_append,h1];rfl,?_⟩;dsimp only;split
  .rw [List.length_append];simp only [List.length_cons,List.length_nil];omega
  .omega
def afr(ops:List IOp):List Bool:=(List.range ops.length).map λi=> !(decide ((ops.getD i default).kind=8)&&acG (ops.drop (i+1)) (ops.getD i default).k)
noncomputable def JW (b:Blk):Blk:=if bp (kR b)=true then R6 b (afr b.ops)else Uf
def us0(b:Blk):List Bool:=(λm:List Bool=>if 3<=b.fin then m.set b.y.toNat true else m) (if b.fin=1 then List.replicate b.ops.length false else(List.replicate b.ops.length false).set b.x.toNat true)
def usO(o:IOp)(i:Nat)(m:List Bool):List Bool:=
 if(m.getD i default || decide (4<=o.kind))=true then(λm:List Bool=>if hY o then m.set o.y.toNat true else m) ((λm:List Bool=>if hX o then m.set o.x.toNat true else m) (m.set i true))else m
def us(b:Blk):Nat->List Bool
 | 0=>us0 b
 | k+1=>usO (b.ops.getD (b.ops.length-1-k) default) (b.ops.length-1-k) (us b k)
noncomputable def Da (b:Blk):Blk:=if bp (kR b)=true then R6 b (us b b.ops.length)else Uf
def Yt(b:Blk)(kp:List Bool):(R6 b kp).ops.length=(kpS b.ops kp b.ops.length).2.length:=List.length_map _
def Mj(b:Blk)(kp:List Bool):(R6 b kp).ops.length<=b.ops.length:=by rw [Yt];exact(R7 b.ops kp b.ops.length).2
def Qg(b:Blk):(JW b).ops.length<=b.ops.length:=by
 unfold JW;split
 .exact Mj _ _
 .exact Nat.zero_le _
def Fb(b:Blk):(Da b).ops.length<=b.ops.length:=by
 unfold Da;split
 .exact Mj _ _
 .exact Nat.zero_le _
def abk(b:Blk)(f:List IOp):(fcB b f).ops=f:=by
 unfold fcB;split; · rfl
 split<;>rfl
def Mk(b:Blk):(Fa b).ops.length<=b.ops.length:=by
 unfold Fa;split
 .rw [abk,Yr];exact Nat.le_refl _
 .exact Nat.zero_le _
def Qh(b:Blk):(JV b).ops.length<=b.ops.length:=by
 unfold JV;split
 .exact Nat.le_of_eq (List.length_map _)
 .exact Nat.zero_le _
noncomputable def Yu (b:Blk):Blk:=Da (JW (Da (Fa (JV b))))
def Ug(b:Blk):(Yu b).ops.length<=b.ops.length:=Nat.le_trans (Fb _) (Nat.le_trans (Qg _) (Nat.le_trans (Fb _) (Nat.le_trans (Mk _) (Qh _))))
abbrev hK(o:IOp):Prop:=o.kind=1\/o.kind=2\/o.kind=3\/o.kind=8
noncomputable def SW (t:List Atom) (b:Blk) (i:Nat):SS:=(b.ops.take i).foldl stp (s0 t)
structure At(t:List Atom)(b:Blk)(i:Nat)(ld inn:Int)(tb:List Atom)(V:List (List aA))(ev:List Ev)(rg:List (List aA)):Prop where
 ld:ld=(SW t b i).ld
 inn:inn=(SW t b i).inn
 tb:tb=(SW t b i).t
 V:V=(SW t b i).vals++List.replicate (b.ops.length-i) []
 ev:ev=(SW t b i).evs
 rg:rg=(SW t b i).regs
def R8{t:List Atom}{b:Blk}{i:Nat}(hi:i<b.ops.length):SW t b (i+1)=stp (SW t b i) (b.ops.getD i default):=by
 unfold SW;rw [Qf _ _ hi,getD_lt hi]
def At.next{t:List Atom}{b:Blk}{i:Nat}{ld inn:Int}{tb:List Atom}{V:List (List aA)}{ev:List Ev}{rg:List (List aA)}(h:At t b i ld inn tb V ev rg)(hv:(SW t b i).vals.length=i)(hi:i<b.ops.length){o:IOp}(ho:b.ops.getD i default=o)
  {ld' ah2:Int} {tb':List Atom} {V':List (List aA)} {ev':List Ev} {rg':List (List aA)} (h1:ld'=if o.kind=4 then ld+1 else ld) (h2:ah2=if o.kind=6 then inn+1 else inn) (h3:tb'=nT (SW t b i) o) (h4:V'=V.set i (nV (SW t b i) o)) (h5:ev'=nE (SW t b i) o) (h6:rg'=nR (SW t b i) o):At t b (i+1) ld' ah2 tb' V' ev' rg':=by
 have e:=R8 (t:=t) hi;rw [ho]at e;refine⟨?_,?_,?_,?_,?_,?_⟩<;>rw [e]
 .rw [h1,h.ld];rfl
 .rw [h2,h.inn];rfl
 .exact h3
 .rw [h4,h.V];show _=((SW t b i).vals++ [nV (SW t b i) o])++_;rw [List.set_append_right _ _ ah,hv,Nat.sub_self,show b.ops.length-i=(b.ops.length- (i+1))+1 by omega,List.replicate_succ,List.set_cons_zero,List.append_assoc];rfl
 .exact h5
 .exact h6
def KB(l:List Ins):Prop:=∀i∈l,i.k<1000
def KB.at{l:List Ins}(h:KB l)(n:Nat):(l.getD n default).k<1000:=by
 by_cases h1:n<l.length
 .rw [getD_lt h1];exact h _ (List.getElem_mem _)
 .simp only [List.getD,List.getElem?_eq_none (by omega:l.length<=n)];decide
def KB.app{l:List Ins}{i:Ins}(h:KB l)(h2:i.k<=255):KB (l++ [i]):=λx hx=>by
 rw [List.mem_append,List.mem_singleton]at hx;rcases hx with hx | rfl
 .exact h x hx
 .omega
def Ry{α:Type}{x:α}{f l:List α}{k:Nat}(hf:f.length=k)(h:k<l.length):(f++l.drop k).set k x=(f++ [x])++l.drop (k+1):=by
 rw [List.set_append_right _ _ ah,hf,Nat.sub_self,List.drop_eq_getElem_cons h,List.set_cons_zero,List.append_assoc];rfl
def Rx{α:Type}{f l:List α}{k:Nat}(hf:f.length=k)(h:k<=l.length):(f++l.drop k).length=l.length:=by simp_all
def ShC(l:List Cer):Prop:=l.length<1000/\∀q∈l,q.base.ops.length<1000000/\q.made.ops.length<1000000
def ajK(l:List Cer)(b c:Blk):Prop:=∃q∈l,q.base=b/\q.made=c
def Fe(l:List Cer):Prop:=l.length<=3/\∀q∈l,chk q.base q.made=true
def ShC.at{l:List Cer}(h:ShC l)(i:Nat):(l.getD i default).base.ops.length<1000000/\(l.getD i default).made.ops.length<1000000:=by
 by_cases c:i<l.length
 .rw [getD_lt c];exact h.2 _ (List.getElem_mem _)
 .rw [List.getD_eq_getElem?_getD,List.getElem?_eq_none ah];exact⟨by decide,by decide⟩
def ShC.add{l:List Cer}(h:ShC l)(n:l.length<999){q:Cer}(h1:q.base.ops.length<1000000)(h2:q.made.ops.length<1000000):ShC (l++ [q]):=by
 refine⟨by rw [List.length_append,List.length_singleton];omega,λc g=> ?_⟩;rw [List.mem_append,List.mem_singleton]at g;rcases g with g | rfl
 .exact h.2 c g
 .exact⟨h1,h2⟩
def ShD(l:List Cer):Prop:=l.length<1000000000/\∀q∈l,q.base.ops.length<1000000000/\q.made.ops.length<1000000000
def ShC.d{l:List Cer}(h:ShC l):ShD l:=⟨by have:=h.1;omega,λq g=>by have:=h.2 q g;omega⟩
def ShD.at{l:List Cer}(h:ShD l)(i:Nat):(l.getD i default).base.ops.length<1000000000/\(l.getD i default).made.ops.length<1000000000:=by
 by_cases c:i<l.length
 .rw [getD_lt c];exact h.2 _ (List.getElem_mem _)
 .rw [List.getD_eq_getElem?_getD,List.getElem?_eq_none ah];exact⟨by decide,by decide⟩
def lF(l:List Int):(dS l).Perm l:=List.mergeSort_perm l _
def Bo(l:List Int):(dS l).Pairwise (· <= ·):=by
 have:=List.pairwise_mergeSort (le:=λx y:Int=>decide (x<=y)) (λa b c h1 h2=>by simp only [decide_eq_true_eq]at*;omega) (λa b=>by simp only [Bool.or_eq_true,decide_eq_true_eq];omega) l;exact this.imp λh=>by simpa using h
def vM{a b:List Int}(h:a.Perm b):dS a=dS b:=qj (Bo a) ((lF a).trans h)
def Fg{a:List Int}(h:a.Pairwise (· <= ·)):dS a=a:=(qj h (List.Perm.refl a)).symm
structure Ren(s:Int->Int)(t:Int->Int)(n:Int):Prop where
 rng:∀k,0<=k->k<n->0<=s k/\s k<=199
 back:∀k,0<=k->k<n->t (s k)=k
def mapM(s:Int->Int)(m:aA):aA:=⟨m.bU,dS (m.atoms.map s)⟩
def AtN(n:Int)(l:List Int):Prop:=l.Pairwise (· <= ·)/\∀k∈l,0<=k/\k<n
def Ren.bk{s t:Int->Int}{n:Int}(h:Ren s t n){l:List Int}(hl:AtN n l):dS ((dS (l.map s)).map t)=l:=by
 rw [vM ((lF _).map t),List.map_map];have e:l.map (t ∘ s)=l:=by
  conv=>rhs;rw [<-List.map_id l]
  exact List.map_congr_left λk hk=>h.back k (hl.2 k hk).1 (hl.2 k hk).2
 rw [e,Fg hl.1]
def JX{s t:Int->Int}{n:Int}(h:Ren s t n)(K:List Int):∀ {l:List aA},(∀m∈l,AtN n m.atoms)->cf (l.map (mapM s)) K=if dS ((dS (K.map t)).map s)=K then cf l (dS (K.map t))else 0
 | [],_=>by simp [jG]
 | m::l,hl=>by
  have hm:=hl m List.mem_cons_self;rw [List.map_cons,bQ,JX h K (λm' hm'=>hl m' (List.mem_cons_of_mem _ hm')),bQ];show(if dS (m.atoms.map s)=K then m.bU else 0)+_=_;by_cases c:dS (m.atoms.map s)=K
  .have e:=h.bk hm;rw [c]at e;rw [if_pos c,e,if_pos c,if_pos c,if_pos rfl]
  .rw [if_neg c];by_cases d:dS ((dS (K.map t)).map s)=K
   .rw [if_pos d,if_pos d,if_neg (λx=>c (by rw [x,d]))]
   .rw [if_neg d,if_neg d];rfl
noncomputable def bS (s:Int->Int) (p:List aA):List aA:=nf (p.map (mapM s))
def abl{s t:Int->Int}{n:Int}(h:Ren s t n){l l':List aA}(hl:∀m∈l,AtN n m.atoms)(hl':∀m∈l',AtN n m.atoms)(e:∀k,cf l k%65536=cf l' k%65536):nf (l.map (mapM s))=nf (l'.map (mapM s)):=
 Ma λK=>by
  rw [JX h K hl,JX h K hl'];split
  .exact e _
  .rfl
structure Dis(l:List aA):Prop where
 ne:l.Pairwise λa b=>a.atoms≠b.atoms
 co:∀m∈l,1<=m.bU/\m.bU<=65535
def Nf.dis{o:List aA}(h:Nf o):Dis o:=⟨h.ss.imp λg=>g.ne,h.co⟩
def Dis.perm{a b:List aA}(h:Dis a)(p:a.Perm b):Dis b:=⟨(p.pairwise_iff (R:=λa b:aA=>a.atoms≠b.atoms) (λg=>g.symm)).1 h.ne,λm hm=>h.co m (p.mem_iff.2 hm)⟩
def Dis.rng(k:List Int):∀ {l:List aA},Dis l->0<=cf l k/\cf l k<=65535
 | [],_=>by simp [jG]
 | m::l,h=>by
  have c:=h.co m List.mem_cons_self;rw [bQ];by_cases e:m.atoms=k
  .rw [if_pos e,iq λm' hm'=>by rw [<-e];exact(List.rel_of_pairwise_cons h.ne hm').symm];omega
  .rw [if_neg e];have:=Dis.rng k (l:=l) ⟨h.ne.tail,λm hm=>h.co m (List.mem_cons_of_mem _ hm)⟩;omega
def R9{a b:List aA}(p:a.Perm b)(k:List Int):cf a k=cf b k:=by
 induction p with
 | nil=>rfl
 | cons x _ ih=>rw [bQ,bQ,ih]
 | swap x y l=>rw [bQ,bQ,bQ,bQ];omega
 | trans _ _ h1 h2=>rw [h1,h2]
def abm{a b c:List Int}(h1:dX a b<=0)(h2:dX b c<=0):dX a c<=0:=by
 by_cases e:dX b c=0
 .rw [<-iR.1 e];exact h1
 .exact Int.le_of_lt (eX (x:=⟨0,a⟩) (y:=⟨0,b⟩) (z:=⟨0,c⟩) h1 (by dsimp only;omega))
def Dis.nf{l:List aA}(h:Dis l):(nf l).Perm l/\Nf (nf l):=by
 have p:(l.mergeSort λa b=>decide (dX a.atoms b.atoms<=0)).Perm l:=List.mergeSort_perm l _;have g:=List.pairwise_mergeSort (le:=λa b:aA=>decide (dX a.atoms b.atoms<=0)) (λa b c h1 h2=>by
  simp only [decide_eq_true_eq]at*;exact abm h1 h2) (λa b=>by
  simp only [Bool.or_eq_true,decide_eq_true_eq];rw [lU b.atoms a.atoms];omega) l
 have d:=h.perm p.symm;have n:Nf (l.mergeSort λa b=>decide (dX a.atoms b.atoms<=0)):=by
  refine⟨(g.and d.ne).imp λ{a b} x=> ?_,d.co⟩;have x1:dX a.atoms b.atoms<=0:=by simpa using x.1
  have x2:dX a.atoms b.atoms≠0:=λe=>x.2 (iR.1 e)
  show dX _ _<0;omega
 have e:=ER (l:=l) n λk=>by
  rw [R9 p k];have:=h.rng k;omega
 rw [e];exact⟨p,n⟩
def Fh{s t:Int->Int}{n:Int}(h:Ren s t n){p:List aA}(hp:Dis p)(ha:∀m∈p,AtN n m.atoms):(bS s p).Perm (p.map (mapM s))/\Nf (bS s p):=by
 refine Dis.nf ⟨?_,λm hm=> ?_⟩
 .rw [List.pairwise_map];refine hp.ne.imp_of_mem λ{a b} h1 h2 g e=>g ?_
  have e':dS (a.atoms.map s)=dS (b.atoms.map s):=e;rw [<-h.bk (ha a h1),e',h.bk (ha b h2)]
 .obtain⟨m',h1,rfl⟩:=List.mem_map.1 hm;exact hp.co m' h1
def Yv{s t:Int->Int}{n:Int}(h:Ren s t n){p:List aA}(hp:bK p)(ha:∀m∈p,AtN n m.atoms):bK (bS s p):=by
 obtain⟨h1,h2,h3⟩:=fU.1 hp;obtain⟨g1,g2⟩:=Fh h h1.dis ha;refine fU.2 ⟨g2,by rw [g1.length_eq,List.length_map];exact h2,λm hm=> ?_⟩;obtain⟨m',k1,rfl⟩:=List.mem_map.1 (g1.mem_iff.1 hm);refine⟨by show(dS _).length<=4;rw [rW,List.length_map];exact(h3 m' k1).1,Bo _,λk hk=> ?_⟩;obtain⟨j,j1,rfl⟩:=List.mem_map.1 ((lF _).mem_iff.1 hk);exact h.rng j ((ha m' k1).2 j j1).1 ((ha m' k1).2 j j1).2
def Yw{l:List aA}{n:Int}(hl:∀m∈l,AtN n m.atoms):∀m∈nf l,AtN n m.atoms:=λm hm=>by
 obtain⟨h1,h2⟩:=JR l;obtain⟨m',g1,g2⟩:=h1.from h2 hm;rw [<-g2];exact hl m' g1
def afs{s t:Int->Int}{n:Int}(h:Ren s t n){l:List aA}(hl:∀m∈l,AtN n m.atoms):nf (l.map (mapM s))=bS s (nf l):=
 abl h hl (Yw hl) λk=>by rw [(JR l).2];omega
def AtN.aok{n:Int}(hn:n<=200){l:List Int}(h:AtN n l):aok l:=⟨h.1,λk hk=>by have:=h.2 k hk;omega⟩
def abn{s t:Int->Int}{n:Int}(h:Ren s t n)(hn:n<=200){p:List aA}(hp:Nf p)(ha:∀m∈p,AtN n m.atoms):bK (bS s p)↔bK p:=by
 refine⟨λg=> ?_,λg=>Yv h g ha⟩;obtain⟨h1,h2,h3⟩:=fU.1 g;obtain⟨g1,_⟩:=Fh h hp.dis ha;refine fU.2 ⟨hp,by rw [g1.length_eq,List.length_map]at h2;exact h2,λm hm=>⟨?_,(ha m hm).aok hn⟩⟩;have:=(h3 _ (g1.mem_iff.2 (List.mem_map.2 ⟨m,hm,rfl⟩))).1;have e:(mapM s m).atoms.length=m.atoms.length:=by show(dS _).length=_;rw [rW,List.length_map]
 omega
def Ml{s t:Int->Int}{n:Int}(h:Ren s t n)(hn:n<=200){l:List aA}(hl:∀m∈l,AtN n m.atoms):lY (l.map (mapM s))=((lY l).1,bS s (lY l).2):=by
 unfold lY;rw [afs h hl];have e:=abn h hn (JR l).1 (Yw hl);by_cases c:bK (nf l)
 .rw [dO c,dO (e.2 c)];rfl
 .rw [iN c,iN (λg=>c (e.1 g))];show(false,[])=(false,bS s []);have:bS s []=[]:=wE ⟨List.Pairwise.nil,λm hm=>absurd hm (by simp)⟩;rw [this]
def Sb{a b:List aA}(p:a.Perm b):nf a=nf b:=Ma λk=>by rw [R9 p]
def Ic{a b:List aA}(p:a.Perm b):lY a=lY b:=by unfold lY;rw [Sb p]
def RP(n:Int)(p:List aA):Prop:=bK p/\∀m∈p,AtN n m.atoms
def RP.perm{s t:Int->Int}{n:Int}(h:Ren s t n){p:List aA}(hp:RP n p):(bS s p).Perm (p.map (mapM s)):=(Fh h hp.1.nf.dis hp.2).1
def RP.ok{s t:Int->Int}{n:Int}(h:Ren s t n){p:List aA}(hp:RP n p):bK (bS s p):=Yv h hp.1 hp.2
def Mq{s t:Int->Int}{n:Int}(h:Ren s t n)(hn:n<=200){a b:List aA}(ha:RP n a)(hb:RP n b):mO (bS s a) (bS s b)=((mO a b).1,bS s (mO a b).2):=by
 unfold mO;rw [dO (ha.ok h),dO (hb.ok h),dO ha.1,dO hb.1];show lY _=_;rw [Ic ((ha.perm h).append (hb.perm h)),<-List.map_append,Ml h hn λm hm=> ?_]
 .rfl
 .rcases List.mem_append.1 hm with g | g
  .exact ha.2 m g
  .exact hb.2 m g
def Yx(s:Int->Int)(m k:aA):mulM (mapM s m) (mapM s k)=mapM s (mulM m k):=by
 show aA.mk _ (dS (dS (m.atoms.map s)++dS (k.atoms.map s)))=aA.mk _ (dS ((dS (m.atoms++k.atoms)).map s));rw [vM ((lF _).append (lF _)),<-List.map_append,vM ((lF (m.atoms++k.atoms)).map s)];rfl
def Uh(s:Int->Int)(a b:List aA):prods (a.map (mapM s)) (b.map (mapM s))=(prods a b).map (mapM s):=by
 unfold prods;rw [List.flatMap_map,List.map_flatMap]
 congr 1;funext m
 rw [List.map_map,List.map_map]
 congr 1;funext k
 exact Yx s m k
def Qi{a a' b b':List aA}(h1:a.Perm a')(h2:b.Perm b'):(prods a b).Perm (prods a' b'):=by
 unfold prods;refine(h1.flatMap_right _).trans ?_
 clear h1
 induction a' with
 | nil=>exact List.Perm.refl _
 | cons m l ih=>rw [List.flatMap_cons,List.flatMap_cons];exact(h2.map _).append ih
def AtN.mul{n:Int}{m k:aA}(h1:AtN n m.atoms)(h2:AtN n k.atoms):AtN n (mulM m k).atoms:=⟨Bo _,λj hj=>by
 rcases List.mem_append.1 ((lF _).mem_iff.1 hj)with g | g
 .exact h1.2 j g
 .exact h2.2 j g⟩
def Mr{n:Int}{a b:List aA}(ha:∀m∈a,AtN n m.atoms)(hb:∀m∈b,AtN n m.atoms):∀m∈prods a b,AtN n m.atoms:=λm hm=>by
 obtain⟨x,hx,g⟩:=List.mem_flatMap.1 hm;obtain⟨y,hy,rfl⟩:=List.mem_map.1 g;exact(ha x hx).mul (hb y hy)
def Ms{s t:Int->Int}{n:Int}(h:Ren s t n)(hn:n<=200){a b:List aA}(ha:RP n a)(hb:RP n b):mP (bS s a) (bS s b)=((mP a b).1,bS s (mP a b).2):=by
 unfold mP;rw [dO (ha.ok h),dO (hb.ok h),dO ha.1,dO hb.1];show lY _=_;rw [Ic (Qi (ha.perm h) (hb.perm h)),Uh,Ml h hn (Mr ha.2 hb.2)];rfl
def Yy{s t:Int->Int}{n:Int}(h:Ren s t n){p:List aA}(hp:∀m∈p,AtN n m.atoms):(p.map (mapM s)).map (mapM t)=p:=by
 rw [List.map_map]
 conv=>rhs;rw [<-List.map_id p]
 refine List.map_congr_left λm hm=> ?_
 show aA.mk m.bU (dS ((dS (m.atoms.map s)).map t))=m;rw [h.bk (hp m hm)]
def zJ{s t:Int->Int}{n:Int}(h:Ren s t n){p q:List aA}(hp:RP n p)(hq:RP n q)(e:bS s p=bS s q):p=q:=by
 have g:(p.map (mapM s)).Perm (q.map (mapM s)):=(hp.perm h).symm.trans (e▸hq.perm h);have:=Sb (g.map (mapM t))
 rwa [Yy h hp.2,Yy h hq.2,wE hp.1.nf,wE hq.1.nf]at this
def tH(s:Int->Int):bS s []=[]:=wE ⟨List.Pairwise.nil,λm hm=>absurd hm (by simp)⟩
def RP.nil(n:Int):RP n []:=⟨iF,λm hm=>absurd hm (by simp)⟩
def Ui:dS []=[]:=Fg List.Pairwise.nil
def RP.const(n k:Int):RP n (fJ k):=by
 refine⟨lW k,λm hm=> ?_⟩;unfold fJ at hm;split at hm
 .rw [List.mem_singleton]at hm;subst hm;exact⟨List.Pairwise.nil,λj hj=>absurd hj (by simp)⟩
 .exact absurd hm (by simp)
def wH{s:Int->Int}(k:Int):bS s (fJ k)=fJ k:=by
 have e:(fJ k).map (mapM s)=fJ k:=by
  unfold fJ;split
  .show [aA.mk k (dS [])]=_;rw [Ui]
  .rfl
 unfold bS;rw [e,wE (lW k).nf]
def RP.atom{n j:Int}(h1:0<=j)(h2:j<n):RP n (gK j):=by
 refine⟨nK j,λm hm=> ?_⟩;unfold gK at hm;split at hm
 .rw [List.mem_singleton]at hm;subst hm;exact⟨List.pairwise_singleton _ _,λi hi=>by rw [List.mem_singleton]at hi;subst hi;exact⟨h1,h2⟩⟩
 .exact absurd hm (by simp)
def Yz{s t:Int->Int}{n:Int}(h:Ren s t n)(hn:n<=200){j:Int}(h1:0<=j)(h2:j<n):bS s (gK j)=gK (s j):=by
 have r:=h.rng j h1 h2;have e:(gK j).map (mapM s)=gK (s j):=by
  unfold gK;rw [if_pos ah,if_pos ah];show [aA.mk 1 (dS [s j])]=_;rw [Fg (List.pairwise_singleton _ _)]
 unfold bS;rw [e,wE (nK _).nf]
def abo{s t:Int->Int}{n:Int}(h:Ren s t n){p:List aA}(hp:RP n p):(bS s p).length=p.length:=by rw [(hp.perm h).length_eq,List.length_map]
def abp{s t:Int->Int}{n:Int}(h:Ren s t n){m:aA}(hp:RP n [m]):bS s [m]=[mapM s m]:=List.perm_singleton.1 (hp.perm h)
theorem Mv{s t:Int->Int}{n:Int}(h:Ren s t n){p:List aA}(hp:RP n p):iC (bS s p)=iC p:=by
 have l:=abo h hp;unfold iC;rw [dO (hp.ok h),dO hp.1,l]
 match p,hp,l with
 | [],_,_=>rfl
 | [m],hp,_=>
  rw [abp h hp];have e:(mapM s m).atoms.length=m.atoms.length:=by show(dS _).length=_;rw [rW,List.length_map]
  have e2:(mapM s m).bU=m.bU:=rfl;have z:((mapM s m).atoms=[])↔(m.atoms=[]):=by rw [<-List.length_eq_zero_iff,e,List.length_eq_zero_iff]
  simp [e2,z]
 | a::b::r,_,_=>simp
def RP.sum{n:Int}{l:List aA}(hl:∀m∈l,AtN n m.atoms):RP n (lY l).2:=by
 unfold lY;by_cases c:bK (nf l)
 .rw [dO c];exact⟨c,Yw hl⟩
 .rw [iN c];exact RP.nil n
def RP.add{n:Int}{a b:List aA}(ha:RP n a)(hb:RP n b):RP n (mO a b).2:=by
 unfold mO;rw [dO ha.1,dO hb.1];exact RP.sum λm hm=>by
  rcases List.mem_append.1 hm with g | g
  .exact ha.2 m g
  .exact hb.2 m g
def RP.mul{n:Int}{a b:List aA}(ha:RP n a)(hb:RP n b):RP n (mP a b).2:=by
 unfold mP;rw [dO ha.1,dO hb.1];exact RP.sum (Mr ha.2 hb.2)
def RP.scale{n:Int}{a:List aA}(ha:RP n a)(k:Int):RP n (iK a k):=by
 unfold iK;split
 .exact ha.mul (RP.const n k)
 .exact RP.nil n
def Qj{s t:Int->Int}{n:Int}(h:Ren s t n)(hn:n<=200){a:List aA}(ha:RP n a)(k:Int):iK (bS s a) k=bS s (iK a k):=by
 unfold iK;rw [dO (ha.ok h),dO ha.1];by_cases c:inB k 0 65535=true
 .rw [c];show(mP (bS s a) (fJ k)).2=bS s (mP a (fJ k)).2;rw [<-wH (s:=s) k,Ms h hn ha (RP.const n k),wH]
 .rw [Bool.not_eq_true]at c;rw [c];exact(tH s).symm
def Mw{s t:Int->Int}{n:Int}(h:Ren s t n){x y:List aA}(hx:RP n x)(hy:RP n y):gT (bS s x) (bS s y)=0↔gT x y=0:=by
 rw [pE,pE];exact⟨λe=>zJ h hx hy e,λe=>by rw [e]⟩
def YA{s t:Int->Int}{n:Int}(h:Ren s t n){x y:List aA}(hx:RP n x)(hy:RP n y)(op:Int):uo op (bS s x) (bS s y)=(bS s (uo op x y).1,(uo op x y).2):=by
 unfold uo;rw [Mv h hx,Mv h hy];simp only [Mw h hx hy]
 repeat' split
 all_goals simp only [wH,tH]
def RP.bit{n:Int}{x y:List aA}(hx:RP n x)(hy:RP n y)(op:Int):RP n (uo op x y).1:=by
 unfold uo
 repeat' split
 all_goals first | exact hx | exact hy | exact RP.nil n | exact RP.const n _
def Uj{s t:Int->Int}{n:Int}(h:Ren s t n)(hn:n<=200){x y:List aA}(hx:RP n x)(hy:RP n y)(op:Int):fO op (bS s x) (bS s y)=(bS s (fO op x y).1,(fO op x y).2):=by
 unfold fO;split; · rw [Mq h hn hx hy]
 split; · rw [Qj h hn hy,Mq h hn hx (hy.scale _)]
 split; · rw [Ms h hn hx hy]
 exact YA h hx hy op
def RP.simp{n:Int}{x y:List aA}(hx:RP n x)(hy:RP n y)(op:Int):RP n (fO op x y).1:=by
 unfold fO;split; · exact hx.add hy
 split; · exact hx.add (hy.scale _)
 split; · exact hx.mul hy
 exact hx.bit hy op
def Bp{n:Int}{p:List aA}:RP n p↔bK p/\bH p n:=by
 constructor
 .rintro⟨h1,h2⟩;exact⟨h1,dJ.2 λm hm k hk=>((h2 m hm).2 k hk).2⟩
 .rintro⟨h1,h2⟩;refine⟨h1,λm hm=>⟨(h1.aok hm).2.1,λk hk=>⟨((h1.aok hm).2.2 k hk).1,dJ.1 h2 m hm k hk⟩⟩⟩
def nL{s s':Int->Int}{n:Int}(e:∀j,0<=j->j<n->s' j=s j){p:List aA}(hp:RP n p):bS s' p=bS s p:=by
 unfold bS
 congr 1
 refine List.map_congr_left λm hm=> ?_
 unfold mapM
 congr 2
 exact List.map_congr_left λk hk=>e k ((hp.2 m hm).2 k hk).1 ((hp.2 m hm).2 k hk).2
def RP.le{n m:Int}{p:List aA}(h:RP n p)(hn:n<=m):RP m p:=⟨h.1,λa ha=>⟨(h.2 a ha).1,λk hk=>by have:=(h.2 a ha).2 k hk;omega⟩⟩
noncomputable def zK (s:Int->Int) (a:Atom):Atom:=
 if a.kind=4/\a.k≠2/\0<gT (bS s a.x) (bS s a.y)then⟨a.kind,a.k,bS s a.y,bS s a.x⟩else⟨a.kind,a.k,bS s a.x,bS s a.y⟩
def Mx(a:Atom):Prop:=a.kind=4->a.k≠2->gT a.x a.y<=0
def YB{s t:Int->Int}{n:Int}(h:Ren s t n){a b:Atom}(ax:RP n a.x)(ay:RP n a.y)(bx:RP n b.x)(by_:RP n b.y)(oa:Mx a)(ob:Mx b)(e:zK s a=zK s b):a=b:=by
 have key:a.kind=b.kind->a.k=b.k->(a.kind=4/\a.k≠2)->bS s a.x=bS s b.y->bS s a.y=bS s b.x->a=b:=λe1 e2 c e3 e4=>by
  have e3:=zJ h ax by_ e3;have e4:=zJ h ay bx e4;have o1:=oa c.1 c.2;have o2:=ob (e1▸c.1) (e2▸c.2);rw [<-e3,<-e4,Bj]at o2;have:a.x=a.y:=pE.1 ah;cases a;cases b;dsimp only at*;subst e1;subst e2;subst e3;subst e4;subst this;rfl
 have same:a.kind=b.kind->a.k=b.k->bS s a.x=bS s b.x->bS s a.y=bS s b.y->a=b:=λe1 e2 e3 e4=>by
  have e3:=zJ h ax bx e3;have e4:=zJ h ay by_ e4;cases a;cases b;dsimp only at*;subst e1;subst e2;subst e3;subst e4;rfl
 unfold zK at e;by_cases c:a.kind=4/\a.k≠2/\0<gT (bS s a.x) (bS s a.y)
 .rw [if_pos c]at e;by_cases d:b.kind=4/\b.k≠2/\0<gT (bS s b.x) (bS s b.y)
  .rw [if_pos d]at e;injection e with e1 e2 e3 e4;exact same e1 e2 e4 e3
  .rw [if_neg d]at e;injection e with e1 e2 e3 e4;exact key e1 e2 ⟨c.1,c.2.1⟩ e4 e3
 .rw [if_neg c]at e;by_cases d:b.kind=4/\b.k≠2/\0<gT (bS s b.x) (bS s b.y)
  .rw [if_pos d]at e;injection e with e1 e2 e3 e4;exact key e1 e2 ⟨e1▸d.1,e2▸d.2.1⟩ e3 e4
  .rw [if_neg d]at e;injection e with e1 e2 e3 e4;exact same e1 e2 e3 e4
def Fj{s s':Int->Int}{n:Int}(e:∀j,0<=j->j<n->s' j=s j){a:Atom}(ax:RP n a.x)(ay:RP n a.y):zK s' a=zK s a:=by
 unfold zK;rw [nL e ax,nL e ay]
def MC{a:Atom}{n:Int}(h:iB a n):RP n a.x/\RP n a.y:=by
 unfold iB at h;split at h
 .exact⟨Bp.2 ⟨h.2.1,h.2.2.2.1⟩,Bp.2 ⟨h.2.2.1,h.2.2.2.2⟩⟩
 .rw [h.1.1,h.1.2];exact⟨RP.nil n,RP.nil n⟩
def Sc{α:Type}[Inhabited α](l:List α)(a:α)(i:Int)(h:0<=i):((l++ [a]).getD (i).toNat default)=if i=l.length then a else((l).getD (i).toNat default):=by
 by_cases c:i=l.length
 .rw [if_pos c,c,List.getD_eq_getElem?_getD];simp
 .rw [if_neg c,List.getD_eq_getElem?_getD,List.getD_eq_getElem?_getD];by_cases d:i.toNat<l.length
  .rw [List.getElem?_append_left d]
  .rw [List.getElem?_eq_none (by rw [List.length_append,List.length_singleton];omega),List.getElem?_eq_none ah]
structure TR(s t:Int->Int)(u T:List Atom):Prop where
 r:Ren s t u.length
 tok:bB u
 im:∀i:Int,0<=i->i<u.length->s i<T.length/\((T).getD (s i).toNat default)=zK s ((u).getD (i).toNat default)
 ord:∀i:Int,0<=i->i<u.length->Mx ((u).getD (i).toNat default)
theorem TR.rp{s t:Int->Int}{u T:List Atom}(h:TR s t u T){i:Int}(h1:0<=i)(h2:i<u.length):RP i ((u).getD (i).toNat default).x/\RP i ((u).getD (i).toNat default).y:=MC ((jC.1 h.tok).1 i h1 h2).1
def TR.snoc{s t:Int->Int}{u T:List Atom}(h:TR s t u T)(hT:bB T){a:Atom}(hu:bB (u++ [a]))(hn:∀i:Int,0<=i->i<u.length->((u).getD (i).toNat default)≠a)(ha:iB a u.length)(oa:Mx a){k:Int}(k0:0<=k)(k1:k<T.length)(k2:((T).getD (k).toNat default)=zK s a):
  ∃s' t':Int->Int,TR s' t' (u++ [a]) T/\(∀j:Int,0<=j->j<u.length->s' j=s j)/\s' u.length=k:=by
 have hT2:=(jC.1 hT).2;obtain⟨ax,ay⟩:=MC ha;have ag:∀j:Int,0<=j->j< (u.length:Int)->(λj:Int=>if j=u.length then k else s j) j=s j:=λj h1 h2=>if_neg ah
 have nk:∀j:Int,0<=j->j< (u.length:Int)->s j≠k:=λj h1 h2 e=>by
  have g:=(h.im j h1 h2).2;rw [e,k2]at g;have:=h.rp h1 h2;exact hn j h1 h2 (YB h.r (this.1.le ah) (this.2.le ah) ax ay (h.ord j h1 h2) oa g.symm)
 have ln:((u++ [a]).length:Int)=u.length+1:=by rw [List.length_append,List.length_singleton];omega
 refine⟨λj:Int=>if j=u.length then k else s j,λv:Int=>if v=k then u.length else t v,⟨⟨λj h1 h2=> ?_,λj h1 h2=> ?_⟩,hu,λj h1 h2=> ?_,λj h1 h2=> ?_⟩,ag,if_pos rfl⟩
 .split
  .omega
  .exact h.r.rng j h1 ah
 .by_cases c:j=u.length
  .rw [if_pos c,if_pos rfl,c]
  .rw [if_neg c,if_neg (nk j h1 ah)];exact h.r.back j h1 ah
 .rw [Sc _ _ _ h1];by_cases c:j=u.length
  .rw [if_pos c,if_pos c,Fj (s:=s) ag ax ay];exact⟨k1,k2⟩
  .rw [if_neg c,if_neg c];have:=h.rp h1 (show j<u.length by omega);rw [Fj (s:=s) ag (this.1.le ah) (this.2.le ah)];exact h.im j h1 ah
 .rw [Sc _ _ _ h1];split
  .exact oa
  .exact h.ord j h1 ah
def abq{T:List Atom}(hT:bB T){i j:Int}(i0:0<=i)(i1:i<T.length)(j0:0<=j)(j1:j<T.length)(e:((T).getD (i).toNat default)=((T).getD (j).toNat default)):i=j:=by
 have h:=(jC.1 hT).1;rcases Int.lt_trichotomy i j with c | c | c
 .exact absurd e.symm ((h j j0 j1).2 i i0 c)
 .exact c
 .exact absurd e ((h i i0 i1).2 j j0 c)
structure ajL(s:Int->Int)(s' t':Int->Int)(u u' T:List Atom)(r k:Int):Prop where
 tr:TR s' t' u' T
 ag:∀j:Int,0<=j->j<u.length->s' j=s j
 r0:0<=r
 r1:r<u'.length
 sr:s' r=k
 le:u.length<=u'.length
theorem TR.put{s t:Int->Int}{u T:List Atom}(h:TR s t u T)(hT:bB T){a:Atom}(ha:iB a u.length)(oa:Mx a)(hl:u.length<200){k:Int}(k0:0<=k)(k1:k<T.length)(k2:((T).getD (k).toNat default)=zK s a):
  ∃s' t':Int->Int,ajL s s' t' u (bY u a).1 T (bY u a).2 k:=by
 have ok:=zG (a:=a) h.tok hl;rcases lD u a with⟨f1,f2⟩ | ⟨f1,f2,f3,_⟩
 .have e:bY u a=(u++ [a],(u.length:Int)):=by
   unfold bY;rw [if_neg ah,if_neg];rintro(g | g)
   .exact g ha
   .omega
  rw [e]at ok ⊢;obtain⟨s',t',g1,g2,g3⟩:=h.snoc hT ok.1 (λi i0 i1 g=>f2 i i0 i1 g.symm) ha oa k0 k1 k2;exact⟨s',t',g1,g2,by dsimp only;omega,by dsimp only;rw [List.length_append,List.length_singleton];omega,g3,by dsimp only;rw [List.length_append];omega⟩
 .have e:bY u a=(u,qJ u a):=by unfold bY;rw [if_pos f1]
  rw [e];have g:=h.im _ f1 f2;refine⟨s,t,h,λ_ _ _=>rfl,f1,f2,?_,Nat.le_refl _⟩;have f3:a=((u).getD (qJ u a).toNat default):=f3;refine abq hT (h.r.rng _ f1 f2).1 g.1 k0 k1 ?_;rw [g.2,<-f3,k2]
noncomputable def atD (op:Int) (x y:List aA):Atom:=if op≠2/\0<gT x y then⟨4,op,y,x⟩else⟨4,op,x,y⟩
def JY(t:List Atom)(op:Int)(x y:List aA):tDo t op x y=if(fO op x y).2 then(t,(fO op x y).1)else if(bY t (atD op x y)).2<0 then([],[])else((bY t (atD op x y)).1,gK (bY t (atD op x y)).2):=by
 unfold tDo atD;split
 .rfl
 .split<;>rfl
def abr(op:Int)(x y:List aA):Mx (atD op x y):=by
 unfold atD Mx;split
 .rename_i c;intro _ _;dsimp only;rw [Bj];omega
 .rename_i c;intro _ g;dsimp only at g ⊢;by_cases d:0<gT x y
  .exact absurd ⟨g,d⟩ c
  .omega
def abt{s t:Int->Int}{n:Int}(h:Ren s t n){x y:List aA}(hx:RP n x)(hy:RP n y)(op:Int):zK s (atD op x y)=atD op (bS s x) (bS s y):=by
 have z:=Mw h hx hy;have f:=Bj (bS s x) (bS s y);have eq:gT (bS s x) (bS s y)=0->bS s x=bS s y:=pE.1;unfold atD zK;by_cases c:op≠2/\0<gT x y
 .rw [if_pos c];dsimp only;by_cases d:0<gT (bS s x) (bS s y)
  .rw [if_neg ah,if_pos ⟨c.1,d⟩]
  .rw [if_pos ⟨rfl,c.1,ah⟩,if_neg ah]
 .rw [if_neg c];dsimp only;by_cases d:op≠2/\0<gT (bS s x) (bS s y)
  .rw [if_pos ⟨rfl,d.1,d.2⟩,if_pos d]
  .rw [if_neg ah,if_neg d]
noncomputable def ME (s:Int->Int) (e:Ev):Ev:=⟨e.kind,e.at_,bS s e.x,bS s e.y,e.regs.map (bS s)⟩
def RPs(n:Int)(l:List (List aA)):Prop:=∀p∈l,RP n p
def RPE(n:Int)(l:List Ev):Prop:=∀e∈l,RP n e.x/\RP n e.y/\RPs n e.regs
def RPs.le{n m:Int}{l:List (List aA)}(h:RPs n l)(hn:n<=m):RPs m l:=λp hp=>(h p hp).le hn
def RPE.le{n m:Int}{l:List Ev}(h:RPE n l)(hn:n<=m):RPE m l:=λe he=>⟨(h e he).1.le hn,(h e he).2.1.le hn,(h e he).2.2.le hn⟩
def yh{s s':Int->Int}{n:Int}(e:∀j,0<=j->j<n->s' j=s j){l:List (List aA)}(h:RPs n l):l.map (bS s')=l.map (bS s):=List.map_congr_left λp hp=>nL e (h p hp)
def MF{s s':Int->Int}{n:Int}(e:∀j,0<=j->j<n->s' j=s j){l:List Ev}(h:RPE n l):l.map (ME s')=l.map (ME s):=List.map_congr_left λv hv=>by
 unfold ME;rw [nL e (h v hv).1,nL e (h v hv).2.1,yh e (h v hv).2.2]
def Qk(s:Int->Int)(l:List (List aA))(i:Int):((l.map (bS s)).getD (i).toNat default)=bS s ((l).getD (i).toNat default):=by
 rw [List.getD_eq_getElem?_getD,List.getD_eq_getElem?_getD,List.getElem?_map];cases l[i.toNat]? with
 | none=>exact(tH s).symm
 | some p=>rfl
def RPs.at{n:Int}{l:List (List aA)}(h:RPs n l)(i:Int):RP n ((l).getD (i).toNat default):=Bp.2 (JU (λp hp=>Bp.1 (h p hp)) i)
def abu{op n:Int}{x y:List aA}(hop:1<=op/\op<=5)(hx:RP n x)(hy:RP n y):iB (atD op x y) n:=by
 have hx:=Bp.1 hx;have hy:=Bp.1 hy;unfold atD;split
 .unfold iB;rw [if_pos rfl];exact⟨hop,hy.1,hx.1,hy.2,hx.2⟩
 .unfold iB;rw [if_pos rfl];exact⟨hop,hx.1,hy.1,hx.2,hy.2⟩
def aft{t:List Atom}{op:Int}{x y:List aA}(h:tOk t op x y=true)(c:¬(fO op x y).2=true):0<=(bY t (atD op x y)).2:=by
 unfold tOk at h;unfold atD;by_cases c2:op≠2/\0<gT x y
 .rw [if_pos c2,Bool.or_eq_true,Bool.not_eq_true',decide_eq_false_iff_not]at h;rw [if_pos c2];have:=h.resolve_left c;omega
 .rw [if_neg c2,Bool.or_eq_true,Bool.not_eq_true',decide_eq_false_iff_not]at h;rw [if_neg c2];have:=h.resolve_left c;omega
structure St1(s s' t':Int->Int)(u u' T:List Atom)(v V:List aA):Prop where
 tr:TR s' t' u' T
 ag:∀j:Int,0<=j->j<u.length->s' j=s j
 eq:V=bS s' v
 rp:RP u'.length v
def TR.n200{s t:Int->Int}{u T:List Atom}(h:TR s t u T):(u.length:Int)<=200:=by have:=(jC.1 h.tok).2;omega
def TR.ah3{s t:Int->Int}{u T:List Atom}(h:TR s t u T)(hT:bB T){a A:Atom}(ha:iB a u.length)(oa:Mx a)(hl:u.length<200)(k0:0<=(bY T A).2)(hc:(bY T A).1=T)(e:A=zK s a):
  ∃s' t':Int->Int,St1 s s' t' u (bY u a).1 T (gK (bY u a).2) (gK (bY T A).2)/\0<=(bY u a).2:=by
 obtain⟨k1,k2⟩:=wG k0;rw [hc]at k1 k2;obtain⟨s',t',P⟩:=h.put hT ha oa hl k0 k1 (by rw [k2,e]);exact⟨s',t',⟨P.tr,P.ag,by rw [Yz P.tr.r P.tr.n200 P.r0 P.r1,P.sr],RP.atom P.r0 P.r1⟩,P.r0⟩
def TR.do1{s t:Int->Int}{u T:List Atom}(h:TR s t u T)(hT:bB T){op:Int}{x y:List aA}(hop:1<=op/\op<=5)(hx:RP u.length x)(hy:RP u.length y)(hl:u.length<200)(ok:tOk T op (bS s x) (bS s y)=true)(hc:(tDo T op (bS s x) (bS s y)).1=T):
  ∃s' t':Int->Int,St1 s s' t' u (tDo u op x y).1 T (tDo u op x y).2 (tDo T op (bS s x) (bS s y)).2:=by
 have e:=Uj h.r h.n200 hx hy op;by_cases c:(fO op x y).2=true
 .have e1:tDo u op x y=(u,(fO op x y).1):=by rw [JY,if_pos c]
  have e2:tDo T op (bS s x) (bS s y)=(T,bS s (fO op x y).1):=by rw [JY,e,if_pos c]
  rw [e1,e2];exact⟨s,t,h,λ_ _ _=>rfl,rfl,hx.simp hy op⟩
 .have k0:=aft ok (by rw [e];exact c);have e2:tDo T op (bS s x) (bS s y)=((bY T (atD op (bS s x) (bS s y))).1,gK (bY T (atD op (bS s x) (bS s y))).2):=by rw [JY,e,if_neg c,if_neg ah]
  rw [e2]at hc ⊢;obtain⟨s',t',P,r0⟩:=h.ah3 hT (abu hop hx hy) (abr op x y) hl k0 hc (abt h.r hx hy op).symm;have e1:tDo u op x y=((bY u (atD op x y)).1,gK (bY u (atD op x y)).2):=by rw [JY,if_neg c,if_neg ah]
  rw [e1];exact⟨s',t',P⟩
def Ql(s:Int->Int){a:Atom}(h:a.kind≠4)(hx:a.x=[])(hy:a.y=[]):zK s a=a:=by
 unfold zK;rw [if_neg (λg=>h g.1),hx,hy,tH];cases a;dsimp only at*;rw [hx,hy]
structure LS(s t:Int->Int)(a A:SS):Prop where
 tr:TR s t a.t A.t
 regs:A.regs=a.regs.map (bS s)
 rr:RPs a.t.length a.regs
 vals:A.vals=a.vals.map (bS s)
 rv:RPs a.t.length a.vals
 ld:A.ld=a.ld
 inn:A.inn=a.inn
 evs:A.evs=a.evs.map (ME s)
 re:RPE a.t.length a.evs
def LS.x{s t:Int->Int}{a A:SS}(h:LS s t a A)(o:IOp):xOf A o=bS s (xOf a o)/\RP a.t.length (xOf a o):=by
 unfold xOf;split
 .rw [h.vals,Qk];exact⟨rfl,h.rv.at _⟩
 .exact⟨(tH s).symm,RP.nil _⟩
def LS.y{s t:Int->Int}{a A:SS}(h:LS s t a A)(o:IOp):yOf A o=bS s (yOf a o)/\RP a.t.length (yOf a o):=by
 unfold yOf;split
 .rw [h.vals,Qk];exact⟨rfl,h.rv.at _⟩
 .exact⟨(tH s).symm,RP.nil _⟩
def LS.val{s t:Int->Int}{a A:SS}(h:LS s t a A)(hT:bB A.t){n:Int}{i:Nat}(si:SI n i a)(hn:n+i<200)(hi:i<200){o:IOp}(hk:o.kind=3->1<=o.k/\o.k<=5)(sA:SOK A o)(hc:nT A o=A.t):
  ∃s' t':Int->Int,St1 s s' t' a.t (nT a o) A.t (nV a o) (nV A o):=by
 have hl:=si.tl;have hl:a.t.length<200:=by omega
 have ea:aOf A o=aOf a o:=by unfold aOf;rw [h.ld,h.inn]
 have id:∀v V,V=bS s v->RP a.t.length v->nT a o=a.t->nV a o=v->nV A o=V->∃s' t':Int->Int,St1 s s' t' a.t (nT a o) A.t (nV a o) (nV A o):=λv V e r e1 e2 e3=>by
  rw [e1,e2,e3];exact⟨s,t,h.tr,λ_ _ _=>rfl,e,r⟩
 by_cases c3:o.kind=3
 .have e1:∀w:SS,nT w o=(tDo w.t o.k (xOf w o) (yOf w o)).1:=λw=>by unfold nT;rw [if_pos c3]
  have e2:∀w:SS,nV w o=(tDo w.t o.k (xOf w o) (yOf w o)).2:=λw=>by unfold nV;rw [if_neg ah,if_neg ah,if_pos c3]
  have ok:=(sA.d c3).ok;rw [e1]at hc;rw [(h.x o).1,(h.y o).1]at ok hc;rw [e1,e2,e2,(h.x o).1,(h.y o).1];exact h.tr.do1 hT (hk c3) (h.x o).2 (h.y o).2 hl ok hc
 .by_cases c4:o.kind=4\/o.kind=6
  .have e1:∀w:SS,nT w o=(bY w.t (aOf w o)).1:=λw=>by unfold nT;rw [if_neg c3,if_pos c4]
   have e2:∀w:SS,nV w o=gK (bY w.t (aOf w o)).2:=λw=>by unfold nV;rw [if_neg ah,if_neg ah,if_neg c3,if_pos c4]
   have k0:=sA.p c4;rw [e1]at hc;have f1:(aOf a o).kind≠4/\(aOf a o).x=[]/\(aOf a o).y=[]:=by unfold aOf;split<;>exact⟨by dsimp only;decide,rfl,rfl⟩
   obtain⟨s',t',P,_⟩:=h.tr.ah3 hT (R5 si hi o _) (λg=>absurd g f1.1) hl k0 hc (by rw [ea,Ql s f1.1 f1.2.1 f1.2.2]);rw [e1,e2,e2];exact⟨s',t',P⟩
  .have eT:nT a o=a.t:=by unfold nT;rw [if_neg c3,if_neg c4]
   by_cases c1:o.kind=1
   .exact id _ _ (wH o.k).symm (RP.const _ _) eT (by unfold nV;rw [if_pos c1]) (by unfold nV;rw [if_pos c1])
   .by_cases c2:o.kind=2
    .exact id _ _ rfl (h.rr.at o.k) eT (by unfold nV;rw [if_neg c1,if_pos c2]) (by unfold nV;rw [if_neg c1,if_pos c2,h.regs,Qk])
    .exact id _ _ (tH s).symm (RP.nil _) eT (by unfold nV;rw [if_neg c1,if_neg c2,if_neg c3,if_neg c4]) (by unfold nV;rw [if_neg c1,if_neg c2,if_neg c3,if_neg c4])
def LS.step{s t:Int->Int}{a A:SS}(h:LS s t a A)(hT:bB A.t){n:Int}{i:Nat}(si:SI n i a)(hn:n+i<200)(hi:i<200){o:IOp}(hk:o.kind=3->1<=o.k/\o.k<=5)(sA:SOK A o)(hc:(stp A o).t=A.t):
  ∃s' t':Int->Int,LS s' t' (stp a o) (stp A o)/\∀j:Int,0<=j->j<a.t.length->s' j=s j:=by
 have hc:nT A o=A.t:=hc;obtain⟨s',t',P⟩:=h.val hT si hn hi hk sA hc;have le:(a.t.length:Int)<=(nT a o).length:=by have:=tC (E5 si hk hn hi).2.pre;exact Int.ofNat_le.2 this
 have ag:=P.ag;obtain⟨x1,x2⟩:=h.x o;obtain⟨y1,y2⟩:=h.y o;have x1':xOf A o=bS s' (xOf a o):=by rw [x1,nL ag x2]
 have y1':yOf A o=bS s' (yOf a o):=by rw [y1,nL ag y2]
 have r1':A.regs=a.regs.map (bS s'):=by rw [h.regs,yh ag h.rr]
 refine⟨s',t',⟨?_,?_,?_,?_,?_,?_,?_,?_,?_⟩,ag⟩
 .show TR s' t' (nT a o) (nT A o);rw [hc];exact P.tr
 .show nR A o=(nR a o).map (bS s');unfold nR;split
  .rw [List.map_set,<-r1',x1']
  .exact r1'
 .show RPs _ (nR a o);unfold nR;split
  .intro p hp;rcases List.mem_or_eq_of_mem_set hp with hp | rfl
   .exact(h.rr p hp).le le
   .exact x2.le le
  .exact h.rr.le le
 .show A.vals++ [nV A o]=(a.vals++ [nV a o]).map (bS s');rw [List.map_append,h.vals,yh ag h.rv,P.eq];rfl
 .show RPs _ (a.vals++ [nV a o]);intro p hp;rw [List.mem_append,List.mem_singleton]at hp;rcases hp with hp | rfl
  .exact(h.rv p hp).le le
  .exact P.rp
 .show(if o.kind=4 then A.ld+1 else A.ld)=if o.kind=4 then a.ld+1 else a.ld;rw [h.ld]
 .show(if o.kind=6 then A.inn+1 else A.inn)=if o.kind=6 then a.inn+1 else a.inn;rw [h.inn]
 .show nE A o=(nE a o).map (ME s');unfold nE;have e0:A.evs=a.evs.map (ME s'):=by rw [h.evs,MF ag h.re]
  split
  .rw [List.map_append,e0,x1',y1',r1']
   congr 1
   show [_]=[ME s' _];unfold ME;dsimp only;split<;>rfl
  .exact e0
 .show RPE _ (nE a o);unfold nE;split
  .intro e he;rw [List.mem_append,List.mem_singleton]at he;rcases he with he | rfl
   .exact h.re.le le e he
   .refine⟨x2.le le,y2.le le,?_⟩;dsimp only;split
    .exact h.rr.le le
    .exact λp hp=>absurd hp (by simp)
  .exact h.re.le le
def YC{α:Type}{a b c:List α}(h:a<+:b)(g:b<+:c)(e:c=a):b=a:=by
 subst e;exact g.eq_of_length (Nat.le_antisymm (tC g) (tC h))
def LS.run{n N:Int}:∀(ops:List IOp) (i:Nat) (s t:Int->Int) (a A:SS),LS s t a A->SI n i a->SI N i A->(∀o∈ops,o.kind=3->1<=o.k/\o.k<=5)->n+i+ops.length<=200->N+i+ops.length<=200->i+ops.length<=200->(ops.foldl stp A).t=A.t->
  ∃s' t':Int->Int,LS s' t' (ops.foldl stp a) (ops.foldl stp A)/\∀j:Int,0<=j->j<a.t.length->s' j=s j
 | [],_,s,t,_,_,h,_,_,_,_,_,_,_=>⟨s,t,h,λ_ _ _=>rfl⟩
 | o::r,i,s,t,a,A,h,si,SI,hk,h1,h2,h3,hc=>by
  rw [List.length_cons]at h1 h2 h3;have ko:=hk o List.mem_cons_self;obtain⟨a1,a2⟩:=E5 si ko ah ah;obtain⟨A1,A2⟩:=E5 SI ko ah ah;have kr:∀o∈r,o.kind=3->1<=o.k/\o.k<=5:=λo ho=>hk o (List.mem_cons_of_mem _ ho)
  rw [List.foldl_cons]at hc;obtain⟨_,B2⟩:=E8 r (i+1) (stp A o) A1 kr ah ah;have e1:(stp A o).t=A.t:=YC A2.pre B2 hc;obtain⟨s1,t1,g1,g2⟩:=h.step SI.tok si ah ah ko A2 e1;obtain⟨s2,t2,g3,g4⟩:=LS.run r (i+1) s1 t1 _ _ g1 a1 A1 kr ah ah ah (by rw [hc,e1]);rw [List.foldl_cons,List.foldl_cons];exact⟨s2,t2,g3,λj j0 j1=>by rw [g4 j j0 (by have:=tC a2.pre;omega),g2 j j0 j1]⟩
structure YOK(n:Int)(y:Sym):Prop where
 e:RPE n y.events
 r:RPs n y.regs
 x:RP n y.x
 y:RP n y.y
def YOK.le{n m:Int}{y:Sym}(h:YOK n y)(hn:n<=m):YOK m y:=⟨h.e.le hn,h.r.le hn,h.x.le hn,h.y.le hn⟩
def TR.nil(T:List Atom):TR id id [] T:=by
 refine⟨⟨λk h1 h2=> ?_,λk h1 h2=> ?_⟩,Ib,λk h1 h2=> ?_,λk h1 h2=> ?_⟩<;>exact absurd h2 (by simp;omega)
def YD(b:Blk):chk b b=bp (kR b):=by
 by_cases h:kR b
 .rw [dO h];exact(Lk.refl h).chk
 .rw [iN h];unfold chk;exact iN λg=>h g.1
def MG(l:List Ev)(k:Int):Int:=((l.filter λe=>decide (e.kind=k)).length:Int)
def Ie(l:List Ev)(e:Ev)(k:Int):MG (l++ [e]) k=if e.kind=k then MG l k+1 else MG l k:=by
 unfold MG;rw [List.filter_append,List.length_append];by_cases c:e.kind=k
 .rw [if_pos c,List.filter_cons_of_pos (by simpa using c)];simp
 .rw [if_neg c,List.filter_cons_of_neg (by simpa using c)];simp
structure Cn(s:SS):Prop where
 ld:s.ld=MG s.evs 4
 inn:s.inn=MG s.evs 6
def Cn.stp{s:SS}(h:Cn s)(o:IOp):Cn (stp s o):=by
 constructor
 .show(if o.kind=4 then s.ld+1 else s.ld)=MG (nE s o) 4;unfold nE;by_cases c:evO o
  .rw [if_pos c,Ie,h.ld]
  .rw [if_neg c,if_neg (λe=>c (by unfold evO;omega)),h.ld]
 .show(if o.kind=6 then s.inn+1 else s.inn)=MG (nE s o) 6;unfold nE;by_cases c:evO o
  .rw [if_pos c,Ie,h.inn]
  .rw [if_neg c,if_neg (λe=>c (by unfold evO;omega)),h.inn]
def Cn.run:∀(l:List IOp) (s:SS),Cn s->Cn (l.foldl Go.TX.F.stp s)
 | [],_,h=>h
 | o::r,s,h=>Cn.run r _ (h.stp o)
structure Pt2(t:List Atom)(b:Blk)(i:Nat)(tb:List Atom)(V:List (List aA))(ev:List Ev)(rg:List (List aA)):Prop where
 tb:tb=(SW t b i).t
 V:V=(SW t b i).vals
 ev:ev=(SW t b i).evs
 rg:rg=(SW t b i).regs
def Pt2.next{t:List Atom}{b:Blk}{i:Nat}{tb:List Atom}{V:List (List aA)}{ev:List Ev}{rg:List (List aA)}(h:Pt2 t b i tb V ev rg)(hi:i<b.ops.length){o:IOp}(ho:b.ops.getD i default=o)
  {v:List aA} {tb':List Atom} {ev':List Ev} {rg':List (List aA)} (h3:tb'=nT (SW t b i) o) (h4:v=nV (SW t b i) o) (h5:ev'=nE (SW t b i) o) (h6:rg'=nR (SW t b i) o):Pt2 t b (i+1) tb' (V++ [v]) ev' rg':=by
 have e:=R8 (t:=t) hi;rw [ho]at e;refine⟨?_,?_,?_,?_⟩<;>rw [e]
 .exact h3
 .rw [h.V,h4];rfl
 .exact h5
 .exact h6
def YE(l:List Cer)(q:Cer):List Cer:=(l++ [q]).drop (l.length+1-3)
def opB(o:IOp):List Int:=[o.kind%256,o.x%256,o.y%256,o.k/256%256,o.k%256,o.at_%256]
def ajM(b:Blk):List Int:=[b.pc%256,b.len%256,b.fin%256,b.x%256,b.y%256,b.k/256%256,b.k%256]++b.ops.flatMap opB
noncomputable def irB (b:Blk):List Int:=if bp (kR b)=true then ajM b else []
def rdO(l:List Int)(p:Nat):IOp:=⟨l.getD p default,l.getD (p+1) default,l.getD (p+2) default,l.getD (p+3) default*256+l.getD (p+4) default,l.getD (p+5) default⟩
def afu(l:List Int)(n:Nat):List IOp:=(List.range n).map λi=>rdO l (7+6*i)
def rdB(l:List Int):Blk:=⟨l.getD 0 default,l.getD 1 default,afu l ((l.length-7)/6),l.getD 2 default,l.getD 3 default,l.getD 4 default,l.getD 5 default*256+l.getD 6 default⟩
def ajN(l:List Int):Prop:=(7<=l.length/\(l.length-7)%6=0/\l.length<=295)/\irB (rdB l)=l
def szL(n m:Int):Int:=if m-n<0 then-1 else m-n
def afv{n:Nat}{m:Int}(h1:m<=1048576):(szL n m<0->szL n m= -1)/\(0<=szL n m->(n:Int)<=1048576/\szL n m<=1048576):=by
 unfold szL;split<;>exact⟨λ_=>by omega,λ_=>by omega⟩
def Wo(n:Int):Prop:=0<=n/\n<=65535
def Wos(l:List Int):Prop:=∀n∈l,Wo n
structure MOK(m:dG):Prop where
 r4:m.regs.length=4
 rw:Wos m.regs
 m64:m.mem.length=64
 mw:Wos m.mem
 pc:Wo m.pc
 sv:Wo m.save
 iw:Wos m.ins
 ow:Wos m.outs
 ha:0<=m.halt/\m.halt<=4
 ct:0<=m.count/\m.count<=1000000
def afw(r a b:Int):Bool:=inB a 0 65535&&inB b 0 65535&&decide (r=1/\a=b\/r=2/\a<b)
structure MS where
 m:dG
 vals:List Int
 left:Bool
def vx(s:MS)(o:IOp):Int:=if hX o then((s.vals).getD (o.x).toNat default)else 0
def vy(s:MS)(o:IOp):Int:=if hY o then((s.vals).getD (o.y).toNat default)else 0
def mV(s:MS)(o:IOp):Int:=if o.kind=1 then o.k else if o.kind=2 then((s.m.regs).getD (o.k).toNat default)else if o.kind=3 then wdo o.k (vx s o) (vy s o)else if o.kind=4 then((s.m.mem).getD (vx s o).toNat default)else if o.kind=6 then s.m.ins.getD 0 default else 0
def mM(s:MS)(o:IOp):dG:=if o.kind=5 then {s.m with mem:=s.m.mem.set (vx s o).toNat (vy s o)}else if o.kind=6 then {s.m with ins:=s.m.ins.drop 1}else if o.kind=7 then {s.m with outs:=s.m.outs++ [vx s o]}else if o.kind=8 then {s.m with regs:=s.m.regs.set o.k.toNat (vx s o)}else s.m
def leave(m:dG)(n:Int)(h:Int):dG:={m with halt:=h,pc:=m.pc+n,count:=m.count+n}
def jV(b:Blk)(s:MS)(o:IOp):MS:=
 if s.left=true then s
 else if(o.kind=4\/o.kind=5)/\64<=vx s o then⟨leave s.m o.at_ 3,s.vals,true⟩
 else if o.kind=5/\b.pc+o.at_+1<=vx s o/\vx s o<=b.pc+b.len-1 then⟨leave (mM s o) (o.at_+1) (mM s o).halt,s.vals,true⟩
 else⟨mM s o,s.vals++ [mV s o],false⟩
def Qm(b:Blk)(s:MS):dG:=if s.left=true then s.m else {s.m with count:=s.m.count+b.len,pc:=if b.fin=1 then b.k else if b.fin=2 then((s.vals).getD (b.x).toNat default)else if afw (b.fin-2) ((s.vals).getD (b.x).toNat default) ((s.vals).getD (b.y).toNat default)=true then b.k else b.pc+b.len}
def abv:dG:=⟨[],0,[],0,false,false,0,[],[],0⟩
noncomputable def Cg (b:Blk) (m:dG):dG×Bool:=if bp (kR b/\MOK m)=true then(if m.halt≠0\/m.pc≠b.pc\/1000000-b.len<m.count then(m,false)else(Qm b (b.ops.foldl (jV b) ⟨m,[],false⟩),true))else(abv,false)
def mZ(i:Ins):Prop:=(0<=i.op/\i.op<=15)/\(0<=i.d/\i.d<=3)/\(0<=i.a/\i.a<=3)/\0<=i.k/\
 (i.op=0->i.d=0/\i.a=0/\i.k<=3)/\(i.op=1->i.a=0/\i.k<=255)/\(i.op=2->i.k=0)/\(3<=i.op/\i.op<=7->i.k<=3)/\(i.op=8->i.k<=15)/\(9<=i.op/\i.op<=12->i.k<=255)/\(i.op=13->i.d=0/\i.k=0)/\(14<=i.op->i.a=0/\i.k=0)
def JZ(i:Ins):Int:=i.op*4096+i.d*1024+i.a*256+i.k
def rX(w:Int):Ins:=⟨w/4096,w/1024%4,w/256%4,w%256⟩
structure Fp(pc:Int)(l:List Ins):Prop where
 ln:1<=l.length/\l.length<=8
 pc:0<=pc/\pc<=64-l.length
 ok:∀i:Nat,i<l.length->mZ (l.getD i default)/\(l.getD i default).op≠0/\(11<=(l.getD i default).op/\(l.getD i default).op<=13->i+1=l.length)
def jw(n b:Int)(i:Ins):List IOp:=
 if i.op=1 then [⟨1,0,0,i.k,0⟩,⟨8,b,0,i.d,0⟩]
 else if i.op=2 then [⟨2,0,0,i.a,0⟩,⟨8,b,0,i.d,0⟩]
 else if i.op=8 then [⟨2,0,0,i.a,0⟩,⟨1,0,0,2^i.k.toNat,0⟩,⟨3,b,b+1,3,0⟩,⟨8,b+2,0,i.d,0⟩]
 else if i.op=9 then [⟨2,0,0,i.a,0⟩,⟨1,0,0,i.k,0⟩,⟨3,b,b+1,1,0⟩,⟨4,b+2,0,0,n⟩,⟨8,b+3,0,i.d,0⟩]
 else if i.op=10 then [⟨2,0,0,i.a,0⟩,⟨1,0,0,i.k,0⟩,⟨3,b,b+1,1,0⟩,⟨2,0,0,i.d,0⟩,⟨5,b+2,b+3,0,n⟩]
 else if i.op=14 then [⟨2,0,0,i.d,0⟩,⟨7,b,0,0,n⟩]
 else if i.op=15 then [⟨6,0,0,0,n⟩,⟨8,b,0,i.d,0⟩]
 else if i.op=11\/i.op=12 then [⟨2,0,0,i.d,0⟩,⟨2,0,0,i.a,0⟩]
 else if i.op=13 then [⟨2,0,0,i.a,0⟩]
 else [⟨2,0,0,i.a,0⟩,⟨2,0,0,i.k,0⟩,⟨3,b,b+1,i.op-2,0⟩,⟨8,b+2,0,i.d,0⟩]
def nM(n:Int)(b:Blk)(i:Ins):Blk:=
 if i.op=11\/i.op=12 then {b with ops:=b.ops++jw n b.ops.length i,fin:=i.op-8,x:=b.ops.length,y:=b.ops.length+1,k:=i.k}
 else if i.op=13 then {b with ops:=b.ops++jw n b.ops.length i,fin:=2,x:=b.ops.length,k:=0}
 else {b with ops:=b.ops++jw n b.ops.length i}
def qX:Int->Blk->List Ins->Blk
 | _,b,[]=>b
 | n,b,i::r=>qX (n+1) (nM n b i) r
def Fq(pc:Int)(l:List Ins):Blk:=⟨pc,l.length,[],1,0,0,pc+l.length⟩
noncomputable def lower (pc:Int) (l:List Ins):Blk:=if bp (Fp pc l)=true then qX 0 (Fq pc l) l else Uf
def adr(m:dG)(i:Ins):Int:=(((m.regs).getD (i.a).toNat default)+i.k)%65536
def eff(m:dG)(i:Ins):dG:=
 if i.op=1 then {m with regs:=m.regs.set i.d.toNat i.k}
 else if i.op=2 then {m with regs:=m.regs.set i.d.toNat ((m.regs).getD (i.a).toNat default)}
 else if i.op=8 then {m with regs:=m.regs.set i.d.toNat (((m.regs).getD (i.a).toNat default)*2^i.k.toNat%65536)}
 else if i.op=9 then {m with regs:=m.regs.set i.d.toNat ((m.mem).getD (adr m i).toNat default)}
 else if i.op=10 then {m with mem:=m.mem.set (adr m i).toNat ((m.regs).getD (i.d).toNat default)}
 else if i.op=14 then {m with outs:=m.outs++ [((m.regs).getD (i.d).toNat default)]}
 else if i.op=15 then {m with regs:=m.regs.set i.d.toNat (m.ins.getD 0 default),ins:=m.ins.drop 1}
 else if i.op=0 then(if i.k=0 then {m with halt:=1}else if i.k=1 then {m with wL:=true}else {m with wL:=decide (i.k=2)})
 else if 11<=i.op then m
 else {m with regs:=m.regs.set i.d.toNat (wdo (i.op-2) ((m.regs).getD (i.a).toNat default) ((m.regs).getD (i.k).toNat default))}
def nxt(m:dG)(i:Ins):Int:=
 if i.op=0/\i.k=1 then m.save
 else if(i.op=11\/i.op=12)/\afw (i.op-10) ((m.regs).getD (i.d).toNat default) ((m.regs).getD (i.a).toNat default)=true then i.k
 else if i.op=13 then((m.regs).getD (i.a).toNat default)
 else(m.pc+1)%65536
def exec(m:dG)(i:Ins):dG:=if(i.op=9\/i.op=10)/\64<=adr m i then {m with halt:=3}else {eff m i with pc:=nxt m i,count:=m.count+1}
noncomputable def stepM (m:dG) (irq:Bool):dG:=
 let w:=m.waits || irq
 let m1:dG:=if w=true/\m.wL=true then {m with waits:=false,wL:=false,save:=m.pc,pc:=48}else {m with waits:=w}
 if 64<=m1.pc then {m1 with halt:=4}
 else if bp (mZ (rX ((m1.mem).getD (m1.pc).toNat default)))=false then {m1 with halt:=2}
 else exec m1 (rX ((m1.mem).getD (m1.pc).toNat default))
theorem Wos.at{l:List Int}(h:Wos l)(i:Int):Wo ((l).getD (i).toNat default):=by
 by_cases c:i.toNat<l.length
 .rw [getD_lt c];exact h _ (List.getElem_mem _)
 .rw [List.getD_eq_getElem?_getD,List.getElem?_eq_none ah];exact⟨by decide,by decide⟩
theorem afx{k:Int}(h0:0<=k)(h1:k<=15):Wo (2^k.toNat):=by
 obtain⟨j,rfl⟩:∃j:Nat,k=j:=⟨k.toNat,ah⟩;have:j<=15:=by omega
 rw [show((j:Int)).toNat=j from rfl];have h:(2:Nat)^j<=2^15:=Nat.pow_le_pow_right (by decide) this;have e:((2:Int)^j)=((2^j:Nat):Int):=by simp
 rw [e];have h15:(2:Nat)^15=32768:=by decide
 rw [h15]at h;generalize (2:Nat)^j=z at h;exact⟨ah,ah⟩
section
variable (B:Blk) (m:dG) (v:List Int)
theorem st2(k:Int):jV B ⟨m,v,false⟩ ⟨2,0,0,k,0⟩=⟨m,v++ [((m.regs).getD (k).toNat default)],false⟩:=by simp [jV,mM,mV]
end
end Go.TX.F
namespace Go.TX.F
open Go Go.AE Go.TX
def MSh(m:dG):Prop:=m.regs.length<1000000000/\m.mem.length<1000000000/\m.ins.length<1000000000/\m.outs.length<1000000000
def Wos.set{l:List Int}(h:Wos l){n:Int}(w:Wo n)(i:Nat):Wos (l.set i n):=λx hx=>(List.mem_or_eq_of_mem_set hx).elim (h x) (λe=>e▸w)
def Wos.drop{l:List Int}(h:Wos l)(i:Nat):Wos (l.drop i):=λx hx=>h x (List.mem_of_mem_drop hx)
def Wos.snoc{l:List Int}(h:Wos l){n:Int}(w:Wo n):Wos (l++ [n]):=λx hx=>by
 rw [List.mem_append,List.mem_singleton]at hx;exact hx.elim (h x) (λe=>e▸w)
def wo0:Wo 0:=⟨by decide,by decide⟩
def acH{s:MS}(h:Wos s.vals)(o:IOp):Wo (vx s o):=by
 unfold vx;split
 .exact h.at _
 .exact wo0
def ah4{s:MS}(h:Wos s.vals)(o:IOp):Wo (vy s o):=by
 unfold vy;split
 .exact h.at _
 .exact wo0
def Wos.hd{l:List Int}(h:Wos l):Wo (l.getD 0 default):=h.at 0
def acI{s:MS}{o:IOp}(h:Wos s.vals)(k:MOK s.m)(k1:o.kind=1->0<=o.k/\o.k<=65535):Wo (mV s o):=by
 unfold mV;split
 .exact k1 ‹_›
 split
 .exact k.rw.at _
 split
 .exact RN _ _ _
 split
 .exact k.mw.at _
 split
 .exact k.iw.hd
 .exact wo0
def acJ{s:MS}(h:Wos s.vals)(k:MOK s.m)(o:IOp):MOK (mM s o):=by
 unfold mM;split
 .exact {k with m64:=by rw [List.length_set];exact k.m64,mw:=k.mw.set (ah4 h o) _}
 split
 .exact {k with iw:=k.iw.drop 1}
 split
 .exact {k with ow:=k.ow.snoc (acH h o)}
 split
 .exact {k with r4:=by rw [List.length_set];exact k.r4,rw:=k.rw.set (acH h o) _}
 .exact k
def YF(s:MS)(o:IOp):(mM s o).ins.length<=s.m.ins.length/\(mM s o).outs.length<=s.m.outs.length+1/\(mM s o).regs.length=s.m.regs.length/\(mM s o).mem.length=s.m.mem.length:=by
 unfold mM;split
 .exact⟨Nat.le_refl _,Nat.le_succ _,rfl,List.length_set⟩
 split
 .exact⟨by rw [List.length_drop];omega,Nat.le_succ _,rfl,rfl⟩
 split
 .exact⟨Nat.le_refl _,by rw [List.length_append];exact Nat.le_refl _,rfl,rfl⟩
 split
 .exact⟨Nat.le_refl _,Nat.le_succ _,List.length_set,rfl⟩
 .exact⟨Nat.le_refl _,Nat.le_succ _,rfl,rfl⟩
def ah5(b:Blk)(s:MS)(o:IOp):(jV b s o).m.ins.length<=s.m.ins.length/\(jV b s o).m.outs.length<=s.m.outs.length+1/\(jV b s o).m.regs.length=s.m.regs.length/\(jV b s o).m.mem.length=s.m.mem.length:=by
 unfold jV;split
 .exact⟨Nat.le_refl _,Nat.le_succ _,rfl,rfl⟩
 split
 .exact⟨Nat.le_refl _,Nat.le_succ _,rfl,rfl⟩
 split
 .exact YF s o
 .exact YF s o
def J2(b:Blk):∀(l:List IOp) (s:MS),(l.foldl (jV b) s).m.ins.length<=s.m.ins.length/\(l.foldl (jV b) s).m.outs.length<=s.m.outs.length+l.length/\(l.foldl (jV b) s).m.regs.length=s.m.regs.length/\(l.foldl (jV b) s).m.mem.length=s.m.mem.length
 | [],s=>⟨Nat.le_refl _,Nat.le_refl _,rfl,rfl⟩
 | o::l,s=>by
  rw [List.foldl_cons];have h:=J2 b l (jV b s o);have k:=ah5 b s o;simp only [List.length_cons];exact⟨ah,ah,ah,ah⟩
theorem abw{b:Blk}{m:dG}(hb:kR b)(hs:MSh m)(ho:m.outs.length<900000000):MSh (Qm b (b.ops.foldl (jV b) ⟨m,[],false⟩)):=by
 have h:=J2 b b.ops ⟨m,[],false⟩;have sz:=hb.sz;obtain⟨s1,s2,s3,s4⟩:=hs;dsimp only at h;unfold Qm;split<;>refine⟨?_,?_,?_,?_⟩<;>(try dsimp only)<;>omega
def SM(b:Blk)(m0:dG)(i:Nat):MS:=(b.ops.take i).foldl (jV b) ⟨m0,[],false⟩
structure RJ(b:Blk)(m0:dG)(i:Nat)(S:MS):Prop where
 e:S=SM b m0 i
 lf:S.left=false
 ln:S.vals.length=i
 wv:Wos S.vals
 ok:MOK S.m
 li:S.m.ins.length<1000000000
 lo:S.m.outs.length<=m0.outs.length+i
def abx{b:Blk}{m0:dG}{i:Nat}(hi:i<b.ops.length):SM b m0 (i+1)=jV b (SM b m0 i) (b.ops.getD i default):=by
 unfold SM;rw [List.take_succ_eq_append_getElem hi,List.foldl_append,getD_lt hi];rfl
def RJ.next{b:Blk}{m0:dG}{i:Nat}{S:MS}{o:IOp}(h:RJ b m0 i S)(hi:i<b.ops.length)(ho:b.ops.getD i default=o)(k1:o.kind=1->0<=o.k/\o.k<=65535)
  (c1:¬((o.kind=4\/o.kind=5)/\64<=vx S o)) (c2:¬(o.kind=5/\b.pc+o.at_+1<=vx S o/\vx S o<=b.pc+b.len-1)):RJ b m0 (i+1) ⟨mM S o,S.vals++ [mV S o],false⟩:=by
 have l:=YF S o;refine⟨?_,rfl,by rw [List.length_append,h.ln];rfl,h.wv.snoc (acI h.wv h.ok k1),acJ h.wv h.ok o,by have:=h.li;dsimp only;omega,by have:=h.lo;dsimp only;omega⟩;rw [abx hi,<-h.e,ho];unfold jV;rw [if_neg (by rw [h.lf];decide),if_neg c1,if_neg c2]
def RT(b:Blk)(m0:dG)(y:List IOp×Int×Int×Int×Int×Bool×Bool×Int×List Int×Int×List Int×List Int×Blk×List Int×List Int×Unit):Prop:=
 ∃(i:Nat) (S:MS),i<=b.ops.length/\RJ b m0 i S/\y=(b.ops,(b.ops.length:Int),(i:Int),S.m.pc,S.m.save,S.m.wL,S.m.waits,S.m.halt,S.m.ins,S.m.count,S.m.regs,S.m.mem,b,S.vals++List.replicate (b.ops.length-i) 0,S.m.outs,())
def RT.next{b:Blk}{m0:dG}{i:Nat}{S:MS}{o:IOp}{y:List IOp×Int×Int×Int×Int×Bool×Bool×Int×List Int×Int×List Int×List Int×Blk×List Int×List Int×Unit}(h:RJ b m0 i S)(hi:i<b.ops.length)(ho:b.ops.getD i default=o)(k1:o.kind=1->0<=o.k/\o.k<=65535)
  (c1:¬((o.kind=4\/o.kind=5)/\64<=vx S o)) (c2:¬(o.kind=5/\b.pc+o.at_+1<=vx S o/\vx S o<=b.pc+b.len-1))
  (e:y=(b.ops,(b.ops.length:Int),(i:Int)+1,(mM S o).pc,(mM S o).save,(mM S o).wL,(mM S o).waits,(mM S o).halt,(mM S o).ins,(mM S o).count,(mM S o).regs,(mM S o).mem,b,(S.vals++ [mV S o])++List.replicate (b.ops.length- (i+1)) 0,(mM S o).outs,())):
  RT b m0 y/\(b.ops.length-y.2.2.1).toNat< (b.ops.length- (i:Int)).toNat:=by
 subst e;exact⟨⟨i+1,_,hi,h.next hi ho k1 c1 c2,rfl⟩,by dsimp only;omega⟩
def YG(n b:Int)(i:Ins):(jw n b i).length<=5:=by
 unfold jw;repeat' split
 all_goals simp only [List.length_cons,List.length_nil]
 all_goals omega
def YH(n:Int)(b:Blk)(i:Ins):(nM n b i).ops.length<=b.ops.length+5:=by
 have:=YG n b.ops.length i;unfold nM;repeat' split
 all_goals (dsimp only;rw [List.length_append];omega)
def Ig:∀(l:List Ins) (n:Int) (b:Blk) (i:Ins),qX n b (l++ [i])=nM (n+l.length) (qX n b l) i
 | [],n,b,i=>by simp [qX]
 | j::l,n,b,i=>by
  show qX (n+1) (nM n b j) (l++ [i])=nM _ (qX (n+1) (nM n b j) l) i;rw [Ig l (n+1) (nM n b j) i,List.length_cons,show n+1+(l.length:Int)=n+((l.length+1:Nat):Int) by omega]
def MH:∀(l:List Ins) (n:Int) (b:Blk),(qX n b l).ops.length<=b.ops.length+5*l.length
 | [],_,_=>Nat.le_refl _
 | i::l,n,b=>by
  show(qX (n+1) (nM n b i) l).ops.length<=_;have:=MH l (n+1) (nM n b i);have:=YH n b i;rw [List.length_cons];omega
def OKS(ops:List IOp)(len:Int):Prop:=∀j:Int,0<=j->j<ops.length->zH ops len j ((ops).getD (j).toNat default)
theorem ah6{ops w:List IOp}{x:Int}(h0:0<=x)(h:x<ops.length):((ops++w).getD (x).toNat default)=((ops).getD (x).toNat default):=by
 rw [List.getD_eq_getElem?_getD,List.getElem?_append_left ah,<-List.getD_eq_getElem?_getD]
theorem ah7{ops w:List IOp}{t:Nat}:((ops++w).getD ((ops.length:Int)+t).toNat default)=w.getD t default:=by
 rw [List.getD_eq_getElem?_getD,List.getElem?_append_right ah,<-List.getD_eq_getElem?_getD,show((ops.length:Int)+t).toNat-ops.length=t by omega]
theorem Vl.mono{ops w:List IOp}{x n n':Int}(h:Vl ops x n)(h1:n<=ops.length)(h2:n<=n'):Vl (ops++w) x n':=by
 obtain⟨a,b,c⟩:=h;exact⟨a,ah,by rw [ah6 a ah];exact c⟩
theorem zH.mono{ops w:List IOp}{len i:Int}{o:IOp}(h:zH ops len i o)(h1:i<=ops.length):zH (ops++w) len i o:=
 {h with x1:=λg=>(h.x1 g).mono h1 (Int.le_refl _),y1:=λg=>(h.y1 g).mono h1 (Int.le_refl _)}
theorem OKS.app{ops w:List IOp}{len:Int}(h:OKS ops len)(hw:∀t:Nat,t<w.length->zH (ops++w) len ((ops.length:Int)+t) (w.getD t default)):OKS (ops++w) len:=λj j0 j1=>by
 rw [List.length_append]at j1;by_cases c:j<ops.length
 .rw [ah6 j0 c];exact(h j j0 c).mono ah
 .obtain⟨t,rfl⟩:∃t:Nat,j=(ops.length:Int)+t:=⟨(j-ops.length).toNat,ah⟩;rw [ah7];exact hw t ah
theorem Sd(ops w:List IOp)(s t:Nat)(h:s<t)(m:mkV (w.getD s default)):Vl (ops++w) ((ops.length:Int)+s) ((ops.length:Int)+t):=⟨ah,ah,by rw [ah7];exact m⟩
section
variable {ops:List IOp} {len i x y k n:Int}
theorem ok1(h:0<=k/\k<=65535):zH ops len i ⟨1,0,0,k,0⟩:=by constructor<;>simp [hX,hY,evO]<;>omega
theorem ok2(h:0<=k/\k<=3):zH ops len i ⟨2,0,0,k,0⟩:=by constructor<;>simp [hX,hY,evO]<;>omega
theorem ok3(h:1<=k/\k<=5)(hx:Vl ops x i)(hy:Vl ops y i):zH ops len i ⟨3,x,y,k,0⟩:=by constructor<;>simp [hX,hY,evO,hx,hy]<;>omega
theorem ok4(h:0<=n/\n<len)(hx:Vl ops x i):zH ops len i ⟨4,x,0,0,n⟩:=by constructor<;>simp [hX,hY,evO,hx]<;>omega
theorem ok5(h:0<=n/\n<len)(hx:Vl ops x i)(hy:Vl ops y i):zH ops len i ⟨5,x,y,0,n⟩:=by constructor<;>simp [hX,hY,evO,hx,hy]<;>omega
theorem ok6(h:0<=n/\n<len):zH ops len i ⟨6,0,0,0,n⟩:=by constructor<;>simp [hX,hY,evO]<;>omega
theorem ok7(h:0<=n/\n<len)(hx:Vl ops x i):zH ops len i ⟨7,x,0,0,n⟩:=by constructor<;>simp [hX,hY,evO,hx]<;>omega
theorem ok8(h:0<=k/\k<=3)(hx:Vl ops x i):zH ops len i ⟨8,x,0,k,0⟩:=by constructor<;>simp [hX,hY,evO,hx]<;>omega
end
theorem Sg{ops:List IOp}{len n:Int}{i:Ins}(h:OKS ops len)(hi:mZ i)(h0:i.op≠0)(hn:0<=n/\n<len):OKS (ops++jw n ops.length i) len/\
  (i.op=11\/i.op=12->Vl (ops++jw n ops.length i) ops.length ((ops++jw n ops.length i).length)/\Vl (ops++jw n ops.length i) (ops.length+1) ((ops++jw n ops.length i).length))/\
  (i.op=13->Vl (ops++jw n ops.length i) ops.length ((ops++jw n ops.length i).length)):=by
 obtain⟨⟨o0,o1⟩,⟨d0,d1⟩,⟨a0,a1⟩,k0,_,r1,r2,r3,r8,r9,r13,r14⟩:=hi;have v0:=λ(w:List IOp) (t:Nat) (h:0<t) (m:mkV (w.getD 0 default))=>show Vl (ops++w) (ops.length:Int) ((ops.length:Int)+t)from by have:=Sd ops w 0 t h m;rwa [Int.natCast_zero,Int.add_zero]at this
 have v1:=λ(w:List IOp) (t:Nat) (h:1<t) (m:mkV (w.getD 1 default))=>Sd ops w 1 t h m
 have v2:=λ(w:List IOp) (t:Nat) (h:2<t) (m:mkV (w.getD 2 default))=>Sd ops w 2 t h m
 have v3:=λ(w:List IOp) (t:Nat) (h:3<t) (m:mkV (w.getD 3 default))=>Sd ops w 3 t h m
 have m1:∀a b c d:Int,mkV ⟨1,a,b,c,d⟩:=λ_ _ _ _=>by unfold mkV;dsimp only;omega
 have m2:∀a b c d:Int,mkV ⟨2,a,b,c,d⟩:=λ_ _ _ _=>by unfold mkV;dsimp only;omega
 have m3:∀a b c d:Int,mkV ⟨3,a,b,c,d⟩:=λ_ _ _ _=>by unfold mkV;dsimp only;omega
 have m4:∀a b c d:Int,mkV ⟨4,a,b,c,d⟩:=λ_ _ _ _=>by unfold mkV;dsimp only;omega
 have m6:∀a b c d:Int,mkV ⟨6,a,b,c,d⟩:=λ_ _ _ _=>Or.inr rfl
 rcases(by omega:i.op=1\/i.op=2\/(3<=i.op/\i.op<=7)\/i.op=8\/i.op=9\/i.op=10\/(i.op=11\/i.op=12)\/i.op=13\/i.op=14\/i.op=15)with c | c | c | c | c | c | c | c | c | c
 .have e:jw n ops.length i=[⟨1,0,0,i.k,0⟩,⟨8,ops.length,0,i.d,0⟩]:=by unfold jw;rw [if_pos c]
  rw [e];refine⟨h.app λt ht=> ?_,λg=>by omega,λg=>by omega⟩;rcases t with _ | _ | t
  .exact ok1 (by have:=r1 c;omega)
  .exact ok8 ⟨d0,d1⟩ (v0 _ 1 (by decide) (m1 _ _ _ _))
  .simp only [List.length_cons,List.length_nil]at ht;omega
 .have e:jw n ops.length i=[⟨2,0,0,i.a,0⟩,⟨8,ops.length,0,i.d,0⟩]:=by unfold jw;rw [if_neg ah,if_pos c]
  rw [e];refine⟨h.app λt ht=> ?_,λg=>by omega,λg=>by omega⟩;rcases t with _ | _ | t
  .exact ok2 ⟨a0,a1⟩
  .exact ok8 ⟨d0,d1⟩ (v0 _ 1 (by decide) (m2 _ _ _ _))
  .simp only [List.length_cons,List.length_nil]at ht;omega
 .have e:jw n ops.length i=[⟨2,0,0,i.a,0⟩,⟨2,0,0,i.k,0⟩,⟨3,ops.length,ops.length+1,i.op-2,0⟩,⟨8,ops.length+2,0,i.d,0⟩]:=by
   unfold jw
   iterate 9 rw [if_neg ah]
  rw [e];refine⟨h.app λt ht=> ?_,λg=>by omega,λg=>by omega⟩;rcases t with _ | _ | _ | _ | t
  .exact ok2 ⟨a0,a1⟩
  .exact ok2 ⟨k0,r3 c⟩
  .exact ok3 ah (v0 _ 2 (by decide) (m2 _ _ _ _)) (v1 _ 2 (by decide) (m2 _ _ _ _))
  .exact ok8 ⟨d0,d1⟩ (v2 _ 3 (by decide) (m3 _ _ _ _))
  .simp only [List.length_cons,List.length_nil]at ht;omega
 .have e:jw n ops.length i=[⟨2,0,0,i.a,0⟩,⟨1,0,0,2^i.k.toNat,0⟩,⟨3,ops.length,ops.length+1,3,0⟩,⟨8,ops.length+2,0,i.d,0⟩]:=by
   unfold jw;rw [if_neg ah,if_neg ah,if_pos c]
  rw [e];refine⟨h.app λt ht=> ?_,λg=>by omega,λg=>by omega⟩;rcases t with _ | _ | _ | _ | t
  .exact ok2 ⟨a0,a1⟩
  .exact ok1 (afx k0 (r8 c))
  .exact ok3 (by decide) (v0 _ 2 (by decide) (m2 _ _ _ _)) (v1 _ 2 (by decide) (m1 _ _ _ _))
  .exact ok8 ⟨d0,d1⟩ (v2 _ 3 (by decide) (m3 _ _ _ _))
  .simp only [List.length_cons,List.length_nil]at ht;omega
 .have e:jw n ops.length i=[⟨2,0,0,i.a,0⟩,⟨1,0,0,i.k,0⟩,⟨3,ops.length,ops.length+1,1,0⟩,⟨4,ops.length+2,0,0,n⟩,⟨8,ops.length+3,0,i.d,0⟩]:=by
   unfold jw;rw [if_neg ah,if_neg ah,if_neg ah,if_pos c]
  have r:=r9 ah;rw [e];refine⟨h.app λt ht=> ?_,λg=>by omega,λg=>by omega⟩;rcases t with _ | _ | _ | _ | _ | t
  .exact ok2 ⟨a0,a1⟩
  .exact ok1 ah
  .exact ok3 (by decide) (v0 _ 2 (by decide) (m2 _ _ _ _)) (v1 _ 2 (by decide) (m1 _ _ _ _))
  .exact ok4 hn (v2 _ 3 (by decide) (m3 _ _ _ _))
  .exact ok8 ⟨d0,d1⟩ (v3 _ 4 (by decide) (m4 _ _ _ _))
  .simp only [List.length_cons,List.length_nil]at ht;omega
 .have e:jw n ops.length i=[⟨2,0,0,i.a,0⟩,⟨1,0,0,i.k,0⟩,⟨3,ops.length,ops.length+1,1,0⟩,⟨2,0,0,i.d,0⟩,⟨5,ops.length+2,ops.length+3,0,n⟩]:=by
   unfold jw;rw [if_neg ah,if_neg ah,if_neg ah,if_neg ah,if_pos c]
  have r:=r9 ah;rw [e];refine⟨h.app λt ht=> ?_,λg=>by omega,λg=>by omega⟩;rcases t with _ | _ | _ | _ | _ | t
  .exact ok2 ⟨a0,a1⟩
  .exact ok1 ah
  .exact ok3 (by decide) (v0 _ 2 (by decide) (m2 _ _ _ _)) (v1 _ 2 (by decide) (m1 _ _ _ _))
  .exact ok2 ⟨d0,d1⟩
  .exact ok5 hn (v2 _ 4 (by decide) (m3 _ _ _ _)) (v3 _ 4 (by decide) (m2 _ _ _ _))
  .simp only [List.length_cons,List.length_nil]at ht;omega
 .have e:jw n ops.length i=[⟨2,0,0,i.d,0⟩,⟨2,0,0,i.a,0⟩]:=by
   unfold jw
   iterate 7 rw [if_neg ah]
   rw [if_pos c]
  have el:∀a b:IOp,(((ops++ [a,b]).length:Nat):Int)=(ops.length:Int)+((2:Nat):Int):=λa b=>by rw [List.length_append];rfl
  rw [e];refine⟨h.app λt ht=> ?_,λg=> ?_,λg=>by omega⟩
  .rcases t with _ | _ | t
   .exact ok2 ⟨d0,d1⟩
   .exact ok2 ⟨a0,a1⟩
   .simp only [List.length_cons,List.length_nil]at ht;omega
  .rw [el];exact⟨v0 _ 2 (by decide) (m2 _ _ _ _),v1 _ 2 (by decide) (m2 _ _ _ _)⟩
 .have e:jw n ops.length i=[⟨2,0,0,i.a,0⟩]:=by
   unfold jw
   iterate 8 rw [if_neg ah]
   rw [if_pos c]
  have el:∀a:IOp,(((ops++ [a]).length:Nat):Int)=(ops.length:Int)+((1:Nat):Int):=λa=>by rw [List.length_append];rfl
  rw [e];refine⟨h.app λt ht=> ?_,λg=>by omega,λg=> ?_⟩
  .rcases t with _ | t
   .exact ok2 ⟨a0,a1⟩
   .simp only [List.length_cons,List.length_nil]at ht;omega
  .rw [el];exact v0 _ 1 (by decide) (m2 _ _ _ _)
 .have e:jw n ops.length i=[⟨2,0,0,i.d,0⟩,⟨7,ops.length,0,0,n⟩]:=by
   unfold jw
   iterate 5 rw [if_neg ah]
   rw [if_pos c]
  rw [e];refine⟨h.app λt ht=> ?_,λg=>by omega,λg=>by omega⟩;rcases t with _ | _ | t
  .exact ok2 ⟨d0,d1⟩
  .exact ok7 hn (v0 _ 1 (by decide) (m2 _ _ _ _))
  .simp only [List.length_cons,List.length_nil]at ht;omega
 .have e:jw n ops.length i=[⟨6,0,0,0,n⟩,⟨8,ops.length,0,i.d,0⟩]:=by
   unfold jw
   iterate 6 rw [if_neg ah]
   rw [if_pos c]
  rw [e];refine⟨h.app λt ht=> ?_,λg=>by omega,λg=>by omega⟩;rcases t with _ | _ | t
  .exact ok6 hn
  .exact ok8 ⟨d0,d1⟩ (v0 _ 1 (by decide) (m6 _ _ _ _))
  .simp only [List.length_cons,List.length_nil]at ht;omega
end Go.TX.F
namespace Go.TX.F
open Go Go.AE Go.TX
def Mid(i:Ins):Prop:=mZ i/\i.op≠0/\¬(11<=i.op/\i.op<=13)
def YI{n:Int}{b:Blk}{i:Ins}(h:Mid i):nM n b i={b with ops:=b.ops++jw n b.ops.length i}:=by
 obtain⟨_,_,h3⟩:=h;unfold nM;rw [if_neg ah,if_neg ah]
def MI:∀(r:List Ins) (n:Int) (b:Blk),(∀i∈r,Mid i)->OKS b.ops b.len->0<=n->n+r.length<=b.len->OKS (qX n b r).ops b.len/\qX n b r={b with ops:=(qX n b r).ops}
 | [],n,b,_,h,_,_=>⟨h,rfl⟩
 | i::r,n,b,hr,h,h0,h1=>by
  have hi:=hr i (List.mem_cons_self ..);simp only [List.length_cons]at h1;have k:=Sg (n:=n) h hi.1 hi.2.1 ⟨h0,ah⟩;have e:=YI (n:=n) (b:=b) hi;show OKS (qX (n+1) (nM n b i) r).ops b.len/\qX (n+1) (nM n b i) r={b with ops:=(qX (n+1) (nM n b i) r).ops};have ih:=MI r (n+1) (nM n b i) (λj hj=>hr j (List.mem_cons_of_mem _ hj)) (by rw [e];exact k.1) ah (by rw [e];dsimp only;omega);rw [e]at ih ⊢;exact ih
def YJ(n:Int)(b:Blk)(i:Ins):(nM n b i).ops=b.ops++jw n b.ops.length i:=by
 unfold nM;split
 .rfl
 split<;>rfl
def Uk{pc:Int}{l:List Ins}(h:Fp pc l):∃r i,l=r++ [i]/\(∀j∈r,Mid j)/\mZ i/\i.op≠0:=by
 have ln:=h.ln;rcases List.eq_nil_or_concat l with e | ⟨r,i,e⟩
 .subst e;simp at ln
 rw [List.concat_eq_append]at e;subst e;refine⟨r,i,rfl,λj hj=> ?_,?_,?_⟩
 .obtain⟨t,ht,rfl⟩:=List.getElem_of_mem hj;have:=h.ok t (by rw [List.length_append];omega);rw [List.getD_eq_getElem?_getD,List.getElem?_append_left ht,List.getElem?_eq_getElem ht]at this;obtain⟨a,b,c⟩:=this;refine⟨a,b,λg=> ?_⟩;have:=c g;rw [List.length_append,List.length_singleton]at this;omega
 .have:=h.ok r.length (by rw [List.length_append,List.length_singleton];omega);rw [List.getD_eq_getElem?_getD,List.getElem?_append_right (Nat.le_refl _),Nat.sub_self]at this;exact this.1
 .have:=h.ok r.length (by rw [List.length_append,List.length_singleton];omega);rw [List.getD_eq_getElem?_getD,List.getElem?_append_right (Nat.le_refl _),Nat.sub_self]at this;exact this.2.1
theorem Fu{pc:Int}{l:List Ins}(h:Fp pc l):kR (lower pc l):=by
 have ln:=h.ln;have hp:=h.pc;have e0:lower pc l=qX 0 (Fq pc l) l:=by unfold lower;rw [dO h,if_pos rfl]
 have sz:=MH l 0 (Fq pc l);obtain⟨r,i,e,hr,hi,h0⟩:=Uk h;have rl:l.length=r.length+1:=by rw [e,List.length_append,List.length_singleton]
 have k0:OKS (Fq pc l).ops (Fq pc l).len:=λj j0 j1=>absurd j1 (by show¬j< ((0:Nat):Int);omega)
 obtain⟨a1,a2⟩:=MI r 0 (Fq pc l) hr k0 ah (by show 0+(r.length:Int)<=(l.length:Int);omega);have e1:lower pc l=nM r.length (qX 0 (Fq pc l) r) i:=by
  rw [e0]
  conv=>lhs;rw [e]
  rw [Ig,<-e];simp
 obtain⟨b1,b2,b3⟩:=Sg (n:=r.length) a1 hi h0 ⟨ah,by show(r.length:Int)< (l.length:Int);omega⟩;have eo:=YJ r.length (qX 0 (Fq pc l) r) i;rw [<-e0]at sz;generalize hB:(qX 0 (Fq pc l) r).ops=ops at*;have z0:(Fq pc l).ops.length=0:=rfl;have F:(lower pc l).pc=pc/\(lower pc l).len=l.length:=by
  rw [e1,a2];unfold nM;split
  .exact⟨rfl,rfl⟩
  split<;>exact⟨rfl,rfl⟩
 have O:(lower pc l).ops=ops++jw r.length ops.length i:=by rw [e1];exact eo
 refine⟨by rw [F.2];omega,by rw [F.1,F.2];omega,ah,?_,?_⟩
 .rw [O,F.2];exact λj j0 j1=>b1 j j0 j1
 .by_cases c:i.op=11\/i.op=12
  .obtain⟨v1,v2⟩:=b2 c;have E:lower pc l=⟨pc,l.length,ops++jw r.length ops.length i,i.op-8,ops.length,ops.length+1,i.k⟩:=by rw [e1,a2];unfold nM;rw [if_pos c];rfl
   have kk:=hi.2.2.2.2.2.2.2.2.2.1;rw [E];refine⟨by dsimp only;omega,λ_=>v1,λg=>by dsimp only at g;omega,λ_=>v2,λg=>by dsimp only at g;omega,λ_=> ?_,λg=>by dsimp only at g;omega⟩;have:=hi.2.2.2.1;have:=kk ah;dsimp only;omega
  by_cases d:i.op=13
  .have v1:=b3 d;have E:lower pc l=⟨pc,l.length,ops++jw r.length ops.length i,2,ops.length,0,0⟩:=by rw [e1,a2];unfold nM;rw [if_neg c,if_pos d];rfl
   rw [E];exact⟨by dsimp only;omega,λ_=>v1,λg=>by dsimp only at g;omega,λg=>by dsimp only at g;omega,λ_=>rfl,λg=>absurd rfl g,λ_=>rfl⟩
  .have E:lower pc l=⟨pc,l.length,ops++jw r.length ops.length i,1,0,0,pc+l.length⟩:=by rw [e1,a2];unfold nM;rw [if_neg c,if_neg d];rfl
   rw [E];exact⟨by dsimp only;omega,λg=>absurd rfl g,λ_=>rfl,λg=>by dsimp only at g;omega,λ_=>rfl,λ_=>by dsimp only;omega,λg=>by dsimp only at g;omega⟩
def afy{m:dG}(h:MOK m){i:Ins}(hi:mZ i):MOK (eff m i):=by
 obtain⟨⟨o0,o1⟩,⟨d0,d1⟩,⟨a0,a1⟩,k0,r0,r1,r2,r3,r8,r9,r13,r14⟩:=hi;have rs:∀(j:Nat) (v:Int),Wo v->MOK {m with regs:=m.regs.set j v}:=λj v w=> {h with r4:=by rw [List.length_set];exact h.r4,rw:=h.rw.set w j}
 unfold eff;split
 .exact rs _ _ ⟨k0,by have:=r1 ‹_›;omega⟩
 split
 .exact rs _ _ (h.rw.at _)
 split
 .exact rs _ _ (by unfold Wo;omega)
 split
 .exact rs _ _ (h.mw.at _)
 split
 .exact {h with m64:=by rw [List.length_set];exact h.m64,mw:=h.mw.set (h.rw.at _) _}
 split
 .exact {h with ow:=h.ow.snoc (h.rw.at _)}
 split
 .exact {rs i.d.toNat (m.ins.getD 0 default) h.iw.hd with iw:=h.iw.drop 1}
 split
 .split
  .exact {h with ha:=⟨show(0:Int)<=1 by decide,show(1:Int)<=4 by decide⟩}
  split
  .exact {h with}
  .exact {h with}
 split
 .exact h
 .exact rs _ _ (RN _ _ _)
abbrev upd(m:dG)(u v:Int):dG:={m with count:=u,pc:=v}
def smp(m:dG)(b:Bool):dG:=if(m.waits || b)=true/\m.wL=true then {m with waits:=false,wL:=false,save:=m.pc,pc:=48}else {m with waits:=m.waits || b}
def fm(i:Ins):Bool:=if i.op=0 then decide (i.d=0)&&decide (i.a=0)&&decide (i.k<=3)else if i.op=1 then decide (i.a=0)else if i.op=2 then decide (i.k=0)else if 3<=i.op/\i.op<=7 then decide (i.k<4)else if i.op=8 then decide (i.k<16)else if i.op=13 then decide (i.d=0)&&decide (i.k=0)else if i.op=14\/i.op=15 then decide (i.a=0)&&decide (i.k=0)else true
noncomputable def vN (i:Ins):Int:=if bp (mZ i)=true then JZ i else 0
def aby(i:Ins):Wo (vN i):=by
 unfold vN;split
 .rename_i h;obtain⟨⟨o0,o1⟩,⟨d0,d1⟩,⟨a0,a1⟩,k0,h⟩:=dh.1 h;unfold JZ Wo;omega
 .exact wo0
theorem Fv(m:dG)(b:Bool):stepM m b=(if 64<=(smp m b).pc then {smp m b with halt:=4}else if bp (mZ (rX (((smp m b).mem).getD ((smp m b).pc).toNat default)))=false then {smp m b with halt:=2}else exec (smp m b) (rX (((smp m b).mem).getD ((smp m b).pc).toNat default))):=rfl
def afz{m:dG}(h:MOK m)(b:Bool):MOK (smp m b):=by
 unfold smp;split
 .exact {h with sv:=h.pc,pc:=⟨show(0:Int)<=48 by decide,show(48:Int)<=65535 by decide⟩}
 .exact {h with}
def Qn(m:dG)(b:Bool):(smp m b).ins=m.ins/\(smp m b).outs=m.outs/\(smp m b).count=m.count:=by unfold smp;split<;>exact⟨rfl,rfl,rfl⟩
def afA{m:dG}(h:MOK m){i:Ins}(hi:mZ i):Wo (nxt m i):=by
 obtain⟨_,_,_,k0,_,_,_,_,_,r9,_⟩:=hi;unfold nxt;split
 .exact h.sv
 split
 .rename_i c;exact⟨k0,by have:=r9 ah;omega⟩
 split
 .exact h.rw.at _
 .unfold Wo;omega
def abz(m:dG)(i:Ins):(eff m i).count=m.count/\(eff m i).ins.length<=m.ins.length/\(eff m i).outs.length<=m.outs.length+1:=by
 unfold eff
 repeat' split
 all_goals refine⟨rfl,?_,?_⟩
 all_goals first | exact Nat.le_refl _ | exact Nat.le_succ _ | (simp only [List.length_append,List.length_cons,List.length_nil];omega) | (simp only [List.length_drop];omega)
def oW{m:dG}(h:MOK m){i:Ins}(hi:mZ i)(c:m.count<1000000):MOK (exec m i):=by
 unfold exec;split
 .exact {h with ha:=⟨show(0:Int)<=3 by decide,show(3:Int)<=4 by decide⟩}
 .have:=h.ct;exact {afy h hi with pc:=afA h hi,ct:=⟨show 0<=m.count+1 by omega,show m.count+1<=1000000 by omega⟩}
def abA(m:dG)(i:Ins):(exec m i).ins.length<=m.ins.length/\(exec m i).outs.length<=m.outs.length+1:=by
 unfold exec;split
 .exact⟨Nat.le_refl _,Nat.le_succ _⟩
 .exact(abz m i).2
def MJ{m:dG}(h:MOK m)(c:m.count<1000000)(b:Bool):MOK (stepM m b):=by
 have s:=afz h b;rw [Fv];split
 .exact {s with ha:=⟨show(0:Int)<=4 by decide,show(4:Int)<=4 by decide⟩}
 split
 .exact {s with ha:=⟨show(0:Int)<=2 by decide,show(2:Int)<=4 by decide⟩}
 .rename_i g;exact oW s (dh.1 (by simpa using g)) (by rw [(Qn m b).2.2];exact c)
def YK(m:dG)(b:Bool):(stepM m b).ins.length<=m.ins.length/\(stepM m b).outs.length<=m.outs.length+1:=by
 obtain⟨e1,e2,_⟩:=Qn m b;rw [Fv];split
 .exact⟨by rw [<-e1];exact Nat.le_refl _,by rw [<-e2];exact Nat.le_succ _⟩
 split
 .exact⟨by rw [<-e1];exact Nat.le_refl _,by rw [<-e2];exact Nat.le_succ _⟩
 .rw [<-e1,<-e2];exact abA _ _
noncomputable def stS (m:dG) (b:Bool):dG:=if bp (MOK m)=true then(if m.halt≠0\/m.count=1000000 then m else stepM m b)else abv
noncomputable def ah8 (q:List Int):Nat->dG->dG
 | 0,m=>m
 | k+1,m=>if m.halt=0/\m.count<1000000 then ah8 q k (stepM m (bp (m.count∈q)))else m
noncomputable def I6 (q:List Int) (n:Int) (m:dG):dG:=if bp (MOK m/\n<=400)=true then ah8 q n.toNat m else abv
def YL{i:Ins}(h:mZ i):rX (vN i)=i:=by
 unfold vN;rw [dO h,if_pos rfl];obtain⟨⟨o0,o1⟩,⟨d0,d1⟩,⟨a0,a1⟩,k0,h⟩:=h;have k1:i.k<=255:=by omega
 obtain⟨op,d,a,k⟩:=i;unfold rX JZ;dsimp only at*
 congr 1<;>omega
structure PS where
 m:dG
 L:List Int
 I:List Int
 left:Bool
section
variable (T:List Atom) (r0:List Int) (pc len:Int)
def pv(s:PS):List Int:=tv r0 s.L s.I T
end
theorem YM{α β:Type}[Inhabited α][Inhabited β]{f:α->β}(h:f default=default)(l:List α)(i:Int):(l.map f).getD i.toNat default=f (l.getD i.toNat default):=by
 rw [List.getD_eq_getElem?_getD,List.getElem?_map,List.getD_eq_getElem?_getD];cases l[i.toNat]? with
 | none=>exact h.symm
 | some x=>rfl
structure PJ(T:List Atom)(r0:List Int)(M:MS)(S:SS)(P:PS):Prop where
 lf:P.left=false
 m:P.m={M.m with regs:=r0}
 ld:(P.L.length:Int)=S.ld
 inn:(P.I.length:Int)=S.inn
 wl:wOK P.L
 wi:wOK P.I
 v:∀L I,P.L<+:L->P.I<+:I->wOK L->wOK I->S.vals.map (evF (tv r0 L I T))=M.vals
 r:∀L I,P.L<+:L->P.I<+:I->wOK L->wOK I->S.regs.map (evF (tv r0 L I T))=M.m.regs
theorem PJ.x{T:List Atom}{r0:List Int}{M:MS}{S:SS}{P:PS}(h:PJ T r0 M S P){L I:List Int}(h1:P.L<+:L)(h2:P.I<+:I)(h3:wOK L)(h4:wOK I)(o:IOp):evF (tv r0 L I T) (xOf S o)=vx M o/\evF (tv r0 L I T) (yOf S o)=vy M o:=by
 have e:=h.v L I h1 h2 h3 h4;unfold xOf yOf vx vy;rw [<-e];constructor
 .split
  .exact(YM (f:=evF (tv r0 L I T)) rfl S.vals o.x).symm
  .rfl
 .split
  .exact(YM (f:=evF (tv r0 L I T)) rfl S.vals o.y).symm
  .rfl
theorem Si{s:MS}(o:IOp):(mM s o).pc=s.m.pc/\(mM s o).halt=s.m.halt/\(mM s o).count=s.m.count:=by
 unfold mM
 repeat' split
 all_goals exact⟨rfl,rfl,rfl⟩
end Go.TX.F
namespace Go.TX.F
open Go Go.AE Go.TX
noncomputable def Ch:List Int->List Ins
 | []=> []
 | w::r=>if bp (Wo w/\mZ (rX w))=true then rX w::Ch r else []
def YN{w:Int}(h:Wo w)(k:mZ (rX w)):vN (rX w)=w:=by
 unfold vN;rw [dO k,if_pos rfl];obtain⟨h0,h1⟩:=h;unfold JZ rX;dsimp only;omega
def Ih:∀ {l:List Ins},(∀i∈l,mZ i)->Ch (l.map vN)=l
 | [],_=>rfl
 | i::l,h=>by
  have hi:=h i (List.mem_cons_self ..);rw [List.map_cons];unfold Ch;rw [YL hi,dO ⟨aby i,hi⟩,if_pos rfl,Ih λj hj=>h j (List.mem_cons_of_mem _ hj)]
def ajO(e:Cac)(mem:List Int):Prop:=0<=e.blk.pc/\∀t:Nat,t<e.words.length->e.blk.pc+t<mem.length/\((mem).getD (e.blk.pc+t).toNat default)=e.words.getD t default
structure afB(e:Cac):Prop where
 len:(Ch e.words).length=e.words.length
 ok:Fp e.blk.pc (Ch e.words)
 chk:chk (lower e.blk.pc (Ch e.words)) e.blk=true
end Go.TX.F
