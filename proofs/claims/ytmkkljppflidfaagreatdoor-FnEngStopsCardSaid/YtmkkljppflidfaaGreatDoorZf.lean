/- Part 6 of a proof: what the last part needs. No condition. -/
import Derived.Test.YtmkkljppflidfaaGreatDoorZe
set_option maxHeartbeats 1000000
set_option linter.all false
set_option linter.unusedSectionVars false
set_option linter.unusedVariables false
set_option linter.unusedSimpArgs false
noncomputable section
namespace Go.TX.F
open Go Go.AE Go.TX Go.TX.Seat Go.Proofs List
set_option maxRecDepth 100000
set_option maxHeartbeats 4000000
def aoA:=mk ahg Tryz.func224 (hc iq hn)
def zR:=λo=>aoA.cs (axG bW o:)
def ajX:=mk ahh Tryz.func168 (hc aoA (hc iq hn))
def pU:=λb x n d c a=>ajX.cs (axI zR bW b x n d c a:)
def aoB:=mk ahi Tryz.func110 (hc ajX (hc Tx (hc uF (hc iq (hc aa2 (hc QB hn))))))
def Bg:=λb i d c a e=>aoB.cs (axJ pU lU gH bW Gr wN b i d c a e:)
def Tz:=mk ahj Tryz.func122 hn
def gW:=λb=>Tz.cs (axK b:)
def aoC:=mk ahk Tryz.func111 (hc Tz (hc ajX (hc uF (hc iq hn))))
def zS:=λb a=>aoC.cs (axL gW pU gH bW b a:)
def Gs:=mk ahl Tryz.func69 (hc aoC (hc aoB (hc iq hn)))
def kH:=λb a=>Gs.cs (axM zS Bg bW b a:)
def ajY:=mk WT Tryz.func112 hn
def mH:=λa b c=>ajY.cs (asl a b c:)
def ajZ:=mk ahm Tryz.func70 (hc ajY hn)
def BH:=λa b c=>ajZ.cs (axR mH a b c:)
def aoD:=mk ahn Tryz.func146 (hc iq hn)
def vG:=λn b m K C hm a=>aoD.cs (azf bW n b m K C hm a:)
def aoE:=mk aho Tryz.func278 hn
def Ed:=λa n=>aoE.cs (axd a n:)
def aj0:=mk WU Tryz.func205 (hc aoE hn)
def kI:=λa n b=>aj0.cs (aqB Ed a n b:)
def aj1:=mk WW Tryz.func205 (hc aoD hn)
def pV:=λq b m K C a hm c=>aj1.cs (auP vG q b m K C a hm c:)
def aj2:=mk WX Tryz.func145 (hc aj0 hn)
def jh:=λa n b=>aj2.cs (aqC (λz1 z2 z3=>(kI z1 z2 z3).1) (λz1 z2 z3=>(kI z1 z2 z3).2) a n b:)
def aj3:=mk WY Tryz.func145 (hc aj1 hn)
def nY:=λq b m K C a hm c=>aj3.cs (auQ pV q b m K C a hm c:)
def aj4:=mk ahp Tryz.func225 (hc aj2 hn)
def xH:=λa n b=>aj4.cs (axe (λz1 z2 z3=>(jh z1 z2 z3).1) (λz1 z2 z3=>(jh z1 z2 z3).2) a n b:)
def ava:=mk aqa Tryz.func283 hn
def xI:=λa=>ava.cs (az8 a:)
def anJ:=mk aqb Tryz.func232 (hc ava hn)
def nZ:=λa b=>anJ.cs (az9 xI a b:)
def avb:=mk aqc Tryz.func233 hn
def Ee:=λa b=>avb.cs (aAb a b:)
def aj5:=mk WZ Tryz.func284 (hc anJ hn)
def uG:=λa b c=>aj5.cs (aqy nZ a b c:)
def KD:=mk Xa Tryz.func234 (hc avb (hc anJ (hc aj5 hn)))
def jZ:=λa b c=>KD.cs (aqz nZ uG Ee a b c:)
def anK:=mk aqd Tryz.func285 (hc ava hn)
def zT:=λa b=>anK.cs (aAa xI a b:)
def aj6:=mk Xb Tryz.func236 (hc anK hn)
def sK:=λa b=>aj6.cs (aqA zT a b:)
def aoF:=mk ahq Tryz.func238 hn
def KE:=λm=>aoF.cs (axf m:)
def aj7:=mk Xc Tryz.func286 (hc aoF hn)
def iW:=λa b=>aj7.cs (aqD (G:=(λm:au=>0<m.atoms.length/\m.atoms.getD 0 default<0)) KE a b:)
def aj8:=mk Xd Tryz.func237 (hc aj7 hn)
def iF:=λa b=>aj8.cs (aqE (G:=(λm:au=>0<m.atoms.length/\m.atoms.getD 0 default<0)) iW a b:)
def Gu:=mk ahr Tryz.func176 (hc iq (hc aj4 (hc aj6 (hc KD (hc aj8 hn)))))
def jD:=λa b=>Gu.cs (axg bW xH sK jZ iF a b:)
def aj9:=mk ahs Tryz.func170 (hc iq (hc aa2 (hc aj4 (hc Gu (hc QB hn)))))
def og:=λa n b=>aj9.cs (axr bW Gr xH jD wN a n b:)
def adp:=mk aht Tryz.func173 (hc avb (hc anJ (hc KD hn)))
def qc:=λa b c=>adp.cs (axh Ee nZ jZ a b c:)
def CU:=mk Xe Tryz.func126 (hc adp hn)
def dW:=λa b c=>CU.cs (aqF qc a b c:)
def aoG:=mk ahu Tryz.func228 (hc CU hn)
def Bh:=λa b c=>aoG.cs (axo dW a b c:)
def aoH:=mk ahv Tryz.func227 (hc aoG hn)
def zU:=λa b c=>aoH.cs (axp Bh a b c:)
def akb:=mk Xf Tryz.func226 (hc aoH hn)
def iX:=λa b c d=>akb.cs (aqL zU a b c d:)
def akc:=mk ahw Tryz.func171 (hc akb hn)
def rT:=λa b c d=>akc.cs (axq iX a b c d:)
def akd:=mk Xg Tryz.func235 hn
def j6:=λa=>akd.cs (aqK a:)
def ake:=mk ahx Tryz.func174 (hc aj9 (hc akc (hc akd hn)))
def tO:=λt a c b=>ake.cs (axu og rT j6 t a c b:)
def akf:=mk ahy Tryz.func175 (hc iq hn)
def zV:=λa=>akf.cs (axj bW a:)
def aa3:=mk Xh Tryz.func121 (hc akf (hc ake hn))
def vH:=λc k t b a=>aa3.cs (arV zV tO c k t b a:)
def aa4:=mk Xi Tryz.func113 (hc aa3 hn)
def tQ:=λt b c a=>aa4.cs (arW vH t b c a:)
def KF:=mk Xj Tryz.func88 hn
def kZ:=λa b=>KF.cs (aqI a b:)
def adq:=mk ahz Tryz.func169 (hc KF hn)
def kJ:=λa b=>adq.cs (axl kZ a b:)
def akg:=mk ahA Tryz.func114 (hc adq hn)
def qp:=λa b=>akg.cs (axn kJ a b:)
def aoI:=mk ahB Tryz.func71 (hc akg (hc aa4 hn))
def Me:=aoI.cs (axO qp tQ:)
def aoJ:=mk ahC Tryz.func115 (hc aj9 (hc akc hn))
def QC:=λa b=>aoJ.cs (axt og rT a b:)
def akh:=mk Xk Tryz.func118 hn
def jU:=λa c b=>akh.cs (arX a c b:)
def ads:=mk ahD Tryz.func119 (hc iq hn)
def qd:=λa=>ads.cs (axi bW a:)
def KG:=mk Xl Tryz.func150 hn
def oh:=λa=>KG.cs (aqG a:)
def KH:=mk Xm Tryz.func131 (hc uF (hc KG hn))
def qJ:=λc a b=>KH.cs (aqH gH oh c a b:)
def aki:=mk ahE Tryz.func178 (hc Gu hn)
def BI:=λa b=>aki.cs (axk jD a b:)
def CV:=mk Xo Tryz.func311 (hc KD hn)
def Ef:=λa b c=>CV.cs (aqJ jZ a b c:)
def akj:=mk Xp Tryz.func339 (hc CV hn)
def jE:=λa b d hd e c f=>akj.cs (aqO Ef a b d hd e c f:)
def akk:=mk Xq Tryz.func348 hn
def kL:=λa b n d c g e h f=>akk.cs (aqM a b n d c g e h f:)
def FX:=mk Xr Tryz.func346 (hc akk hn)
def lQ:=λa m b d c g e h f=>FX.cs (aqN kL a m b d c g e h f:)
def cK:Nat->Ct aH UZ
 | 0=>never UZ
 | k+1=>cn (JU.F (CV.c.pre,CV.c.fn,FX.c.pre,FX.c.fn,(cK k).pre,(cK k).fn,()))
def kK:∀k:Nat,dV E 340 (dP (cK k))/\∀(a m b:Int) (d:List au),JW a m b d->b-a<k->(cK k).pre (a,m,b,d,())=true/\Mrg d ((cK k).fn (a,m,b,d,())).1 a b
 | 0=>⟨nW (enters_of Tryz.func340 (by kernel_rfl) rfl),λa m b d c f=>(by have h:=c.h2;have g:=c.h3;omega)⟩
 | k+1=>by
  have e:=kK k;have t:Fn E 340 (JU.F (CV.c.pre,CV.c.fn,FX.c.pre,FX.c.fn,(cK k).pre,(cK k).fn,())) (cK (k+1)):=mkF Tryz.func340 JU (hc CV (hc FX (hk e.1 hn)));exact⟨t.ok,λa m b d c f=>t.cs (aqP Ef lQ (k:Int) e.2 a m b d c ah)⟩
def avc:Ct aH UZ:=cK 1000000000
def avd:dV E 340 (dP avc):=(kK 1000000000).1
def aoK{a m b:Int}{d:List au}(h:JW a m b d):b-a< ((1000000000:Nat):Int):=by have f:=h.sh.1;have e:=h.h1;have c:=h.h4;omega
def ave:=λa m b d h=>((kK 1000000000).2 a m b d h (aoK h)).1
def avf:=λa m b d h=>((kK 1000000000).2 a m b d h (aoK h)).2
def akl:=mk Xt Tryz.func324 (hc akj (hk avd hn))
def lS:=λn d hd hn=>akl.cs (aqQ jE (λz1 z2 z3 z4 a=>⟨ave z1 z2 z3 z4 a,avf z1 z2 z3 z4 a⟩) n d hd hn:)
end Go.TX.F
end
noncomputable section
namespace Go.TX.F
open Go Go.AE Go.TX Go.TX.Seat Go.Proofs List
set_option maxRecDepth 100000
set_option maxHeartbeats 4000000
def akm:=mk Xu Tryz.func310 (hc akl hn)
def gZ:=λd hd=>akm.cs (aqR lS d hd:)
def aa5:=mk Xv Tryz.func279 (hc KD (hc Gu (hc KG (hc KF (hc akm hn)))))
def KJ:=λl a hc=>aa5.cs (aqS jZ jD oh kZ gZ l a hc:)
def akn:=mk Xw Tryz.func312 hn
def kg:=λn a b=>akn.cs (aqT n a b:)
def ako:=mk Xx Tryz.func280 (hc akn hn)
def jM:=λa b c d=>ako.cs (aqU kg a b c d:)
def aoL:=mk ahF Tryz.func229 (hc Gu (hc aa5 (hc ako hn)))
def Mf:=λa b c d=>aoL.cs (axw jD KJ jM a b c d:)
def akp:=mk Xy Tryz.func313 hn
def xW:=λn a b=>akp.cs (aqV n a b:)
def akq:=mk Xz Tryz.func281 (hc akp hn)
def vI:=λa b c d=>akq.cs (aqW xW a b c d:)
def akr:=mk XA Tryz.func325 (hc anK hn)
def nJ:=λa b d hd e c=>akr.cs (arH zT a b d hd e c:)
def avg:Ct aH af4:=never af4
def avh:dV E 326 (dP avg):=nW (enters_of Tryz.func326 (by kernel_rfl) rfl)
def avi:Ct aH af5:=never af5
def avj:dV E 327 (dP avi):=nW (enters_of Tryz.func327 (by kernel_rfl) rfl)
def avk:Ct aH Vb:=never Vb
def avl:dV E 328 (dP avk):=nW (enters_of Tryz.func328 (by kernel_rfl) rfl)
def avm:Ct aH af6:=never af6
def avn:dV E 329 (dP avm):=nW (enters_of Tryz.func329 (by kernel_rfl) rfl)
def avo:Ct aH Vd:=never Vd
def avp:dV E 330 (dP avo):=nW (enters_of Tryz.func330 (by kernel_rfl) rfl)
def avq:Ct aH Ve:=never Ve
def avr:dV E 331 (dP avq):=nW (enters_of Tryz.func331 (by kernel_rfl) rfl)
def avs:Ct aH Vf:=never Vf
def avt:dV E 332 (dP avs):=nW (enters_of Tryz.func332 (by kernel_rfl) rfl)
def qg:Ct aH JL:=never JL
def qh:dV E 314 (dP qg):=nW (enters_of Tryz.func314 (by kernel_rfl) rfl)
def aks:=mk XB Tryz.func314 (hc anK (hc akr (hk avh (hk avj (hk avl (hk avn (hk avp (hk avr (hk avt (hk qh hn))))))))))
def qK:=λa b k d hd e c=>aks.cs (arI nJ _ _ _ _ _ _ _ _ _ _ _ _ _ _ _ _ a b k d hd e c:)
def akt:Ct aH af7:={pre:=λx=>decide ((0:Int)<=x.1)&&decide ((x.1:Int)<=18446744073709551615),fn:=λx=>((Lib.bitLen (x.1:Int).toNat:Int),())}
def avu(n:Int)(a:0<=n)(b:n<=18446744073709551615):akt.pre (n,())=true:=by
 show(decide _&&decide _)=true;simp only [Bool.and_eq_true,decide_eq_true_eq];exact⟨a,b⟩
def avv:dV E 315 (dP akt):=
 aju (enters_of Tryz.func315 (by kernel_rfl) rfl) rfl λx w h=>by
  have a:(decide ((0:Int)<=x)&&decide (x<=18446744073709551615))=true:=h;simp only [Bool.and_eq_true,decide_eq_true_eq]at a;exact bits_Len x w a.1 a.2
def aku:=mk XC Tryz.func282 (hc aks (hk avv hn))
def xX:=λa b=>aku.cs (arJ qK avu a b:)
def akv:=mk ahG Tryz.func231 (hc Gu (hc KG (hc aa5 (hc akq (hc aku hn)))))
def BJ:=λa b c d=>akv.cs (axx jD oh KJ vI xX a b c d:)
def aoM:=mk ahH Tryz.func230 (hc Gu (hc ads (hc uF (hc akv hn))))
def GX:=λa n b=>aoM.cs (axy jD qd gH BJ a n b:)
def akw:=mk XD Tryz.func172 (hc CU (hc ads (hc KH (hc aoL (hc akv (hc aoM (hc aki hn)))))))
def Mg:=λa x y c b=>akw.cs (aqX dW qd qJ Mf BJ GX BI a x y c b:)
def aoN:=mk ahI Tryz.func120 (hc adp (hc akw (hc ake (hc akf hn))))
def FY:=λt a x y c d b=>aoN.cs (axz qc Mg tO zV t a x y c d b:)
def KL:=mk XE Tryz.func132 (hc uF hn)
def pE:=λr a b=>KL.cs (arT gH r a b:)
def akx:=mk XF Tryz.func239 (hc adq hn)
def Eh:=λa b=>akx.cs (arU kJ a b:)
def aoO:=mk ahJ Tryz.func177 (hc adq (hc akx hn))
def Bj:=λs a=>aoO.cs (axN kJ Eh s a:)
def aoP:=mk ahK Tryz.func123 (hc aki (hc Gu (hc adp (hc aoO (hc CU (hc KL hn))))))
def Mh:=λs n c b a=>aoP.cs (axP BI jD qc Bj dW pE s n c b a:)
def aoQ:=mk ahL Tryz.func72 (hc Tz (hc Gs (hc ajR (hc Tx (hc ads (hc aoP (hc aoJ (hc akg (hc aoN (hc aa3 (hc aa4 (hc akh hn))))))))))))
def Mi:=λt b a c=>aoQ.cs (axQ gW kH tN lU qd Mh QC qp FY vH tQ jU t b a c:)
def aky:=mk XG Tryz.func180 (hc CU hn)
def CW:=λa b c=>aky.cs (asn dW a b c:)
def akz:=mk XH Tryz.func179 (hc aky hn)
def dD:=λa b c=>akz.cs (aso CW a b c:)
def aa6:=mk XI Tryz.func127 (hc akz hn)
def vJ:=λa b c=>aa6.cs (asq dD a b c:)
def aoR:=mk ahM Tryz.func125 (hc CU (hc aa6 hn))
def FZ:=λa b c=>aoR.cs (axS dW vJ a b c:)
def akA:=mk XJ Tryz.func124 (hc aoR hn)
def dw:=λa b c=>akA.cs (asr FZ a b c:)
def aoS:=mk ahN Tryz.func73 (hc CU (hc aa6 (hc akA hn)))
def KM:=λa b c=>aoS.cs (axT dW vJ dw a b c:)
def NY:=mk ahO Tryz.func28 (hc Gs (hc ajZ (hc aoI (hc aoQ (hc aoS hn)))))
def kM:=λb c a hc=>NY.cs (axU kH BH Me Mi KM b c a hc:)
def adt:=mk ahP Tryz.func64 (hc ado (hc uF hn))
def rU:=λw=>adt.cs (ayK wO gH w:)
def avw:=mk aqe Tryz.func33 (hc adt hn)
def zW:=λw h=>avw.cs (aAw rU w h:)
def aoT:=mk ahQ Tryz.func53 (hc aez (hc au9 (hc avw (hc ajK (hc NV (hc NY hn))))))
def QD:=λl mem h hm=>aoT.cs (ay6 jL Eb zW nD kG kM l mem h hm:)
def aoU:=mk ahR Tryz.func93 (hc NY hn)
def KN:=λq b a=>aoU.cs (ax7 kM q b a:)
def aoV:=mk ahS Tryz.func269 (hc ajZ hn)
def GY:=λq b c d a=>aoV.cs (ax6 BH q b c d a:)
def akB:=mk XK Tryz.func153 (hc aoV hn)
def iY:=λl b c h=>akB.cs (asw GY l b c h:)
def akC:=mk XL Tryz.func153 (hc aoU hn)
def iG:=λl h=>akC.cs (asx KN l h:)
def akD:=mk XM Tryz.func92 (hc akB hn)
def iH:=λl b c h=>akD.cs (asy iY l b c h:)
def akE:=mk XO Tryz.func92 (hc akC hn)
def gQ:=λl h=>akE.cs (asz iG l h:)
def aoW:=mk ahT Tryz.func54 (hc akE hn)
def QE:=λl h=>aoW.cs (ax9 gQ l h:)
def TA:=mk ahU Tryz.func18 (hc aoT (hc aoW (hc ajI hn)))
def qL:=λe b a c=>TA.cs (ay7 QD QE Ea e b a c:)
def aoX:=mk ahV Tryz.func45 (hc KF hn)
def zY:=λm h=>aoX.cs (ayq kZ m h:)
end Go.TX.F
end
noncomputable section
namespace Go.TX.F
open Go Go.AE Go.TX Go.TX.Seat Go.Proofs List
set_option maxRecDepth 100000
set_option maxHeartbeats 4000000
def aoY:=mk ahW Tryz.func142 (hc NW (hc KF hn))
def xY:=λe a b=>aoY.cs (ayW fJ kZ e a b:)
def QF:=mk XP Tryz.func82 (hc aoY hn)
def om:=λl h=>QF.cs (auG xY l h:)
def aoZ:=mk ahX Tryz.func143 (hc NW hn)
def zZ:=λq b a=>aoZ.cs (aye fJ q b a:)
def aa7:=mk XQ Tryz.func83 (hc aoZ hn)
def tT:=λl h=>aa7.cs (asV zZ l h:)
def akF:=mk ahY Tryz.func41 (hc aoX (hc QF (hc aa7 hn)))
def qw:=λe h=>akF.cs (azd zY om tT e h:)
def akG:=mk ahZ Tryz.func42 hn
def qx:=λm=>akG.cs (ayM m:)
def anL:=mk aqf Tryz.func26 (hc ajQ (hc adt (hc ajI hn)))
def rV:=λm h=>anL.cs (aAx zP rU Ea m h:)
def akH:=mk ah0 Tryz.func151 hn
def nG:=λe c lt f b ins d K C regs mem a h=>akH.cs (ay8 e c lt f b ins d K C regs mem a h:)
def ao0:=mk ah1 Tryz.func89 (hc akH (hc KH (hc KL (hc KG hn))))
def sM:=λi m K C h b hn a=>ao0.cs (aza nG qJ pE oh i m K C h b hn a:)
def ao1:=mk ah2 Tryz.func51 (hc adt (hc ao0 hn))
def wQ:=λb m K C h hn a=>ao1.cs (azb rU sM b m K C h hn a:)
def akI:=mk XR Tryz.func90 hn
def wR:=λl n h=>akI.cs (atS l n h:)
def akJ:=mk XU Tryz.func52 (hc akI hn)
def sN:=λl n h=>akJ.cs (atT wR l n h:)
def ao2:=mk ah3 Tryz.func66 hn
def GZ:=λa b e d c f=>ao2.cs (ayk a b e d c f:)
def azs:=mk aqg Tryz.func67 hn
def Mj:=λa b c d=>azs.cs (aAj a b c d:)
def ao3:=mk ah4 Tryz.func68 (hc Gs hn)
def KO:=λb a=>ao3.cs (ayl kH b a:)
def akK:=mk ah5 Tryz.func27 (hc azs (hc ao3 (hc ao2 hn)))
def BK:=λl b a=>akK.cs (ayn Mj KO GZ l b a:)
def akL:=mk ah6 Tryz.func133 (hc Tz (hc Tx hn))
def oJ:=λnm b len fin x y k a h=>akL.cs (axX gW lU nm b len fin x y k a h:)
def akM:=mk ah7 Tryz.func128 (hc akL hn)
def qy:=λb a ok hk=>akM.cs (axY oJ b a ok hk:)
def ao4:=mk ah8 Tryz.func129 (hc Tz (hc Tx hn))
def Bn:=λb ok=>ao4.cs (ax1 gW lU b ok:)
def ao5:=mk ah9 Tryz.func74 (hc akM (hc ao4 (hc Gs hn)))
def KQ:=λb a=>ao5.cs (ax3 qy Bn kH b a:)
def ao6:=mk aia Tryz.func75 (hc akM (hc Gs hn))
def KR:=λb a=>ao6.cs (ax2 qy kH b a:)
def ao7:=mk aib Tryz.func130 hn
def Ei:=λi c d e b f g a h=>ao7.cs (axW i c d e b f g a h:)
def ao8:=mk aic Tryz.func76 (hc NW (hc Gs (hc ao7 (hc KH (hc KL hn)))))
def G5:=λb a=>ao8.cs (axZ fJ kH Ei qJ pE b a:)
def ao9:=mk aie Tryz.func77 (hc NW (hc akL (hc Gs hn)))
def KS:=λb a=>ao9.cs (ax0 fJ oJ kH b a:)
def akN:=mk aif Tryz.func30 (hc ao8 (hc ao9 (hc ao5 (hc ao6 hn))))
def BL:=λb a=>akN.cs (ax4 G5 KS KQ KR b a:)
def apa:=mk aii Tryz.func200 (hc akK (hc akN hn))
def CX:=λa b h c d=>apa.cs (aze BK BL a b h c d:)
def apb:=mk aij Tryz.func201 (hc akD hn)
def Mk:=λl b c h=>apb.cs (ax8 iH l b c h:)
def akO:=mk XV Tryz.func270 hn
def rW:=λl n a c b=>akO.cs (asW l n a c b:)
def apc:=mk aik Tryz.func202 (hc aa7 (hc akO hn))
def Ml:=λl q h b a=>apc.cs (ayh tT rW l q h b a:)
def akP:=mk XW Tryz.func148 (hc ajM (hc ajO hn))
def iI:=λl x h=>akP.cs (auF xG gX l x h:)
def akQ:=mk XY Tryz.func148 (hc ajL (hc ajP hn))
def gT:=λl mem h hm=>akQ.cs (auM vF gY l mem h hm:)
def akR:=mk XZ Tryz.func272 hn
def qM:=λl n a c b=>akR.cs (auH l n a c b:)
def apd:=mk ail Tryz.func203 (hc QF (hc akR (hc akP hn)))
def Mq:=λl e h b a c=>apd.cs (ayX om qM iI l e h b a c:)
def ape:=mk ain Tryz.func273 (hc ado hn)
def Mr:=λi=>ape.cs (ayL wO i:)
def azt:=mk aqh Tryz.func204 (hc ape hn)
def G6:=λl a=>azt.cs (aAp Mr l a:)
def apf:=mk aio Tryz.func144 (hc aez (hc azt (hc apd (hc apb (hc apc (hc NY (hc apa hn)))))))
def CY:=λl a m K C c b hK hc d hn=>apf.cs (azg jL G6 Mq Mk Ml kM CX l a m K C c b hK hc d hn:)
def apg:=mk aip Tryz.func147 (hc akH (hc KH (hc KL (hc iq hn))))
def xZ:=λb m K C c hm d a=>apg.cs (azc nG qJ pE bW b m K C c hm d a:)
def aph:=mk aiq Tryz.func84 (hc anL (hc NV (hc apf (hc apg (hc ao1 (hc aj3 (hc akJ hn)))))))
def x9:=λq l a e ok c d z b f hn=>aph.cs (azh rV kG CY xZ wQ nY sN q l a e ok c d z b f hn:)
def apj:=mk air Tryz.func85 (hc QF (hc akQ hn))
def KT:=λl mem h hm=>apj.cs (ay3 om gT l mem h hm:)
def akS:=mk ais Tryz.func43 (hc apj (hc aph hn))
def rX:=λq l a e ok f b z c d hn=>akS.cs (azi KT x9 q l a e ok f b z c d hn:)
def akT:=mk ait Tryz.func12 (hc akF (hc akS (hc TA (hc akG hn))))
def BM:=λe q n l z a b hn c=>akT.cs (azm qw rX qL qx e q n l z a b hn c:)
def CZ:=mk X3 Tryz.func15 (hc uF hn)
def nH:=CZ.cs (aqY gH:)
def aa8:=mk X4 Tryz.func50 hn
def BN:=λa b c=>aa8.cs (aqZ a b c:)
def aa9:=mk X5 Tryz.func16 (hc aa8 hn)
def BO:=λa b h=>aa9.cs (as4 BN a b h:)
def KU:=mk X6 Tryz.func29 hn
def oq:=λa b c=>KU.cs (asv a b c:)
def abb:=mk X7 Tryz.func35 (hc KU (hc aa8 hn))
def Aa:=λa b c=>abb.cs (auJ oq BN a b c:)
def akU:=mk X8 Tryz.func55 (hc KU hn)
def KV:=λa b c=>akU.cs (asY oq a b c:)
def akV:=mk X9 Tryz.func20 (hc abb (hc akU (hc aa9 hn)))
def QG:=λa b z=>akV.cs (auW Aa KV BO a b z:)
def akW:=mk Ya Tryz.func21 (hc CP (hc FR hn))
def Mv:=λm h=>akW.cs (aub kY lM m h:)
def abd:=mk Yb Tryz.func154 (hc Qw (hc Kr (hc o8 (hc aaW hn))))
def Ej:=λa l b=>abd.cs (L6 rP qG eH zK a l b:)
end Go.TX.F
end
noncomputable section
namespace Go.TX.F
open Go Go.AE Go.TX Go.TX.Seat Go.Proofs List
set_option maxRecDepth 100000
set_option maxHeartbeats 4000000
def F4:=mk Yc Tryz.func208 hn
def ou:=λc d e b f g o a h=>F4.cs (LU c d e b f g o a h:)
def abe:=mk Yd Tryz.func209 (hc F4 hn)
def Em:=λd e f b g c k x a h=>abe.cs (LY ou d e f b g c k x a h:)
def KW:=mk Ye Tryz.func210 (hc F4 hn)
def qN:=λc d e b f g k a h=>KW.cs (LW ou c d e b f g k a h:)
def abf:=mk Yf Tryz.func211 (hc KW (hc F4 hn))
def xJ:=λd e f c g i k a o b h=>abf.cs (FH qN ou d e f c g i k a o b h:)
def akX:=mk Yg Tryz.func212 hn
def KY:=λk b a=>akX.cs (GN k b a:)
def akY:=mk Yh Tryz.func213 (hc KW (hc F4 (hc abf (hc abe hn))))
def KZ:=λc d e b f j i n a g h=>akY.cs (GL qN ou xJ Em c d e b f j i n a g h:)
def akZ:=mk Yi Tryz.func214 (hc KW hn)
def Mw:=λB i a h=>akZ.cs (Kk qN B i a h:)
def ak0:=mk Yj Tryz.func155 (hc KW (hc akZ (hc F4 (hc akY (hc abf (hc abe (hc akX hn)))))))
def QH:=λB i n b a h=>ak0.cs (LZ qN Mw ou KZ xJ Em KY B i n b a h:)
def F6:=mk Yk Tryz.func95 (hc abd (hc ak0 hn))
def iB:=λb l a=>F6.cs (FJ Ej QH b l a:)
def C8:=mk Yl Tryz.func156 hn
def jP:=λb a=>C8.cs (ar2 b a:)
def abg:=mk Pj Tryz.func96 (hc iL (hc C8 hn))
def Ac:=λc b p hc e d a=>abg.cs (asj aL jP c b p hc e d a:)
def ak1:=mk Ym Tryz.func309 (hc o8 hn)
def K4:=λk=>ak1.cs (arO eH k:)
def abh:=mk Yn Tryz.func275 (hc ak1 hn)
def En:=λa x n b=>abh.cs (arP K4 a x n b:)
def ak2:=mk Yp Tryz.func216 (hc zI (hc o8 (hc abh hn)))
def TB:=λa i len c b d=>ak2.cs (arQ jC eH En a i len c b d:)
def ak3:=mk Yq Tryz.func217 (hc zI (hc abh hn))
def QI:=λb=>ak3.cs (arR jC En b:)
def rY:=mk Yr Tryz.func161 (hc o8 (hc ak3 (hc ak2 hn)))
def gJ:=λb a=>rY.cs (arS eH QI TB b a:)
def abj:=mk Yt Tryz.func215 (hc o8 hn)
def xK:=λo al hk b a=>abj.cs (ar6 eH o al hk b a:)
def abk:=mk Yu Tryz.func158 (hc rY (hc abj (hc C8 hn)))
def Ad:=λb a=>abk.cs (asg gJ xK jP b a:)
def abl:=mk Yv Tryz.func218 (hc abj hn)
def Ae:=λb a ok hk=>abl.cs (asb xK b a ok hk:)
def ak4:=mk Yw Tryz.func219 (hc rY (hc o8 hn))
def K6:=λb a=>ak4.cs (asa gJ eH b a:)
def ak5:=mk Yx Tryz.func163 (hc rY (hc ak4 (hc abl hn)))
def K7:=λb a=>ak5.cs (asc gJ K6 Ae b a:)
def ak6:=mk Yy Tryz.func220 hn
def K8:=λa k d c b=>ak6.cs (ar7 a k d c b:)
def ak7:=mk Yz Tryz.func164 (hc rY (hc abl (hc ak6 hn)))
def K9:=λb a=>ak7.cs (ase gJ Ae K8 b a:)
def abm:=mk YA Tryz.func221 hn
def xL:=λa k=>abm.cs (ar3 a k:)
def ak8:=mk YB Tryz.func277 hn
def QJ:=λb k=>ak8.cs (ar4 b k:)
def ak9:=mk YC Tryz.func223 (hc ak8 (hc abm hn))
def La:=λb h=>ak9.cs (ar5 QJ xL b h:)
def ala:=mk YD Tryz.func165 (hc rY (hc Kw (hc ak9 (hc abm (hc C8 hn)))))
def G7:=λb a=>ala.cs (ar9 gJ qI La xL jP b a:)
def QK:=mk YE Tryz.func102 (hc ala (hc abk (hc ak5 (hc ak7 hn))))
def uH:=λb a=>QK.cs (ar8 G7 Ad K7 K9 b a:)
def alb:=mk YF Tryz.func157 (hc Qx (hc iL hn))
def Lb:=λb p d c a=>alb.cs (ar1 rQ aL b p d c a:)
def abn:=mk YG Tryz.func97 (hc F6 (hc QK (hc abk (hc iL (hc alb hn)))))
def xM:=λb p e d c=>abn.cs (ash (λz1 z2 z3 z4=>⟨(λa (l:List Ins) (h:(l.length:Int)<1000) _=>(iB a l ah).1) z1 z2 z3 z4,(λa (l:List Ins) (h:(l.length:Int)<1000) _=>Qg (iB a l ah).2) z1 z2 z3 z4⟩) uH Ad aL Lb b p e d c:)
def abo:=mk YH Tryz.func99 (hc Qw (hc Qy (hc CP hn)))
def Af:=λm h=>abo.cs (auo rP rR kY m h:)
def alc:=mk YI Tryz.func162 hn
def Mx:=λn b c a d=>alc.cs (auu n b c a d:)
def ald:=mk YJ Tryz.func100 (hc rY (hc alc hn))
def Lc:=λb a=>ald.cs (auv gJ Mx b a:)
def ale:=mk YK Tryz.func101 (hc iL (hc C8 hn))
def F7:=λc b p ok hc e d a=>ale.cs (asi aL jP c b p ok hc e d a:)
def alf:=mk YL Tryz.func103 (hc iL hn)
def Ld:=λl b p a h e d c=>alf.cs (auw aL l b p a h e d c:)
def QL:=mk Pm Tryz.func58 (hc abo (hc F6 (hc ald (hc QK (hc iL (hc abg (hc abn (hc ale (hc alf hn)))))))))
def uI:=λm b p h d c a=>QL.cs (auy Af iB Lc uH aL Ac xM F7 Ld m b p h d c a:)
def abp:=mk YM Tryz.func189 hn
def BP:=λa b c=>abp.cs (asA a b c:)
def Le:=mk YN Tryz.func249 (hc o8 hn)
def oC:=λa=>Le.cs (aq3 eH a:)
def abq:=mk YO Tryz.func190 (hc Le hn)
def BQ:=abq.cs (arG oC:)
def QM:=mk YP Tryz.func302 hn
def rZ:=λa b c=>QM.cs (aq5 a b c:)
def alg:=mk YQ Tryz.func323 (hc o8 hn)
def MB:=λm hm=>alg.cs (aq6 eH m hm:)
def C9:=mk YR Tryz.func298 (hc alg (hc QM hn))
def lg:=λa b=>C9.cs (aq7 MB rZ a b:)
def alh:=mk YS Tryz.func317 hn
def MC:=λa=>alh.cs (ara a:)
def ali:=mk YT Tryz.func318 hn
def G8:=λa n b=>ali.cs (aq8 a n b:)
def abr:=mk YU Tryz.func292 (hc o8 (hc C9 (hc ali (hc alh hn))))
def BR:=λa n b=>abr.cs (arb eH lg G8 MC a n b:)
def Ag:=mk YV Tryz.func264 (hc QM hn)
def fZ:=λa b c=>Ag.cs (aq9 rZ a b c:)
def abt:=mk YW Tryz.func293 (hc Ag hn)
def BS:=λa b c=>abt.cs (ard fZ a b c:)
def alj:=mk YX Tryz.func250 (hc abr (hc abt hn))
def QN:=λa b=>alj.cs (arf BR BS a b:)
def uJ:=mk YZ Tryz.func259 hn
def fG:=λa b=>uJ.cs (arj a b:)
def abu:=mk Za Tryz.func294 (hc uJ hn)
def BU:=λa b=>abu.cs (arl fG a b:)
def alk:=mk Zb Tryz.func251 (hc abu hn)
def ME:=λa b=>alk.cs (arn BU a b:)
def QO:=mk Zc Tryz.func252 (hc abr (hc abt (hc abu hn)))
def wS:=λa t c d b=>QO.cs (aro BR BS BU a t c d b:)
def alm:=mk Zd Tryz.func253 hn
def TD:=λk l=>alm.cs (asD k l:)
def abv:=mk Ze Tryz.func254 (hc o8 hn)
def xO:=λa=>abv.cs (aq2 eH a:)
def abw:=mk Zf Tryz.func336 (hc QM (hc zL hn))
def BX:=λl m b hn hm a=>abw.cs (arv rZ gP l m b hn hm a:)
def abx:=mk Zg Tryz.func337 (hc uJ hn)
def Ep:=λa b=>abx.cs (ark fG a b:)
def aln:=mk Zh Tryz.func319 (hc C9 (hc abw (hc abx hn)))
def MF:=λa b c d=>aln.cs (arx lg BX Ep a b c d:)
def alo:=mk Zi Tryz.func320 (hc C9 (hc zL (hc uJ (hc zI hn))))
def G9:=λa n b=>alo.cs (arA lg gP fG jC a n b:)
def alp:=mk Zj Tryz.func338 hn
def Lf:=λa b d f c e=>alp.cs (arw a b d f c e:)
def alq:=mk Zk Tryz.func321 (hc C9 (hc zL (hc abw (hc alp (hc abx hn)))))
def MG:=λa b c d=>alq.cs (arz lg gP BX Lf Ep a b c d:)
def alr:=mk Zl Tryz.func295 (hc alq (hc aln (hc alo hn)))
def MH:=λa x y c b=>alr.cs (ars MG MF G9 a x y c b:)
def QS:=mk Zm Tryz.func299 (hc C9 hn)
def uK:=λa b=>QS.cs (ari lg a b:)
def als:=mk Zn Tryz.func322 (hc uJ hn)
def MI:=λa n y b=>als.cs (arp fG a n y b:)
def alu:=mk Zo Tryz.func296 (hc Ag (hc uJ (hc Kw (hc abv (hc QS (hc als hn))))))
def MJ:=λa x y c b=>alu.cs (arq fZ fG qI xO uK MI a x y c b:)
def alv:=mk Zp Tryz.func255 (hc Le (hc Ag (hc alr (hc alu (hc QO hn)))))
def TF:=λc x y t b f d e a=>alv.cs (aru oC fZ MH MJ wS c x y t b f d e a:)
def alx:=mk Zq Tryz.func297 hn
def Lg:=λl k a=>alx.cs (asE l k a:)
def aly:=mk Zr Tryz.func256 (hc Le (hc QO (hc alx hn)))
def Lh:=λl k t a b hk=>aly.cs (asF oC wS Lg l k t a b hk:)
def QT:=mk Zt Tryz.func258 (hc uJ hn)
def su:=λa b=>QT.cs (asC fG a b:)
def alz:=mk Zu Tryz.func257 (hc uJ (hc QT hn))
def Li:=λo x y r c a b=>alz.cs (asG fG su o x y r c a b:)
def alA:=mk Zv Tryz.func260 hn
def aby:=λb=>alA.cs (asI b:)
end Go.TX.F
end
noncomputable section
namespace Go.TX.F
open Go Go.AE Go.TX Go.TX.Seat Go.Proofs List
set_option maxRecDepth 100000
set_option maxHeartbeats 4000000
def alB:=mk Zw Tryz.func261 hn
def abz:=λb=>alB.cs (asJ b:)
def abA:=mk Zx Tryz.func300 hn
def Gw:=λs k=>abA.cs (asH s k:)
def alC:=mk Zy Tryz.func301 (hc QS (hc Ag (hc abA hn)))
def TG:=λs n c d b a=>alC.cs (asK uK fZ Gw s n c d b a:)
def alD:=mk Zz Tryz.func262 (hc QS (hc C9 (hc uJ (hc abA (hc alC (hc QT hn))))))
def MK:=λs n a=>alD.cs (asL uK lg fG Gw TG su s n a:)
def alE:=mk ZA Tryz.func191 (hc rY (hc Le (hc abv (hc alD (hc abq (hc alj (hc uJ (hc alk (hc alv (hc QO (hc aly (hc alz (hc alm (hc QT (hc alA (hc alB hn))))))))))))))))
def ML:=λt b a c=>alE.cs (asM gJ oC xO MK BQ QN fG ME TF wS Lh Li TD su aby abz t b a c:)
def abB:=mk ZB Tryz.func263 (hc Ag hn)
def Ah:=λa b c=>abB.cs (asO fZ a b c:)
def alF:=mk ZE Tryz.func265 (hc Ag (hc abB hn))
def Lj:=λa b c=>alF.cs (asP fZ Ah a b c:)
def alG:=mk ZF Tryz.func192 (hc Ag (hc alF (hc abB hn)))
def Ll:=λa b c=>alG.cs (asQ fZ Lj Ah a b c:)
def QU:=mk ZG Tryz.func137 (hc rY (hc abp (hc abq (hc alE (hc alG hn)))))
def sD:=λb c a hc=>QU.cs (asR gJ BP BQ ML Ll b c a hc:)
def alH:=mk ZH Tryz.func188 (hc Qy hn)
def Lm:=λw h=>alH.cs (atZ rR w h:)
def alI:=mk ZI Tryz.func135 (hc F6 (hc abd (hc alH (hc QU hn))))
def Hg:=λe a b=>alI.cs (at6 iB Ej Lm sD e a b:)
def abC:=mk ZJ Tryz.func136 hn
def xP:=λw mem d a hm c b=>abC.cs (atW w mem d a hm c b:)
def alJ:=mk ZK Tryz.func79 (hc alI (hc abC hn))
def QV:=λl mem h hm=>alJ.cs (at7 Hg xP l mem h hm:)
def alK:=mk ZL Tryz.func80 (hc QU hn)
def QW:=λl h=>alK.cs (asS sD l h:)
def F8:=mk ZM Tryz.func32 (hc alJ (hc alK (hc CP hn)))
def oD:=λe b a c=>F8.cs (aua QV QW kY e b a c:)
def QX:=mk ZN Tryz.func240 (hc C8 hn)
def qm:=λe a b=>QX.cs (atX jP e a b:)
def abD:=mk ZO Tryz.func241 (hc C8 hn)
def Ai:=λq b a=>abD.cs (asT jP q b a:)
def alL:=mk ZP Tryz.func181 (hc QX (hc abD (hc FR hn)))
def Lp:=λe b a c=>alL.cs (aue qm Ai lM e b a c:)
def abE:=mk ZQ Tryz.func187 (hc QX (hc abC hn))
def Aj:=λl mem h hm=>abE.cs (atY qm xP l mem h hm:)
def alM:=mk ZR Tryz.func183 (hc abE (hc aa1 (hc Kv hn)))
def Hl:=λe q d a c b=>alM.cs (aud Aj zO qH e q d a c b:)
def alN:=mk ZT Tryz.func242 hn
def Lr:=λl a h=>alN.cs (atV l a h:)
def alO:=mk ZU Tryz.func335 hn
def MN:=λb k e d c a=>alO.cs (aul b k e d c a:)
def alP:=mk ZV Tryz.func316 (hc rY (hc alO hn))
def MO:=λl b a=>alP.cs (auq gJ MN l b a:)
def alQ:=mk ZW Tryz.func287 (hc alP (hc QK hn))
def Ls:=λb a h c d=>alQ.cs (aur MO uH b a h c d:)
def alR:=mk ZX Tryz.func288 (hc abp hn)
def MQ:=λl b c h=>alR.cs (asB BP l b c h:)
def alS:=mk ZY Tryz.func289 (hc abD hn)
def MR:=λl q h b a=>alS.cs (asX Ai l q h b a:)
def alT:=mk Z0 Tryz.func243 (hc alR (hc alS (hc QU (hc alQ hn))))
def Ho:=λe b a h f d c=>alT.cs (aus MQ MR sD Ls e b a h f d c:)
def alU:=mk Z4 Tryz.func244 (hc QX hn)
def MU:=λl e h b a=>alU.cs (at0 qm l e h b a:)
def alV:=mk Z5 Tryz.func184 (hc abo (hc F6 (hc aaY (hc alN (hc alU (hc alT hn))))))
def Lu:=λe a f c g d b=>alV.cs (aut Af iB xC Lr MU Ho e a f c g d b:)
def alW:=mk Z6 Tryz.func185 (hc Kv hn)
def Lv:=λm q left size a c b=>alW.cs (auk qH m q left size a c b:)
def alX:=mk Z7 Tryz.func290 hn
def Lx:=λm b n h c a d=>alX.cs (aug m b n h c a d:)
def alY:=mk Z8 Tryz.func291 hn
def MV:=λb a n c e d=>alY.cs (auh b a n c e d:)
def alZ:=mk Z9 Tryz.func245 (hc alX (hc alY hn))
def LA:=λm b o x y hm a h c f d g e=>alZ.cs (aun Lx MV m b o x y hm a h c f d g e:)
def al0:=mk aac Tryz.func246 hn
def TH:=λl k=>al0.cs (atU l k:)
def al1:=mk aad Tryz.func247 (hc Kw hn)
def MW:=λm o x y h=>al1.cs (aui qI m o x y h:)
def al2:=mk aae Tryz.func248 hn
def TI:=λb v d c e a=>al2.cs (auj b v d c e a:)
def al3:=mk aaf Tryz.func186 (hc rY (hc CP (hc FR (hc al0 (hc alZ (hc al2 (hc al1 hn)))))))
def QY:=λb m d c a=>al3.cs (auz gJ kY lM TH LA TI MW b m d c a:)
def abF:=mk aag Tryz.func134 (hc abE (hc F8 (hc al3 (hc alL (hc alV (hc alM (hc alW (hc Kv hn))))))))
def Ak:=λe q left a d f b h c i g=>abF.cs (auA Aj oD QY Lp Lu Hl Lv qH e q left a d f b h c i g:)
def al4:=mk aah Tryz.func94 (hc akW (hc abF (hc aaU (hc aaZ (hc Qu (hc iL (hc aa0 (hc QL hn))))))))
def MX:=λb p d c a=>al4.cs (auD Mv Ak BD xD rM aL xE uI b p d c a:)
def abG:=mk aai Tryz.func57 (hc F6 (hc ajG (hc FQ (hc iL (hc Qv (hc abg (hc abn (hc al4 hn))))))))
def xQ:=λn b p d c a=>abG.cs (auN iB FU iV aL rO Ac xM MX n b p d c a:)
def LB:=mk aaj Tryz.func22 (hc aaS (hc iL (hc QL (hc abG hn))))
def jF:=λc hc a=>LB.cs (auV zH aL uI xQ c hc a:)
def NZ:=mk aiu Tryz.func23 (hc akF (hc akS (hc TA (hc akG hn))))
def kN:=λe q l a z b c d hn=>NZ.cs (azl qw rX qL qx e q l a z b c d hn:)
def al5:=mk aak Tryz.func5 (hc NV (hc TA (hc NZ (hc CZ (hc LB hn)))))
def sF:=λc hc=>al5.cs (au3 kG qL kN nH jF c hc:)
def avx:=λc hc=>(sF c hc).1
def avy:=λc hc=>(sF c hc).2
def al6:=mk aal Tryz.func6 (hc anL (hc aez (hc NV (hc NY (hc NZ (hc akK (hc KU (hc CZ (hc LB hn)))))))))
def xR:=λc hc=>al6.cs (au5 rV jL kG kM kN BK oq nH jF c hc:)
def avz:=λc hc=>(xR c hc).1
def avA:=λc hc=>(xR c hc).2
def al7:=mk aam Tryz.func7 (hc anL (hc aez (hc NV (hc NZ (hc akN (hc KU (hc CZ (hc LB hn))))))))
def xS:=λc hc=>al7.cs (au2 rV jL kG kN BL oq nH jF c hc:)
def avB:=λc hc=>(xS c hc).1
def avC:=λc hc=>(xS c hc).2
def al8:=mk aan Tryz.func78 (hc abF (hc QL hn))
def LC:=λe q n b p S a hn hc f d c=>al8.cs (auT Ak uI e q n b p S a hn hc f d c:)
def abH:=mk aao Tryz.func31 (hc F8 (hc Qu (hc aaS (hc FQ (hc iL (hc al8 (hc abG hn)))))))
def tV:=λc hc a=>abH.cs (auU oD rM zH iV aL LC xQ c hc a:)
def al9:=mk aap Tryz.func8 (hc aez (hc avw (hc NY (hc TA (hc akT (hc CZ (hc abH (hc F8 hn))))))))
def vK:=λc hc=>al9.cs (au0 jL zW kM qL BM nH tV oD c hc:)
def avD:=λc hc=>(vK c hc).1
def avE:=λc hc=>(vK c hc).2
def ama:=mk aaq Tryz.func34 (hc NZ hn)
def LD:=λe C a z b c hn=>ama.cs (auX kN e C a z b c hn:)
def amb:=mk aar Tryz.func9 (hc NZ (hc ama (hc abb (hc aa9 (hc CZ (hc LB (hc F8 hn)))))))
def tX:=λc hc=>amb.cs (au4 kN LD Aa BO nH jF oD c hc:)
def avF:=λc hc=>(tX c hc).1
def avG:=λc hc=>(tX c hc).2
def amc:=mk aas Tryz.func10 (hc akT (hc akV (hc CZ (hc abH (hc F8 hn)))))
def tY:=λc hc=>amc.cs (auZ BM QG nH tV oD c hc:)
def avH:=λc hc=>(tY c hc).1
def avI:=λc hc=>(tY c hc).2
end Go.TX.F
end
