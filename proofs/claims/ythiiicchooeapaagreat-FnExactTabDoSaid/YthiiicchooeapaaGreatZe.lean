/- Part 5 of a proof: what the last part needs. No condition. -/
import Derived.Test.YthiiicchooeapaaGreatZd
import Derived.ChangeSlices
import Derived.ChangeSame
import Derived.JoinedOf
import Derived.JoinedAt
import Derived.Handed
import Derived.Below
import Derived.Carry
import Derived.OpenShut
import Derived.ChangeKeysEq
import Derived.Deep.Slices
import Derived.Deep.Strs
import Derived.Test.YthiiicchooeapaaGreatY
set_option maxHeartbeats 1000000
set_option linter.all false
set_option linter.unusedSectionVars false
set_option linter.unusedVariables false
set_option linter.unusedSimpArgs false
namespace Go.TX.F
open Go Go.AE Go.TX
def ShK(l:List Cac):Prop:=l.length<1000/\∀x∈l,x.words.length<1000/\x.blk.ops.length<1000000/\x.blk.pc<=1000000
def ShK.at{l:List Cac}(h:ShK l)(i:Nat):(l.getD i default).words.length<1000/\(l.getD i default).blk.ops.length<1000000/\(l.getD i default).blk.pc<=1000000:=by
 by_cases c:i<l.length
 .rw [getD_lt c];exact h.2 _ (List.getElem_mem _)
 .rw [List.getD_eq_getElem?_getD,List.getElem?_eq_none ah];exact⟨by decide,by decide,by decide⟩
def ShX(l:List Cac):Prop:=l.length<1000000000/\∀x∈l,x.words.length<1000000000/\x.blk.ops.length<1000000000
def ShK.x{l:List Cac}(h:ShK l):ShX l:=⟨by have:=h.1;omega,λq g=>by have:=h.2 q g;omega⟩
def ShX.at{l:List Cac}(h:ShX l)(i:Nat):(l.getD i default).words.length<1000000000/\(l.getD i default).blk.ops.length<1000000000:=by
 by_cases c:i<l.length
 .rw [getD_lt c];exact h.2 _ (List.getElem_mem _)
 .rw [List.getD_eq_getElem?_getD,List.getElem?_eq_none ah];exact⟨by decide,by decide⟩
def ShK.sub{l r:List Cac}(h:ShK l)(n:r.length<1000)(s:∀x∈r,x∈l):ShK r:=⟨n,λx hx=>h.2 x (s x hx)⟩
def FC(l:List Cac)(pc k:Int):Prop:=(k= -1/\∀j:Int,0<=j->j<l.length->(((l).getD (j).toNat default)).blk.pc≠pc)\/(0<=k/\k<l.length/\(((l).getD (k).toNat default)).blk.pc=pc/\∀j:Int,0<=j->j<k->(((l).getD (j).toNat default)).blk.pc≠pc)
def FC.one{l:List Cac}{pc k m:Int}(h:FC l pc k)(g:FC l pc m):k=m:=by
 rcases h with⟨a,b⟩ | ⟨a,b,c,d⟩<;>rcases g with⟨a',b'⟩ | ⟨a',b',c',d'⟩
 all_goals grind
def There(w mem:List Int)(pc:Int):Prop:=∀k:Int,0<=k->k<w.length->pc+k<mem.length/\((mem).getD (pc+k).toNat default)=((w).getD (k).toNat default)
noncomputable def Ci (mem:List Int) (x:Cac):Bool:=bp (0<=x.blk.pc/\There x.words mem x.blk.pc)
def Cj{α:Type}{d:α}{P:α->Bool}{l:List α}{i:Int}(h0:0<=i)(h:i<l.length):(l.take (i+1).toNat).filter P=(l.take i.toNat).filter P++(if P (l.getD i.toNat d)=true then [l.getD i.toNat d]else []):=by
 rw [show(i+1).toNat=i.toNat+1 by omega,List.take_succ_eq_append_getElem ah,getD_lt ah,List.filter_append]
 grind
noncomputable def Qo:List Int->List Ins
 | []=> []
 | w::r=>if bp (Wo w/\mZ (rX w))=true then rX w::Qo r else []
def neP(pc:Int)(x:Cac):Bool:= !decide (x.blk.pc=pc)
def wQ(l:List Cac)(e:Cac):List Cac:=(l.filter (neP e.blk.pc)++ [e]).drop ((l.filter (neP e.blk.pc)).length+1-4)
def tJ(x:Cac):Prop:=(Qo x.words).length=x.words.length/\Fp x.blk.pc (Qo x.words)/\chk (lower x.blk.pc (Qo x.words)) x.blk=true
def afC(l:List Cac)(mem:List Int):Prop:=l.length<=4/\(∀j:Int,0<=j->j<l.length->tJ ((l).getD (j).toNat default)/\There (((l).getD (j).toNat default)).words mem (((l).getD (j).toNat default)).blk.pc)/\∀i j:Int,0<=i->i<j->j<l.length->(((l).getD (i).toNat default)).blk.pc≠(((l).getD (j).toNat default)).blk.pc
def Bq(e:Eng):Prop:=MOK e.bA/\afC e.cache e.bA.mem/\Fe e.iA
abbrev e12(e:Eng):List Int×Int×Int×Bool×Bool×Int×List Int×List Int×Int×List Cer×List Int×List Cac×Unit:=(e.bA.regs,e.bA.pc,e.bA.save,e.bA.wL,e.bA.waits,e.bA.halt,e.bA.ins,e.bA.outs,e.bA.count,e.iA,e.bA.mem,e.cache,())
def afD{m:dG}(h:MSh m)(ho:m.outs.length<900000000)(b:Bool):MSh (stS m b)/\(stS m b).outs.length<=m.outs.length+1/\(stS m b).ins.length<=m.ins.length:=by
 obtain⟨a1,a2,a3,a4⟩:=h;unfold stS;split
 .rename_i g;have ok:=dh.1 g;split
  .exact⟨⟨a1,a2,a3,a4⟩,Nat.le_succ _,Nat.le_refl _⟩
  .have k:=MJ ok (by have:=ok.ct;omega) b;have l:=YK m b;exact⟨⟨by rw [k.r4];omega,by have:=k.m64;omega,ah,ah⟩,l.2,l.1⟩
 .exact⟨⟨by decide,by decide,by decide,by decide⟩,Nat.zero_le _,Nat.zero_le _⟩
noncomputable def oD (e:Eng) (q:List Int):Eng:=⟨stS e.bA (bp (e.bA.count∈q)),e.cache.filter (Ci (stS e.bA (bp (e.bA.count∈q))).mem),e.iA⟩
def lvS(m:dG)(b:Blk)(n h:Int):dG:={m with pc:=b.pc+n,count:=m.count+n,halt:=h}
noncomputable def YO (m:dG) (q:List Int) (left size:Int):Bool:=bp (size<=left/\m.count<=1000000-size/\∀k:Int,1<=k->k<size->m.count+k∉q)
def evR(m:dG)(b:Blk)(o:IOp)(x y:Int):dG×Int×Bool:=
 if o.kind=7 then({m with outs:=m.outs++ [x]},0,false)
 else if o.kind=6 then({m with ins:=m.ins.drop 1},m.ins.getD 0 0,false)
 else if 64<=x then(lvS m b o.at_ 3,0,true)
 else if o.kind=4 then(m,((m.mem).getD (x).toNat default),false)
 else if b.pc+o.at_<x/\x<b.pc+b.len then(lvS {m with mem:=m.mem.set x.toNat y} b (o.at_+1) 0,0,true)
 else({m with mem:=m.mem.set x.toNat y},0,false)
noncomputable def iG (mem:List Int):Nat->Int->List Ins
 | 0,_=> []
 | n+1,p=>if bp (p<64/\(Wo ((mem).getD (p).toNat default)/\mZ (rX ((mem).getD (p).toNat default)))/\(rX ((mem).getD (p).toNat default)).op≠0)=true then(if bp (11<=(rX ((mem).getD (p).toNat default)).op/\(rX ((mem).getD (p).toNat default)).op<=13)=true then [rX ((mem).getD (p).toNat default)]else rX ((mem).getD (p).toNat default)::iG mem n (p+1))else []
noncomputable def findF (m:dG):List Ins:=if bp (MOK m)=true then iG m.mem 8 m.pc else []
def vF(mem:List Int):∀(n:Nat) (p:Int),(iG mem n p).length<=n/\(0< (iG mem n p).length->p+(iG mem n p).length<=64)/\
  ∀i:Nat,i< (iG mem n p).length->mZ ((iG mem n p).getD i default)/\((iG mem n p).getD i default).op≠0/\(11<=((iG mem n p).getD i default).op/\((iG mem n p).getD i default).op<=13->i+1=(iG mem n p).length)
 | 0,_=>⟨Nat.le_refl _,λh=>absurd h (by simp [iG]),λi hi=>absurd hi (by simp [iG])⟩
 | n+1,p=>by
  obtain⟨r1,r2,r3⟩:=vF mem n (p+1);unfold iG;split
  .rename_i g;obtain⟨g1,⟨g2,g3⟩,g4⟩:=dh.1 g;split
   all_goals grind
  simp_all
def MK(m:dG):(findF m).length<=8/\(0< (findF m).length->MOK m/\Fp m.pc (findF m)):=by
 unfold findF;split
 .rename_i g;have ok:=dh.1 g;have pw:0<=m.pc/\m.pc<=65535:=ok.pc;obtain⟨r1,r2,r3⟩:=vF m.mem 8 m.pc;exact⟨r1,λh=>⟨ok,⟨ah,ah⟩,⟨ah,by have:=r2 h;omega⟩,r3⟩⟩
 simp_all
noncomputable def mdF (b:Blk) (a:Ask):Blk×Bool:=if a.own=true then(Yu b,true)else if bp (ajN a.bytes)=true then(rdB a.bytes,true)else(Uf,false)
theorem afE{b:Blk}{a:Ask}(h:b.ops.length<1000000)(hl:a.bytes.length<1000000000):(mdF b a).1.ops.length<1000000:=by
 have L:=Ug b;unfold mdF;split
 .dsimp only;omega
 split
 .rename_i g;have:=(dh.1 g).1;show(afu _ _).length<_;unfold afu;grind
 .decide
noncomputable def rY (cs:List Cer) (b:Blk) (a:Ask):Blk×List Cer:=
 if(mdF b a).2=false then(b,cs)else if bp (ajK cs b (mdF b a).1)=true then((mdF b a).1,cs)else if chk b (mdF b a).1=true then((mdF b a).1,YE cs ⟨b,(mdF b a).1⟩)else(b,cs)
theorem abB{l:List Cer}{q:Cer}(h:ShC l)(h1:q.base.ops.length<1000000)(h2:q.made.ops.length<1000000):ShC (YE l q):=by
 unfold YE;have:=h.1;refine⟨by rw [List.length_drop,List.length_append,List.length_singleton];omega,λc hc=> ?_⟩;have:=List.mem_of_mem_drop hc;rw [List.mem_append,List.mem_singleton]at this;rcases this with g | rfl
 .exact h.2 c g
 .exact⟨h1,h2⟩
def abC{cs:List Cer}{b:Blk}{a:Ask}(h:ShC cs)(hb:b.ops.length<1000000)(hl:a.bytes.length<1000000000):(rY cs b a).1.ops.length<1000000/\ShC (rY cs b a).2:=by grind [afE,rY,abB]
def abD{cs:List Cer}{b:Blk}{a:Ask}(h:Fe cs):(rY cs b a).1=b\/chk b (rY cs b a).1=true:=by
 unfold rY;split
 .exact Or.inl rfl
 split
 .rename_i g;obtain⟨q,hq,q1,q2⟩:=dh.1 g;refine Or.inr ?_;have:=h.2 q hq;simp_all
 grind
def abE{l:List Cac}{e:Cac}(h:ShK l)(h1:e.words.length<1000)(h2:e.blk.ops.length<1000000)(h3:e.blk.pc<=1000000):ShK (wQ l e)/\0< (wQ l e).length:=by
 unfold wQ;have fl:=List.length_filter_le (neP e.blk.pc) l;refine⟨⟨by rw [List.length_drop,List.length_append,List.length_singleton];omega,λc hc=> ?_⟩,by rw [List.length_drop,List.length_append,List.length_singleton];omega⟩;have:=List.mem_of_mem_drop hc;rw [List.mem_append,List.mem_singleton]at this;rcases this with g | rfl
 .exact h.2 c (List.mem_filter.1 g).1
 .exact⟨h1,h2,h3⟩
def fcI(l:List Cac)(pc:Int):Int:=match l.findIdx? (λx=>decide (x.blk.pc=pc))with | some i=>i | none=> -1
def YP(l:List Cac)(pc:Int):FC l pc (fcI l pc):=by
 unfold fcI;split
 .rename_i i h;obtain⟨h1,h2,h3⟩:=List.findIdx?_eq_some_iff_getElem.1 h;refine Or.inr ⟨ah,ah,?_,λj j0 j1=> ?_⟩
  all_goals grind
 .rename_i h;rw [List.findIdx?_eq_none_iff]at h;refine Or.inl ⟨rfl,λj j0 j1=> ?_⟩;simp_all
noncomputable def kV (e:Eng) (a:Ask):Eng×Int×Bool:=
 if 0<=fcI e.cache e.bA.pc then(e,fcI e.cache e.bA.pc,false)else if(findF e.bA).length=0 then(e, -1,false)else
  (⟨e.bA,wQ e.cache ⟨(findF e.bA).map vN,(rY e.iA (lower e.bA.pc (findF e.bA)) a).1⟩,(rY e.iA (lower e.bA.pc (findF e.bA)) a).2⟩,((wQ e.cache ⟨(findF e.bA).map vN,(rY e.iA (lower e.bA.pc (findF e.bA)) a).1⟩).length:Int)-1,true)
structure SJ(b:Blk)(m0:dG)(i:Nat)(S:MS):Prop where
 r:RJ b m0 i S
 p:S.m.pc=m0.pc
 h:S.m.halt=m0.halt
 c:S.m.count=m0.count
abbrev yS(b:Blk)(i:Int)(S:MS):Int×Blk×Int×Int×Bool×Bool×Int×Int×Int×Int×Bool×Bool×Int×List Int×Int×List Int×List Int×List Int×List Int×Unit:=(i,b,0,0,false,false,0,0,S.m.pc,S.m.save,S.m.wL,S.m.waits,S.m.halt,S.m.ins,S.m.count,S.vals,S.m.regs,S.m.mem,S.m.outs,())
def SIv(b:Blk)(m0:dG)(y:Int×Blk×Int×Int×Bool×Bool×Int×Int×Int×Int×Bool×Bool×Int×List Int×Int×List Int×List Int×List Int×List Int×Unit):Prop:=∃(i:Nat) (S:MS),i<=b.ops.length/\SJ b m0 i S/\y=yS b i S
def SIv.next{b:Blk}{m0:dG}{i:Nat}{S:MS}{o:IOp}{y:Int×Blk×Int×Int×Bool×Bool×Int×Int×Int×Int×Bool×Bool×Int×List Int×Int×List Int×List Int×List Int×List Int×Unit}(h:SJ b m0 i S)(hi:i<b.ops.length)(ho:b.ops.getD i default=o)(k1:o.kind=1->0<=o.k/\o.k<=65535)
  (c1:¬((o.kind=4\/o.kind=5)/\64<=vx S o)) (c2:¬(o.kind=5/\b.pc+o.at_+1<=vx S o/\vx S o<=b.pc+b.len-1))
  (e:y=yS b ((i:Int)+1) ⟨mM S o,S.vals++ [mV S o],false⟩):SIv b m0 y/\(b.ops.length-y.1).toNat< (b.ops.length- (i:Int)).toNat:=by
 subst e;have k:=Si (s:=S) o;exact⟨⟨i+1,_,hi,⟨h.r.next hi ho k1 c1 c2,k.1.trans h.p,k.2.1.trans h.h,k.2.2.trans h.c⟩,rfl⟩,by dsimp only;omega⟩
def YQ{b:Blk}{m:dG}(h1:kR b)(h2:MOK m)(h:¬(m.halt≠0\/m.pc≠b.pc\/1000000-b.len<m.count)):Cg b m=(Qm b (b.ops.foldl (jV b) ⟨m,[],false⟩),true):=by
 unfold Cg;rw [if_pos (dO ⟨h1,h2⟩),if_neg h]
def ajP:Eng:=⟨abv,[],[]⟩
noncomputable def goE (e:Eng) (q:List Int) (left:Int) (a:Ask):Eng×Bool:=
 if(e.bA.waits=true\/e.bA.count∈q)/\e.bA.wL=true then(oD e q,false)
 else if(kV e a).2.1<0 then(oD (kV e a).1 q,(kV e a).2.2)
 else if YO e.bA q left ((((kV e a).1.cache).getD ((kV e a).2.1).toNat default)).blk.len=false then(oD (kV e a).1 q,(kV e a).2.2)
 else(⟨(Cg ((((kV e a).1.cache).getD ((kV e a).2.1).toNat default)).blk {e.bA with waits:=e.bA.waits || bp (e.bA.count∈q)}).1,(kV e a).1.cache.filter (Ci (Cg ((((kV e a).1.cache).getD ((kV e a).2.1).toNat default)).blk {e.bA with waits:=e.bA.waits || bp (e.bA.count∈q)}).1.mem),(kV e a).1.iA⟩,(kV e a).2.2)
noncomputable def Sj (e:Eng) (q:List Int) (left:Int) (a:Ask):Eng×Bool:=
 if bp (Bq e)=false then(ajP,false)else if e.bA.halt≠0\/left<1\/e.bA.count=1000000 then(e,false)else goE e q left a
theorem Sk:∀(r:List Ins) (n:Int) (b:Blk),(qX n b r).pc=b.pc/\(qX n b r).len=b.len
 | [],_,_=>⟨rfl,rfl⟩
 | i::r,n,b=>by
  have e:(nM n b i).pc=b.pc/\(nM n b i).len=b.len:=by grind [nM]
  have h:=Sk r (n+1) (nM n b i);exact⟨h.1.trans e.1,h.2.trans e.2⟩
def Ii{pc:Int}{l:List Ins}(h:Fp pc l):(lower pc l).pc=pc:=by grind [lower,dO,Sk,Fq]
theorem J3{b c:Blk}(h:chk b c=true):kR b/\kR c/\b.pc=c.pc/\b.len=c.len:=by
 have:=dh.1 h;simp_all
def Ij(l:List Cac)(e:Cac):((wQ l e).getD (((wQ l e).length:Int)-1).toNat default)=e:=by
 have n:(wQ l e).length=(l.filter (neP e.blk.pc)).length+1- ((l.filter (neP e.blk.pc)).length+1-4):=by unfold wQ;simp_all
 rw [n,getD_lt (by rw [n];omega)];unfold wQ;rw [List.getElem_drop,List.getElem_append_right ah];simp
def Ik(e:Eng)(a:Ask):(kV e a).1.bA=e.bA:=by grind [kV]
def abF{cs:List Cer}{b:Blk}{a:Ask}(h:cs.length<=3):(rY cs b a).2.length<=3:=by grind [rY,YE,List.length_drop,List.length_append,List.length_singleton]
structure FnS(e:Eng)(y:Eng×Int×Bool):Prop where
 l:y.1.cache.length<=e.cache.length+4/\(e.cache.length<=4->y.1.cache.length<=4)/\(e.iA.length<=3->y.1.iA.length<=3)
 w:(∀x∈e.cache,0<x.words.length)->∀x∈y.1.cache,0<x.words.length
 k:ShK y.1.cache
 c:ShC y.1.iA
 r:y.2.1<y.1.cache.length
 b:0<=y.2.1->kR (((y.1.cache).getD (y.2.1).toNat default)).blk/\(((y.1.cache).getD (y.2.1).toNat default)).blk.pc=e.bA.pc
def afF{e:Eng}{a:Ask}(h2:ShK e.cache)(h3:ShC e.iA)(ok:Bq e)(hl:a.bytes.length<1000000000):FnS e (kV e a):=by
 have B:=MK e.bA;have fc:=YP e.cache e.bA.pc;unfold kV;split
 .rename_i g;rcases fc with f | ⟨f1,f2,f3,_⟩
  .omega
  .exact⟨⟨Nat.le_add_right _ _,id,id⟩,id,h2,h3,f2,λ_=>⟨(J3 (ok.2.1.2.1 _ f1 f2).1.2.2).2.1,f3⟩⟩
 split
 .exact⟨⟨Nat.le_add_right _ _,id,id⟩,id,h2,h3,by dsimp only;omega,λg=>absurd (show(0:Int)<= -1 from g) (by decide)⟩
 .rename_i g;have bk:=(B.2 ah).2;have ir:=Fu bk;have sz:=ir.sz;have A:=abC (a:=a) h3 (show(lower e.bA.pc (findF e.bA)).ops.length<1000000 by omega) hl;have Q:=abD (a:=a) (b:=lower e.bA.pc (findF e.bA)) ok.2.2;have lpc:(lower e.bA.pc (findF e.bA)).pc=e.bA.pc:=Ii bk;have Z:kR (rY e.iA (lower e.bA.pc (findF e.bA)) a).1/\(rY e.iA (lower e.bA.pc (findF e.bA)) a).1.pc=e.bA.pc:=by grind [J3]
  have wl:((findF e.bA).map vN).length<1000:=by rw [List.length_map];omega
  have zp:=Z.1.pc;have zl:=Z.1.ln;have S:=abE h2 (e:=⟨(findF e.bA).map vN,(rY e.iA (lower e.bA.pc (findF e.bA)) a).1⟩) wl A.1 (by dsimp only;omega);have kl:(wQ e.cache ⟨(findF e.bA).map vN,(rY e.iA (lower e.bA.pc (findF e.bA)) a).1⟩).length<=4:=by
   unfold wQ;grind
  exact⟨⟨by dsimp only;omega,λ_=>kl,λz=>abF z⟩,λhw x hx=>by
   unfold wQ at hx;have hx:=List.mem_of_mem_drop hx;rw [List.mem_append,List.mem_singleton]at hx;rcases hx with hx | rfl
   .exact hw x (List.mem_filter.1 hx).1
   .show 0< ((findF e.bA).map vN).length;rw [List.length_map];omega,S.1,A.2,Int.sub_lt_self _ (by decide),λ_=>by rw [Ij];exact Z⟩
def Sl{l:List Cac}(h:ShK l)(P:Cac->Bool):ShK (l.filter P):=h.sub (Nat.lt_of_le_of_lt (List.length_filter_le _ _) h.1) λx hx=>(List.mem_filter.1 hx).1
abbrev e13(y:Eng×Bool):List Int×Int×Int×Bool×Bool×Int×List Int×List Int×Int×Bool×List Cer×List Int×List Cac×Unit:=(y.1.bA.regs,y.1.bA.pc,y.1.bA.save,y.1.bA.wL,y.1.bA.waits,y.1.bA.halt,y.1.bA.ins,y.1.bA.outs,y.1.bA.count,y.2,y.1.iA,y.1.bA.mem,y.1.cache,())
def YR{b:Blk}{m:dG}(hs:MSh m)(ho:m.outs.length<900000000):MSh (Cg b m).1/\(Cg b m).1.outs.length<=m.outs.length+48/\(Cg b m).1.ins.length<=m.ins.length:=by
 unfold Cg;split
 .rename_i g;have g:=dh.1 g;split
  .simp_all
  .have l:=J2 b b.ops ⟨m,[],false⟩;have sz:=g.1.sz
   grind [abw,Qm]
 .exact⟨⟨by decide,by decide,by decide,by decide⟩,Nat.zero_le _,Nat.zero_le _⟩
structure EgS(e:Eng)(n:Nat):Prop where
 m:MSh e.bA
 o:e.bA.outs.length<=n
 k:ShK e.cache
 c:ShC e.iA
 kl:e.cache.length<=4
 cl:e.iA.length<=3
 w:∀x∈e.cache,0<x.words.length
 v:∀x∈e.cache,0<=x.blk.pc/\x.blk.pc<e.bA.mem.length
def YS{l:List Cac}{mem:List Int}(w:∀x∈l,0<x.words.length):∀x∈l.filter (Ci mem),0<=x.blk.pc/\x.blk.pc<mem.length:=λx hx=>by
 have h:=List.mem_filter.1 hx;have d:=dh.1 (show bp _=true from h.2);have t:=d.2 0 (by decide) (by have:=w x h.1;omega);exact⟨d.1,ah⟩
def abG{e:Eng}{n:Nat}(h:EgS e n)(hn:n<700000000)(q:List Int)(left:Int){a:Ask}(hl:a.bytes.length<1000000000):EgS (Sj e q left a).1 (n+50):=by
 have ho:=h.o;unfold Sj;split
 .exact⟨⟨by decide,by decide,by decide,by decide⟩,Nat.zero_le _,⟨by decide,λx hx=>by cases hx⟩,⟨by decide,λx hx=>by cases hx⟩,by decide,by decide,(λx hx=>by cases hx),λx hx=>by cases hx⟩
 rename_i g;have ok:Bq e:=dh.1 (by simpa using g);split
 .exact⟨h.m,by have:=h.o;dsimp only;omega,h.k,h.c,h.kl,h.cl,h.w,h.v⟩
 have pl:∀y:Eng,y.bA=e.bA->ShK y.cache->ShC y.iA->y.cache.length<=4->y.iA.length<=3->(∀x∈y.cache,0<x.words.length)->EgS (oD y q) (n+50):=λy ym yk yc yl ym' yw=>by
  have s:=afD (m:=y.bA) (by rw [ym];exact h.m) (by rw [ym];omega) (bp (y.bA.count∈q));rw [ym]at s;exact⟨by unfold oD;rw [ym];exact s.1,by have:=s.2.1;unfold oD;rw [ym];dsimp only;omega,Sl yk _,yc,Nat.le_trans (List.length_filter_le _ _) yl,ym',λx hx=>yw x (List.mem_filter.1 hx).1,YS yw⟩
 have S:=afF h.k h.c ok hl;have fm:=Ik e a;unfold goE;split
 .exact pl e rfl h.k h.c h.kl h.cl h.w
 split
 .exact pl _ fm S.k S.c (S.l.2.1 h.kl) (S.l.2.2 h.cl) (S.w h.w)
 split
 .exact pl _ fm S.k S.c (S.l.2.1 h.kl) (S.l.2.2 h.cl) (S.w h.w)
 .have R:=YR (b:=((((kV e a).1.cache).getD ((kV e a).2.1).toNat default)).blk) (m:={e.bA with waits:=e.bA.waits || bp (e.bA.count∈q)}) h.m (by dsimp only;omega);exact⟨R.1,by have:=R.2.1;dsimp only at this ⊢;omega,Sl S.k _,S.c,Nat.le_trans (List.length_filter_le _ _) (S.l.2.1 h.kl),S.l.2.2 h.cl,λx hx=>S.w h.w x (List.mem_filter.1 hx).1,YS (S.w h.w)⟩
def ShK.nil:ShK []:=⟨by decide,λx hx=>by cases hx⟩
def ShC.nil:ShC []:=⟨by decide,λx hx=>by cases hx⟩
def ShK.add{l:List Cac}(h:ShK l)(n:l.length<999){x:Cac}(h1:x.words.length<1000)(h2:x.blk.ops.length<1000000)(h3:x.blk.pc<=1000000):ShK (l++ [x]):=by
 refine⟨by rw [List.length_append,List.length_singleton];omega,λc hc=> ?_⟩;rw [List.mem_append,List.mem_singleton]at hc;rcases hc with g | rfl
 .exact h.2 c g
 .exact⟨h1,h2,h3⟩
structure ML(P:Cac->Bool)(l L:List Cac)(i j:Int):Prop where
 i0:0<=i
 ij:i<=j
 jl:j<=l.length
 len:L.length=l.length
 a:L.take i.toNat=(l.take j.toNat).filter P
 b:∀k:Nat,j<=k->L.getD k default=l.getD k default
def ML.keep{P:Cac->Bool}{l L:List Cac}{i j:Int}(h:ML P l L i j)(hj:j<l.length)(hp:P ((L).getD (j).toNat default)=true):ML P l (L.set i.toNat ((L).getD (j).toNat default)) (i+1) (j+1):=by
 obtain⟨i0,ij,jl,len,a,b⟩:=h;have ej:((L).getD (j).toNat default)=((l).getD (j).toNat default):=b j.toNat ah;rw [ej]at hp ⊢;refine⟨ah,ah,ah,by rw [List.length_set];exact len,?_,λk hk=> ?_⟩
 .rw [Cj (d:=default) ah hj,if_pos hp,<-a,show(i+1).toNat=i.toNat+1 by omega,List.take_succ_eq_append_getElem (by rw [List.length_set];omega),List.getElem_set_self,List.take_set_of_le (Nat.le_refl _)]
 .rw [<-b k ah,List.getD_eq_getElem?_getD,List.getD_eq_getElem?_getD,List.getElem?_set_ne ah,<-List.getD_eq_getElem?_getD]
def ML.skip{P:Cac->Bool}{l L:List Cac}{i j:Int}(h:ML P l L i j)(hj:j<l.length)(hp:P ((L).getD (j).toNat default)=false):ML P l L i (j+1):=by
 obtain⟨i0,ij,jl,len,a,b⟩:=h;have ej:((L).getD (j).toNat default)=((l).getD (j).toNat default):=b j.toNat ah;rw [ej]at hp;refine⟨ah,ah,ah,len,?_,λk hk=>b k ah⟩;rw [Cj (d:=default) ah hj,if_neg (by rw [hp];decide),List.append_nil,a]
def ML.fin{P:Cac->Bool}{l L:List Cac}{i j:Int}(h:ML P l L i j)(hj:¬j<l.length):L.take i.toNat=l.filter P:=by
 rw [h.a,List.take_of_length_le (by have:=h.jl;omega)]
structure EoD(b:List Int)(p:Int)(y:Eng×List Int×Int×Unit):Prop where
 m:MSh y.1.bA
 o:y.1.bA.outs.length<=2000
 k:ShK y.1.cache
 kl:y.1.cache.length<=10
 c:ShC y.1.iA
 cl:y.1.iA.length<=10
 b:y.2.1=b
 lo:p<=y.2.2.1
 hi:y.2.2.1<=p+40000000
def ShK.set{l:List Cac}(h:ShK l)(i:Nat){x:Cac}(h1:x.words.length<1000)(h2:x.blk.ops.length<1000000)(h3:x.blk.pc<=1000000):ShK (l.set i x):=by
 refine⟨by rw [List.length_set];exact h.1,λc hc=> ?_⟩;rcases List.mem_or_eq_of_mem_set hc with g | rfl
 .exact h.2 c g
 .exact⟨h1,h2,h3⟩
def YT:∀w:List Int,Qo w=Ch w
 | []=>rfl
 | w::r=>by unfold Qo Ch;rw [YT r]
def tJ.e{x:Cac}(h:tJ x):afB x:=by
 unfold tJ at h;rw [YT]at h;exact⟨h.1,h.2.1,h.2.2⟩
def There.c{x:Cac}{mem:List Int}(p:0<=x.blk.pc)(h:There x.words mem x.blk.pc):ajO x mem:=⟨p,λt ht=>h t ah ah⟩
structure KpE(l:List Cac)(cs:List Cer):Prop where
 n:l.length<=4
 r:∀x∈l,tJ x
 u:l.Pairwise λa b=>a.blk.pc≠b.blk.pc
 p:Fe cs
def acK{e:Eng}(h:Bq e):KpE e.cache e.iA:=⟨h.2.1.1,λx hx=>by
 obtain⟨i,hi,rfl⟩:=List.getElem_of_mem hx;have k:=h.2.1.2.1 i ah ah;rw [show((i:Int)).toNat=i from rfl,getD_lt hi]at k;exact k.1,List.pairwise_iff_getElem.2 λi j hi hj hij=>by
 have k:=h.2.1.2.2 i j ah ah ah
 rwa [show((i:Int)).toNat=i from rfl,show((j:Int)).toNat=j from rfl,getD_lt hi,getD_lt hj]at k,h.2.2⟩
def YU{l:List Cac}{cs:List Cer}(h:KpE l cs){m:dG}(hm:MOK m):Bq ⟨m,l.filter (Ci m.mem),cs⟩:=by
 refine⟨hm,⟨Nat.le_trans (List.length_filter_le _ _) h.n,λj j0 j1=> ?_,λi j i0 ij j1=> ?_⟩,h.p⟩
 .rw [getD_lt (show j.toNat< (l.filter (Ci m.mem)).length by dsimp only at j1;omega)];have k:=List.mem_filter.1 (List.getElem_mem (show j.toNat< (l.filter (Ci m.mem)).length by dsimp only at j1;omega));exact⟨h.r _ k.1,(dh.1 (show bp _=true from k.2)).2⟩
 .dsimp only at j1 ⊢;rw [getD_lt (show i.toNat< (l.filter (Ci m.mem)).length by omega),getD_lt (show j.toNat< (l.filter (Ci m.mem)).length by omega)];exact List.pairwise_iff_getElem.1 (h.u.filter _) _ _ _ _ ah
def afG{cs:List Cer}{b:Blk}(hc:Fe cs)(hb:kR b)(a:Ask):chk b (rY cs b a).1=true/\Fe (rY cs b a).2:=by
 have s:chk b b=true:=by rw [YD,dO hb]
 unfold rY;split
 .exact⟨s,hc⟩
 split
 .rename_i g;obtain⟨q,q1,q2,q3⟩:=dh.1 g;have:=hc.2 q q1;rw [q2,q3]at this;exact⟨this,hc⟩
 split
 .rename_i g;refine⟨g,by unfold YE;rw [List.length_drop,List.length_append,List.length_singleton];omega,λq hq=> ?_⟩;have hq:=List.mem_of_mem_drop hq;rw [List.mem_append,List.mem_singleton]at hq;rcases hq with k | rfl
  .exact hc.2 q k
  .exact g
 .exact⟨s,hc⟩
def abH{l:List Cac}{cs cs':List Cer}(h:KpE l cs){x:Cac}(hx:tJ x)(hc:Fe cs'):KpE (wQ l x) cs':=by
 refine⟨?_,λy hy=> ?_,?_,hc⟩
 .unfold wQ;rw [List.length_drop,List.length_append,List.length_singleton];omega
 .have hy:=List.mem_of_mem_drop (show y∈List.drop _ _ from hy);rw [List.mem_append,List.mem_singleton]at hy;rcases hy with k | rfl
  .exact h.r y (List.mem_filter.1 k).1
  .exact hx
 .unfold wQ;refine List.Pairwise.sublist (List.drop_sublist _ _) ?_;rw [List.pairwise_append];refine⟨h.u.filter _,List.pairwise_singleton _ _,λa ha b hb=> ?_⟩;rw [List.mem_singleton]at hb;subst hb;have:=(List.mem_filter.1 ha).2;simpa [neP]using this
def MN(mem:List Int):∀(n:Nat) (p:Int),0<=p->∀t:Nat,t< (iG mem n p).length->((mem).getD (p+t).toNat default)=vN ((iG mem n p).getD t default)
 | 0,_,_,t,h=>absurd h (by simp [iG])
 | n+1,p,p0,t,h=>by
  unfold iG at h ⊢;split at h
  .rename_i g;rw [if_pos g];obtain⟨g1,⟨g2,g3⟩,g4⟩:=dh.1 g;have z:vN (rX ((mem).getD (p).toNat default))=((mem).getD (p).toNat default):=YN g2 g3;split at h
   .rename_i e;rw [if_pos e];have:t=0:=by simp at h;omega
    subst this;rw [show p+((0:Nat):Int)=p by omega];exact z.symm
   .rename_i e;rw [if_neg e];cases t with
    | zero=>rw [show p+((0:Nat):Int)=p by omega];exact z.symm
    | succ t=>
     have:=MN mem n (p+1) ah t (by simpa using h);rw [show p+((t+1:Nat):Int)=p+1+t by omega,this];rfl
  .exact absurd h (by simp)
def afH{e:Eng}(ok:Bq e)(a:Ask):KpE (kV e a).1.cache (kV e a).1.iA/\(0<=(kV e a).2.1->tJ ((((kV e a).1.cache).getD ((kV e a).2.1).toNat default))/\((((kV e a).1.cache).getD ((kV e a).2.1).toNat default)).blk.pc=e.bA.pc/\There ((((kV e a).1.cache).getD ((kV e a).2.1).toNat default)).words e.bA.mem e.bA.pc):=by
 have K:=acK ok;have fc:=YP e.cache e.bA.pc;have B:=MK e.bA;unfold kV;split
 .refine⟨K,λg=> ?_⟩;rcases fc with f | ⟨f1,f2,f3,_⟩
  .dsimp only at g;omega
  .have k:=ok.2.1.2.1 _ f1 f2;dsimp only;rw [f3]at k;exact⟨k.1,f3,k.2⟩
 split
 .exact⟨K,λg=>absurd (show(0:Int)<= -1 from g) (by decide)⟩
 .rename_i g;obtain⟨bm,bk⟩:=B.2 ah;have ir:=Fu bk;have A:=afG K.p ir a;have Q:=J3 A.1;have lp:=Ii bk;have al:∀i∈findF e.bA,mZ i:=λi hi=>by
   obtain⟨j,hj,rfl⟩:=List.getElem_of_mem hi;have:=(bk.ok j hj).1
   rwa [getD_lt hj]at this
  have tk:Qo ((findF e.bA).map vN)=findF e.bA:=by rw [YT,Ih al]
  have pc:(rY e.iA (lower e.bA.pc (findF e.bA)) a).1.pc=e.bA.pc:=by rw [<-Q.2.2.1,lp]
  have R:tJ ⟨(findF e.bA).map vN,(rY e.iA (lower e.bA.pc (findF e.bA)) a).1⟩:=by
   unfold tJ;dsimp only;rw [tk,pc,List.length_map];exact⟨rfl,bk,A.1⟩
  refine⟨abH K R A.2,λ_=> ?_⟩;dsimp only;rw [Ij];refine⟨R,pc,λk k0 k1=> ?_⟩;rw [List.length_map]at k1;have b1:=bk.pc;have m6:=bm.m64;refine⟨ah,?_⟩;have at':=MN e.bA.mem 8 e.bA.pc b1.1 k.toNat;unfold findF at k1 ⊢;rw [dO bm,if_pos rfl]at k1 ⊢;have at':=at' ah;rw [show((k.toNat:Nat):Int)=k by omega]at at';rw [at',getD_lt ah,getD_lt (by rw [List.length_map];omega),List.getElem_map]
def Ul{m:dG}{i:Ins}(g:m.halt=0):(exec m i).count=m.count+1/\(exec m i).halt<2\/2<=(exec m i).halt/\(exec m i).count=m.count:=by
 unfold exec;split
 .exact Or.inr ⟨show(2:Int)<=3 by decide,rfl⟩
 .refine Or.inl ⟨rfl,?_⟩;show(eff m i).halt<2;unfold eff
  repeat' split
  all_goals first | (dsimp only;omega) | omega
def Qp{m:dG}(g:m.halt=0)(b:Bool):(stepM m b).count=m.count+1/\(stepM m b).halt<2\/2<=(stepM m b).halt/\(stepM m b).count=m.count:=by
 obtain⟨_,_,e⟩:=Qn m b;have h:(smp m b).halt=0:=by unfold smp;split<;>exact g
 rw [Fv,<-e];split
 .exact Or.inr ⟨show(2:Int)<=4 by decide,rfl⟩
 split
 .exact Or.inr ⟨show(2:Int)<=2 by decide,rfl⟩
 .exact Ul h
def J4:Ask:=⟨true,[]⟩
noncomputable def abI (q:List Int) (d:Int):Nat->Eng->List Ask->Eng
 | 0,e,_=>e
 | f+1,e,l=>if e.bA.halt=0/\e.bA.count<1000000/\e.bA.count<d then abI q d f (goE e q (d-e.bA.count) (l.headD J4)).1 (if(goE e q (d-e.bA.count) (l.headD J4)).2=true then l.tail else l)else e
def MO(d:Int)(e:Eng):Nat:=(d-e.bA.count).toNat+(if e.bA.halt=0 then 1 else 0)
def ah9(l:List Int)(m:Int)(h:l.length<9223372036854775808)(h0:0<=m)(h1:m<=1048576):WU.F () (l,m,()) (λy=>y=(szL l.length m,())):=by
 dsimp only [WU,gm];simp (disch:=omega) only [RR];unfold szL;refine⟨λg=>by rw [if_pos g],λg=>by rw [if_neg ah]⟩
def aia(a b:List Int)(hlen:a.length<1000000000):XO.F () (a,b,()) (λy=>y=(bp (a=b),())):=by
 dsimp only [XO,gm];simp (disch:=omega) only [RR];refine⟨λh=> ?_,λh=> ?_⟩
 .rw [iN (λe=>h (by rw [e]))]
 have hl:a.length=b.length:=by omega
 refine aQ (λ(y:List Int×List Int×Int×Unit)=>y.1=a/\y.2.1=b/\0<=y.2.2.1/\y.2.2.1<=a.length/\All y.2.2.1 (λi=>a.getD i.toNat default=b.getD i.toNat default)) (λy=>(a.length-y.2.2.1).toNat) ⟨rfl,rfl,by simp,by simp,All.zero⟩ ?_;rintro⟨(l1:List Int),(l2:List Int),(i:Int),⟨⟩⟩ hI;dsimp only at hI ⊢;obtain⟨rfl,rfl,h1,h2,h3⟩:=hI;simp (disch:=omega) only [RR,dh,lT];refine⟨λh4=>⟨ah,ah,ah,ah,λh5=> ?_,λh5=>⟨⟨ah,ah,h3.snoc h5⟩,ah⟩⟩,λh4=> ?_⟩
 .rw [iN];intro e;rw [e]at h5;exact h5 rfl
 .rw [dO (JM hl (h3.le ah))]
abbrev ajQ(pp:List Int×Int×Unit->Bool)(ff:List Int×Int×Unit->Int×Unit):Prop:=∀l m,l.length<9223372036854775808->0<=m->m<=1048576->pp (l,m,())=true/\ff (l,m,())=(szL l.length m,())
def RTK(K:List Cac)(C:List Cer)(b:Blk)(m0:dG)(y:List IOp×Int×Int×Int×Int×Bool×Bool×Int×List Int×Int×List Cac×List Cer×List Int×List Int×Blk×List Int×List Int×Unit):Prop:=
 ∃(i:Nat) (S:MS),i<=b.ops.length/\RJ b m0 i S/\y=(b.ops,(b.ops.length:Int),(i:Int),S.m.pc,S.m.save,S.m.wL,S.m.waits,S.m.halt,S.m.ins,S.m.count,K,C,S.m.regs,S.m.mem,b,S.vals++List.replicate (b.ops.length-i) 0,S.m.outs,())
def RTK.next{K:List Cac}{C:List Cer}{b:Blk}{m0:dG}{i:Nat}{S:MS}{o:IOp}{y:List IOp×Int×Int×Int×Int×Bool×Bool×Int×List Int×Int×List Cac×List Cer×List Int×List Int×Blk×List Int×List Int×Unit}(h:RJ b m0 i S)(hi:i<b.ops.length)(ho:b.ops.getD i default=o)(k1:o.kind=1->0<=o.k/\o.k<=65535)
  (c1:¬((o.kind=4\/o.kind=5)/\64<=vx S o)) (c2:¬(o.kind=5/\b.pc+o.at_+1<=vx S o/\vx S o<=b.pc+b.len-1))
  (e:y=(b.ops,(b.ops.length:Int),(i:Int)+1,(mM S o).pc,(mM S o).save,(mM S o).wL,(mM S o).waits,(mM S o).halt,(mM S o).ins,(mM S o).count,K,C,(mM S o).regs,(mM S o).mem,b,(S.vals++ [mV S o])++List.replicate (b.ops.length- (i+1)) 0,(mM S o).outs,())):
  RTK K C b m0 y/\(b.ops.length-y.2.2.1).toNat< (b.ops.length- (i:Int)).toNat:=by
 subst e;exact⟨⟨i+1,_,hi,h.next hi ho k1 c1 c2,rfl⟩,by dsimp only;omega⟩
structure EgZ(e:Eng):Prop where
 m:MSh e.bA
 o:e.bA.outs.length<600000000
 k:ShK e.cache
 c:ShC e.iA
def AsK(l:List Ask):Prop:=l.length<1000000000/\∀a∈l,By a.bytes/\a.bytes.length<1000000000
def EgS.z{e:Eng}{n:Nat}(h:EgS e n)(hn:n<600000000):EgZ e:=⟨h.m,Nat.lt_of_le_of_lt h.o hn,h.k,h.c⟩
def afI{m:dG}(h:MOK m)(g0:m.halt=0)(g1:m.count<1000000)(b:Bool):stS m b=stepM m b:=by
 unfold stS;rw [dO h,if_pos rfl,if_neg ah]
def abJ{m:dG}{q:List Int}{l s:Int}(h:YO m q l s=true):s<=l/\m.count<=1000000-s/\¬∃n∈q,m.count+1<=n/\n<=m.count+s-1:=by
 obtain⟨h1,h2,h3⟩:=dh.1 h;exact⟨h1,h2,λ⟨n,n1,n2,n3⟩=>h3 (n-m.count) ah ah (by rwa [show m.count+(n-m.count)=n by omega])⟩
structure abK(b:Blk)(c:Int)(s:MS):Prop where
 ok:MOK s.m
 wv:Wos s.vals
 d:(s.left=false/\s.m.count=c/\s.m.halt=0/\s.m.pc=b.pc)\/(s.left=true/\((s.m.halt=0/\c<s.m.count/\s.m.count<=c+b.len)\/(s.m.halt=3/\c<=s.m.count/\s.m.count<c+b.len)))
def abL{b:Blk}{c:Int}{s:MS}{o:IOp}(hb:kR b)(hc:0<=c/\c+b.len<=1000000)(ho:evO o->0<=o.at_/\o.at_<b.len)(k1:o.kind=1->0<=o.k/\o.k<=65535)(h:abK b c s):abK b c (jV b s o):=by
 obtain⟨ok,wv,d⟩:=h;have bp':=hb.pc;have bl:=hb.ln;unfold jV;split
 .exact⟨ok,wv,d⟩
 rename_i nl;obtain⟨d1,d2,d3,d4⟩:=d.resolve_right λz=>nl z.1
 split
 .rename_i g;have a:=ho (by unfold evO;omega);exact⟨{ok with ha:=⟨show(0:Int)<=3 by decide,show(3:Int)<=4 by decide⟩,pc:=⟨show 0<=s.m.pc+o.at_ by omega,show s.m.pc+o.at_<=65535 by omega⟩,ct:=⟨show 0<=s.m.count+o.at_ by omega,show s.m.count+o.at_<=1000000 by omega⟩},wv,Or.inr ⟨rfl,Or.inr ⟨rfl,show c<=s.m.count+o.at_ by omega,show s.m.count+o.at_<c+b.len by omega⟩⟩⟩
 obtain⟨K1,K2,K3⟩:=Si (s:=s) o;have M:=acJ wv ok o;split
 .rename_i g;have a:=ho (by unfold evO;omega);exact⟨{M with ha:=M.ha,pc:=⟨show 0<=(mM s o).pc+(o.at_+1) by omega,show(mM s o).pc+(o.at_+1)<=65535 by omega⟩,ct:=⟨show 0<=(mM s o).count+(o.at_+1) by omega,show(mM s o).count+(o.at_+1)<=1000000 by omega⟩},wv,Or.inr ⟨rfl,Or.inl ⟨show(mM s o).halt=0 by omega,show c< (mM s o).count+(o.at_+1) by omega,show(mM s o).count+(o.at_+1)<=c+b.len by omega⟩⟩⟩
 .exact⟨M,wv.snoc (acI wv ok k1),Or.inl ⟨rfl,show(mM s o).count=c by omega,show(mM s o).halt=0 by omega,show(mM s o).pc=b.pc by omega⟩⟩
def Sn{b:Blk}{c:Int}(hb:kR b)(hc:0<=c/\c+b.len<=1000000):∀(l:List IOp) (s:MS),(∀o∈l,(evO o->0<=o.at_/\o.at_<b.len)/\(o.kind=1->0<=o.k/\o.k<=65535))->abK b c s->abK b c (l.foldl (jV b) s)
 | [],_,_,h=>h
 | o::l,s,ho,h=>Sn hb hc l _ (λx hx=>ho x (List.mem_cons_of_mem _ hx)) (abL hb hc (ho o (List.mem_cons_self ..)).1 (ho o (List.mem_cons_self ..)).2 h)
def afJ{b:Blk}{m:dG}(hb:kR b)(hm:MOK m)(g0:m.halt=0)(g1:m.pc=b.pc)(hc:m.count+b.len<=1000000){x:dG}(hx:Qm b (b.ops.foldl (jV b) ⟨m,[],false⟩)=x):MOK x/\1<=x.count-m.count+(if 2<=x.halt then 1 else 0)/\x.count-m.count+(if 2<=x.halt then 1 else 0)<=b.len:=by
 have cw:=hm.ct;have bl:=hb.ln;have bp':=hb.pc;have en:=hb.en;obtain⟨ok,wv,d⟩:=Sn hb ⟨cw.1,hc⟩ b.ops ⟨m,[],false⟩ (λo ho=>by
  obtain⟨i,hi,rfl⟩:=List.getElem_of_mem ho;have h:=hb.op i ah ah;rw [show((i:Int)).toNat=i from rfl,getD_lt hi]at h;exact⟨h.a1,h.k1⟩) ⟨hm,(by intro n hn;cases hn),Or.inl ⟨rfl,rfl,g0,g1⟩⟩
 generalize b.ops.foldl (jV b) ⟨m,[],false⟩=s at*;subst hx;unfold Qm;rcases d with⟨d1,d2,d3,d4⟩ | ⟨d1,d⟩
 .rw [d1,if_neg (by decide)];refine⟨{ok with pc:= ?_,ct:=⟨show 0<=s.m.count+b.len by omega,show s.m.count+b.len<=1000000 by omega⟩},?_⟩
  .show Wo (if b.fin=1 then b.k else if b.fin=2 then((s.vals).getD (b.x).toNat default)else if afw (b.fin-2) ((s.vals).getD (b.x).toNat default) ((s.vals).getD (b.y).toNat default)=true then b.k else b.pc+b.len);split
   .exact en.k1 ah
   split
   .exact wv.at _
   split
   .exact en.k1 ah
   .exact⟨ah,ah⟩
  .dsimp only;rw [d2,d3,if_neg (by decide)];omega
 .rw [d1,if_pos rfl];refine⟨ok,?_⟩;rcases d with⟨h1,h2,h3⟩ | ⟨h1,h2,h3⟩<;>rw [h1]
  .rw [if_neg (by decide)];omega
  .rw [if_pos (by decide)];omega
def afK{e:Eng}{q:List Int}{left:Int}(a:Ask)(ok:Bq e)(g0:e.bA.halt=0)(g1:e.bA.count<1000000)(l1:1<=left):Bq (goE e q left a).1/\1<=(goE e q left a).1.bA.count-e.bA.count+(if 2<=(goE e q left a).1.bA.halt then 1 else 0)/\(goE e q left a).1.bA.count-e.bA.count+(if 2<=(goE e q left a).1.bA.halt then 1 else 0)<=left:=by
 have hm:=ok.1;have pl:∀y:Eng,y.bA=e.bA->KpE y.cache y.iA->Bq (oD y q)/\1<=(oD y q).bA.count-e.bA.count+(if 2<=(oD y q).bA.halt then 1 else 0)/\(oD y q).bA.count-e.bA.count+(if 2<=(oD y q).bA.halt then 1 else 0)<=left:=λy ym yk=>by
  have so:=MJ hm g1 (bp (e.bA.count∈q));have sc:=Qp g0 (bp (e.bA.count∈q));unfold oD;rw [ym,afI hm g0 g1];refine⟨YU yk so,?_⟩;dsimp only;rcases sc with⟨s1,s2⟩ | ⟨s1,s2⟩
  .rw [if_neg ah];omega
  .rw [if_pos s1];omega
 obtain⟨K,F⟩:=afH ok a;have fm:=Ik e a;unfold goE;split
 .exact pl e rfl (acK ok)
 split
 .exact pl _ fm K
 rename_i n;split
 .exact pl _ fm K
 rename_i r;obtain⟨F1,F2,_⟩:=F ah;generalize ((((kV e a).1.cache).getD ((kV e a).2.1).toNat default))=x at*;have r:YO e.bA q left x.blk.len=true:=by simpa using r
 obtain⟨r1,r2,_⟩:=abJ r;have ir:=(J3 F1.2.2).2.1;have go:=YQ (b:=x.blk) (m:={e.bA with waits:=e.bA.waits || bp (e.bA.count∈q)}) ir {hm with} (by dsimp only;omega);have E:=afJ (b:=x.blk) (m:={e.bA with waits:=e.bA.waits || bp (e.bA.count∈q)}) ir {hm with} g0 F2.symm (by dsimp only;omega) rfl;rw [go];dsimp only at E ⊢;exact⟨YU K E.1,E.2.1,ah⟩
def YV{e:Eng}{q:List Int}{l:Int}{a:Ask}(ok:Bq e)(g0:e.bA.halt=0)(g1:e.bA.count<1000000)(h:1<=l):Sj e q l a=goE e q l a:=by
 unfold Sj;rw [dO ok,if_neg (by decide),if_neg ah]
def aib{e:Eng}{q:List Int}{l:Int}{a:Ask}{N:Nat}(S:EgS e N)(hN:N<700000000)(ok:Bq e)(g0:e.bA.halt=0)(g1:e.bA.count<1000000)(h:1<=l)(hl:a.bytes.length<1000000000):EgS (goE e q l a).1 (N+50):=by
 rw [<-YV ok g0 g1 h];exact abG S hN q l hl
structure RnI(e:Eng)(q:List Int)(n:Int)(l:List Ask)(x:Eng)(f:Nat)(r:List Ask):Prop where
 ok:Bq x
 s:EgS x (e.bA.outs.length+50*(n.toNat+1-f))
 o:MO (e.bA.count+n) x<=f
 fl:f<=n.toNat+1
 run:abI q (e.bA.count+n) f x r=abI q (e.bA.count+n) (n.toNat+1) e l
 a:AsK r
def AsK.hd{r:List Ask}(h:AsK r):By (r.headD J4).bytes/\(r.headD J4).bytes.length<1000000000:=by
 cases r with
 | nil=>exact⟨λx hx=>(by cases hx),by decide⟩
 | cons x r=>exact h.2 x (List.mem_cons_self ..)
def AsK.tl{r:List Ask}(h:AsK r):AsK r.tail:=⟨by have:=h.1;rw [List.length_tail];omega,λa ha=>h.2 a (List.mem_of_mem_tail ha)⟩
def RnI.z{e:Eng}{q:List Int}{n:Int}{l:List Ask}{x:Eng}{f:Nat}{r:List Ask}(R:RnI e q n l x f r)(ho:e.bA.outs.length<500000000)(hn:n<=400):EgZ x:=R.s.z ah
def RnI.step{e:Eng}{q:List Int}{n:Int}{l:List Ask}{x:Eng}{f:Nat}{r:List Ask}(R:RnI e q n l x f r)(ho:e.bA.outs.length<500000000)(hn:n<=400)(c:x.bA.halt=0/\x.bA.count<1000000/\x.bA.count<e.bA.count+n):
  RnI e q n l (goE x q (e.bA.count+n-x.bA.count) (r.headD J4)).1 (f-1) (if(goE x q (e.bA.count+n-x.bA.count) (r.headD J4)).2=true then r.tail else r)/\MO (e.bA.count+n) (goE x q (e.bA.count+n-x.bA.count) (r.headD J4)).1<MO (e.bA.count+n) x:=by
 obtain⟨c1,c2,c3⟩:=c;have o:=R.o;have fl:=R.fl;have off:MO (e.bA.count+n) x=(e.bA.count+n-x.bA.count).toNat+1:=by unfold MO;rw [if_pos c1]
 have S:=aib (q:=q) (l:=e.bA.count+n-x.bA.count) R.s ah R.ok c1 c2 ah R.a.hd.2;obtain⟨T,k1,kl⟩:=afK (r.headD J4) (q:=q) (left:=e.bA.count+n-x.bA.count) R.ok c1 c2 ah;have run:=R.run;obtain⟨g,rfl⟩:∃g,f=g+1:=⟨f-1,ah⟩;unfold abI at run;rw [if_pos ⟨c1,c2,c3⟩]at run;have lt:MO (e.bA.count+n) (goE x q (e.bA.count+n-x.bA.count) (r.headD J4)).1<MO (e.bA.count+n) x:=by
  rw [off];unfold MO;split
  .rename_i h0;rw [h0,if_neg (by decide)]at k1;omega
  .split at k1<;>omega
 refine⟨⟨T,?_,by rw [Nat.add_sub_cancel];omega,ah,by rw [Nat.add_sub_cancel];exact run,by split;exact R.a.tl;exact R.a⟩,lt⟩;rw [show e.bA.outs.length+50*(n.toNat+1- (g+1))+50=e.bA.outs.length+50*(n.toNat+1- (g+1-1)) by omega]at S;exact S
def EoD.z{b:List Int}{p:Int}{y:Eng×List Int×Int×Unit}(h:EoD b p y):EgZ y.1:=⟨h.m,by have:=h.o;omega,h.k,h.c⟩
def Vm{m:dG}{C:List Cer}(h:MOK m)(hC:Fe C):Bq ⟨m,[],C⟩:=YU (l:=[]) ⟨by decide,λx hx=>(by cases hx),List.Pairwise.nil,hC⟩ h
def sm{α:Type}(c:α->Int):List α->Int
 | []=>0
 | x::l=>c x+sm c l
def YW{α:Type}{c:α->Int}(l:List α){i:Nat}(h:l.length<=i):sm c (l.drop i)=0:=by rw [List.drop_eq_nil_of_le h];rfl
def Sq{α:Type}[Inhabited α]{c:α->Int}(l:List α){i:Nat}(h:i<l.length):sm c (l.drop i)=c (l.getD i default)+sm c (l.drop (i+1)):=by
 rw [List.drop_eq_getElem_cons h,getD_lt h];rfl
def Ck{α:Type}{c:α->Int}(h:∀x,0<=c x):∀l:List α,0<=sm c l
 | []=>Int.le_refl 0
 | x::l=>by have:=h x;have:=Ck h l;unfold sm;omega
def YX{α:Type}{c:α->Int}(h:∀x,0<=c x):∀(l:List α),∀x∈l,c x<=sm c l
 | y::l,x,hx=>by
  have h1:=h y;have h2:=Ck h l;unfold sm;rcases List.mem_cons.1 hx with rfl | hx
  .omega
  .have:=YX h l x hx;omega
def cO(m:aA):Int:=m.atoms.length
def cM(p:List aA):Int:=p.length+sm cO p
def cT(a:Atom):Int:=cM a.x+cM a.y
def cA(t:List Atom):Int:=t.length+sm cT t
def MQ(m:aA):0<=cO m:=Int.natCast_nonneg _
def qm(p:List aA):0<=cM p:=by have:=Ck MQ p;unfold cM;omega
def MR(a:Atom):0<=cT a:=by have:=qm a.x;have:=qm a.y;unfold cT;omega
def Sr(t:List Atom):0<=cA t:=by have:=Ck MR t;unfold cA;omega
def szZ{a:Int}{m:Int}(ha:0<=a)(hm:0<=m)(h:m<=1048576):(szL a m<0->szL a m= -1/\m<a)/\(0<=szL a m->szL a m=m-a/\szL a m<=1048576):=by
 unfold szL;split<;>exact⟨λ_=>by omega,λ_=>by omega⟩
def szA{a b m:Int}(h:0<=szL a m):szL (a+b) m=szL b (szL a m):=by
 have e:¬m-a<0:=λg=>by unfold szL at h;rw [if_pos g]at h;omega
 have e2:szL a m=m-a:=by unfold szL;rw [if_neg e]
 rw [e2];unfold szL;rw [show m- (a+b)=m-a-b by omega]
def szB{a b m:Int}(h:szL a m<0)(hb:0<=b)(hm:0<=m):szL (a+b) m= -1:=by
 unfold szL at h ⊢;split at h
 .rw [if_pos ah]
 .omega
def sz0{m:Int}(h:0<=m):szL 0 m=m:=by unfold szL;rw [if_neg ah];omega
abbrev UM(p:List aA):Prop:=p.length<9223372036854775808/\∀m∈p,m.atoms.length<9223372036854775808
abbrev UA(a:Atom):Prop:=UM a.x/\UM a.y
abbrev UT(t:List Atom):Prop:=t.length<9223372036854775808/\∀a∈t,UA a
def aic{p1 f1}(U1:ajQ p1 f1)(a:aA)(m:Int)(h:a.atoms.length<9223372036854775808)(h0:0<=m)(h1:m<=1048576):WW.F (p1,f1,()) (a,m,()) (λy=>y=(szL (cO a) m,())):=by
 dsimp only [WW,gm];simp (disch:=omega) only [RR,U1 _ m h h0 h1];unfold cO;exact⟨λg=>by rw [(afv h1).1 g],λ_=>rfl⟩
def aie{p1:aA×Int×Unit->Bool}{f1:aA×Int×Unit->Int×Unit}(U1:∀a m,a.atoms.length<9223372036854775808->0<=m->m<=1048576->p1 (a,m,())=true/\f1 (a,m,())=(szL (cO a) m,()))(l:List aA)(m:Int)(h:UM l)(h0:0<=m)(h1:m<=1048576):WX.F (p1,f1,()) (l,m,()) (λy=>y=(szL (cM l) m,())):=by
 obtain⟨hl,hq⟩:=h;dsimp only [WX,gm];simp (disch:=omega) only [RR];have nn:=Ck MQ;refine⟨λg=> ?_,λg=> ?_⟩
 .unfold szL cM;rw [if_pos (by have:=nn l;omega)]
 have e0:szL (cM l) m=szL (sm cO l) (m-l.length):=by unfold cM;rw [szA (by unfold szL;rw [if_neg ah];omega)];congr 1;unfold szL;rw [if_neg ah]
 rw [e0];refine aQ (λ(y:List aA×Int×Int×Unit)=>y.1=l/\0<=y.2.1/\y.2.1<=1048576/\0<=y.2.2.1/\y.2.2.1<=l.length/\szL (sm cO l) (m-l.length)=szL (sm cO (l.drop y.2.2.1.toNat)) y.2.1) (λy=>(l.length-y.2.2.1).toNat) ⟨rfl,by dsimp only;omega,by dsimp only;omega,by simp,by simp,rfl⟩ ?_;rintro⟨(l:List aA),(k:Int),(i:Int),⟨⟩⟩ hI;dsimp only at hI ⊢;obtain⟨rfl,k1,k2,i1,i2,e⟩:=hI;rw [e];by_cases c:i<l.length
 .have A:(((l).getD (i).toNat default)).atoms.length<9223372036854775808:=hq _ (fH i1 c);have s:=szZ (MQ (((l).getD (i).toNat default))) k1 k2;rw [Sq l ah];simp (disch:=omega) only [RR,c,U1 _ k A k1 k2];refine⟨i1,λg=>by rw [szB g (nn _) k1],λg=>⟨⟨ah,by have:=s.2 ah;omega,ah,ah,?_⟩,ah⟩⟩;rw [szA ah,show(i+1).toNat=i.toNat+1 by omega]
 .simp (disch:=omega) only [RR,c,YW l (show l.length<=i.toNat by omega),sz0]
abbrev aif(pp:List aA×Int×Unit->Bool)(ff:List aA×Int×Unit->Int×Unit):Prop:=∀l m,UM l->0<=m->m<=1048576->pp (l,m,())=true/\ff (l,m,())=(szL (cM l) m,())
def aii{p1 f1}(U1:aif p1 f1)(l:List aA)(m:Int)(h:UM l)(h0:0<=m)(h1:m<=1048576):WY.F (p1,f1,()) (l,m,()) (λy=>y=(szL (cM l) m,())):=by
 dsimp only [WY,gm];simp (disch:=omega) only [RR,U1 _ m h h0 h1];exact λg=>by rw [((szZ (qm l) h0 h1).1 g).1]
def aij{p1 f1}(U1:aif p1 f1)(a:Atom)(m:Int)(h:UA a)(h0:0<=m)(h1:m<=1048576):WZ.F (p1,f1,()) (a,m,()) (λy=>y=(szL (cT a) m,())):=by
 have s1:=szZ (qm a.x) h0 h1;have n2:=qm a.y;dsimp only [WZ,gm];simp (disch:=omega) only [RR,U1 _ m h.1 h0 h1];unfold cT;refine⟨λg=>by rw [szB g n2 h0],λg=> ?_⟩;obtain⟨u1,u2⟩:=s1.2 ah;have g':0<=szL (cM a.x) m:=by omega
 have s2:=szZ n2 g' u2;simp (disch:=omega) only [RR,U1 _ _ h.2 g' u2];rw [szA g'];exact⟨λg=>by rw [(s2.1 g).1],λ_=>rfl⟩
def aik{p1:Atom×Int×Unit->Bool}{f1:Atom×Int×Unit->Int×Unit}(U1:∀a m,UA a->0<=m->m<=1048576->p1 (a,m,())=true/\f1 (a,m,())=(szL (cT a) m,()))(l:List Atom)(m:Int)(h:UT l)(h0:0<=m)(h1:m<=1048576):W9.F (p1,f1,()) (l,m,()) (λy=>y=(szL (cA l) m,())):=by
 obtain⟨hl,hq⟩:=h;dsimp only [W9,gm];simp (disch:=omega) only [RR];have nn:=Ck MR;refine⟨λg=> ?_,λg=> ?_⟩
 .unfold szL cA;rw [if_pos (by have:=nn l;omega)]
 have e0:szL (cA l) m=szL (sm cT l) (m-l.length):=by unfold cA;rw [szA (by unfold szL;rw [if_neg ah];omega)];congr 1;unfold szL;rw [if_neg ah]
 rw [e0];refine aQ (λ(y:List Atom×Int×Int×Unit)=>y.1=l/\0<=y.2.1/\y.2.1<=1048576/\0<=y.2.2.1/\y.2.2.1<=l.length/\szL (sm cT l) (m-l.length)=szL (sm cT (l.drop y.2.2.1.toNat)) y.2.1) (λy=>(l.length-y.2.2.1).toNat) ⟨rfl,by dsimp only;omega,by dsimp only;omega,by simp,by simp,rfl⟩ ?_;rintro⟨(l:List Atom),(k:Int),(i:Int),⟨⟩⟩ hI;dsimp only at hI ⊢;obtain⟨rfl,k1,k2,i1,i2,e⟩:=hI;rw [e];by_cases c:i<l.length
 .have A:UA (((l).getD (i).toNat default)):=hq _ (fH i1 c);have s:=szZ (MR (((l).getD (i).toNat default))) k1 k2;rw [Sq l ah];simp (disch:=omega) only [RR,c,U1 _ k A k1 k2];refine⟨i1,λg=>by rw [szB g (nn _) k1],λg=>⟨⟨ah,by have:=s.2 ah;omega,ah,ah,?_⟩,ah⟩⟩;rw [szA ah,show(i+1).toNat=i.toNat+1 by omega]
 .simp (disch:=omega) only [RR,c,YW l (show l.length<=i.toNat by omega),sz0]
def ail{p1:List Atom×Int×Unit->Bool}{f1:List Atom×Int×Unit->Int×Unit}(U1:∀l m,UT l->0<=m->m<=1048576->p1 (l,m,())=true/\f1 (l,m,())=(szL (cA l) m,()))(l:List Atom)(m:Int)(h:UT l)(h0:0<=m)(h1:m<=1048576):Xa.F (p1,f1,()) (l,m,()) (λy=>y=(szL (cA l) m,())):=by
 dsimp only [Xa,gm];simp (disch:=omega) only [RR,U1 _ m h h0 h1];exact λg=>by rw [((szZ (Sr l) h0 h1).1 g).1]
def ain{p1 f1}(U1:Y32 p1 f1)(a b:aA)(h:a.atoms.length<1000000000):XP.F (p1,f1,()) (a,b,()) (λy=>y=(bp (a=b),())):=by
 dsimp only [XP,gm];simp (disch:=omega) only [RR,U1 _ b.atoms h,dh,lT];refine⟨λe=> ?_,λe=>⟨λf=> ?_,λf=> ?_⟩⟩
 .rw [iN (λg=>e (by rw [g]))]
 .rw [iN (λg=>f (by rw [g]))]
 .rw [dO (by cases a;cases b;dsimp only at e f;rw [e,f])]
def aio{p1:aA×aA×Unit->Bool}{f1:aA×aA×Unit->Bool×Unit}(U1:∀a b,a.atoms.length<1000000000->p1 (a,b,())=true/\f1 (a,b,())=(bp (a=b),()))(a b:List aA)(hD:Sh a):XQ.F (p1,f1,()) (a,b,()) (λy=>y=(bp (a=b),())):=by
 have hlen:=hD.1;dsimp only [XQ,gm];simp (disch:=omega) only [RR];refine⟨λh=> ?_,λh=> ?_⟩
 .rw [iN (λe=>h (by rw [e]))]
 have hl:a.length=b.length:=by omega
 refine aQ (λ(y:List aA×List aA×Int×Unit)=>y.1=a/\y.2.1=b/\0<=y.2.2.1/\y.2.2.1<=a.length/\All y.2.2.1 (λi=>a.getD i.toNat default=b.getD i.toNat default)) (λy=>(a.length-y.2.2.1).toNat) ⟨rfl,rfl,by simp,by simp,All.zero⟩ ?_;rintro⟨(l1:List aA),(l2:List aA),(i:Int),⟨⟩⟩ hI;dsimp only at hI ⊢;obtain⟨rfl,rfl,h1,h2,h3⟩:=hI;have A:=hD.at i.toNat;simp (disch:=omega) only [RR,U1 _ (((l2).getD (i).toNat default)) A,dh,lT];refine⟨λh4=>⟨ah,ah,ah,ah,λh5=> ?_,λh5=>⟨⟨ah,ah,h3.snoc h5⟩,ah⟩⟩,λh4=> ?_⟩
 .rw [iN];intro e;rw [e]at h5;exact h5 rfl
 .rw [dO (JM hl (h3.le ah))]
def aip{p1 f1}(U1:Y33 p1 f1)(a b:List aA)(hD:Sh a):XR.F (p1,f1,()) (a,b,()) (λy=>y=(bp (a=b),())):=by
 dsimp only [XR,gm];simp (disch:=omega) only [RR,U1 a b hD,dh,lT];refine⟨λh=>by rw [iN h],λh=>by rw [dO h]⟩
def aiq{p1 f1}(U1:Y33 p1 f1)(a b:Atom)(h:ShA a):XU.F (p1,f1,()) (a,b,()) (λy=>y=(bp (a=b),())):=by
 dsimp only [XU,gm];simp (disch:=omega) only [RR,U1 _ b.x h.1,U1 _ b.y h.2,dh,lT];refine⟨λe=> ?_,λe=>⟨λf=> ?_,λf=>⟨λg=> ?_,λg=>⟨λk=> ?_,λk=> ?_⟩⟩⟩⟩
 .rw [iN (λg=>e (by rw [g]))]
 .rw [iN (λg=>f (by rw [g]))]
 .rw [iN (λk=>g (by rw [k]))]
 .rw [iN (λg=>k (by rw [g]))]
 .rw [dO (by cases a;cases b;dsimp only at e f g k;rw [e,f,g,k])]
def air{p1:Atom×Atom×Unit->Bool}{f1:Atom×Atom×Unit->Bool×Unit}(U1:∀a b,ShA a->p1 (a,b,())=true/\f1 (a,b,())=(bp (a=b),()))(a b:List Atom)(hD:ShT a):XV.F (p1,f1,()) (a,b,()) (λy=>y=(bp (a=b),())):=by
 have hlen:=hD.1;dsimp only [XV,gm];simp (disch:=omega) only [RR];refine⟨λh=> ?_,λh=> ?_⟩
 .rw [iN (λe=>h (by rw [e]))]
 have hl:a.length=b.length:=by omega
 refine aQ (λ(y:List Atom×List Atom×Int×Unit)=>y.1=a/\y.2.1=b/\0<=y.2.2.1/\y.2.2.1<=a.length/\All y.2.2.1 (λi=>a.getD i.toNat default=b.getD i.toNat default)) (λy=>(a.length-y.2.2.1).toNat) ⟨rfl,rfl,by simp,by simp,All.zero⟩ ?_;rintro⟨(l1:List Atom),(l2:List Atom),(i:Int),⟨⟩⟩ hI;dsimp only at hI ⊢;obtain⟨rfl,rfl,h1,h2,h3⟩:=hI;have A:=hD.at i.toNat;simp (disch:=omega) only [RR,U1 _ (((l2).getD (i).toNat default)) A,dh,lT];refine⟨λh4=>⟨ah,ah,ah,ah,λh5=> ?_,λh5=>⟨⟨ah,ah,h3.snoc h5⟩,ah⟩⟩,λh4=> ?_⟩
 .rw [iN];intro e;rw [e]at h5;exact h5 rfl
 .rw [dO (JM hl (h3.le ah))]
def ais{p1 f1}(U1:Y48 p1 f1)(a b:List Atom)(hD:ShT a):XW.F (p1,f1,()) (a,b,()) (λy=>y=(bp (a=b),())):=by
 dsimp only [XW,gm];simp (disch:=omega) only [RR,U1 a b hD,dh,lT];refine⟨λh=>by rw [iN h],λh=>by rw [dO h]⟩
def ait(l:List Int)(k:Int)(h0:0<=k)(h1:k+ctI l<=4000000000000000000)(hm:l=mkI k l):XY.F () (l,k,()) (λy=>y=(k+ctI l,())):=by
 unfold ctI at h1 ⊢;dsimp only [XY,gm];simp (disch:=omega) only [RR];refine aQ (λ(y:List Int×Int×Int×Unit)=>y.1=l/\y.2.1=k+y.2.2.1/\0<=y.2.2.1/\y.2.2.1<=l.length) (λy=>(l.length-y.2.2.1).toNat) ⟨rfl,by dsimp only;omega,by simp,by simp⟩ ?_;rintro⟨(l:List Int),(q:Int),(i:Int),⟨⟩⟩ hI;dsimp only at hI ⊢;obtain⟨rfl,rfl,i1,i2⟩:=hI;by_cases c:i<l.length
 .have e:=Ov k l i.toNat ah;rw [<-hm]at e;have e':((l).getD (i).toNat default)=k+i:=by rw [e];omega
  simp (disch:=omega) only [RR,c,e'];omega
 .simp (disch:=omega) only [RR,c];rw [show i=l.length by omega]
def aiu{p1:List Int×Int×Unit->Bool}{f1:List Int×Int×Unit->Int×Unit}(U1:∀l k,0<=k->k+ctI l<=4000000000000000000->l=mkI k l->p1 (l,k,())=true/\f1 (l,k,())=(k+ctI l,()))(l:List aA)(k:Int)(h0:0<=k)(h1:k+ctM l<=4000000000000000000)(hm:l=mkM k l):XZ.F (p1,f1,()) (l,k,()) (λy=>y=(k+ctM l,())):=by
 dsimp only [XZ,gm];simp (disch:=omega) only [RR];have hl:=Rv l;refine aQ (λ(y:List aA×Int×Int×Unit)=>y.1=l/\y.2.1=k+nI l y.2.2.1.toNat/\0<=y.2.2.1/\y.2.2.1<=l.length) (λy=>(l.length-y.2.2.1).toNat) ⟨rfl,by simp [Hl],by simp,by simp⟩ ?_;rintro⟨(l:List aA),(q:Int),(i:Int),⟨⟩⟩ hI;dsimp only at hI ⊢;obtain⟨rfl,rfl,i1,i2⟩:=hI;by_cases c:i<l.length
 .have hi:i.toNat<l.length:=by omega
  have e:=Jr k l i.toNat hi;rw [<-hm,List.getElem?_eq_getElem hi,Option.some.injEq]at e;have g:((l).getD (i).toNat default)=l[i.toNat]:=getD_lt hi;have s:=AV l i.toNat hi;have b:=Jt l (i.toNat+1) ah;have n1:=Js l i.toNat;have n2:=ED (l[i.toNat]).atoms;rw [<-g]at e s n2;have e1:(((l).getD (i).toNat default)).bU=k+nI l i.toNat:=by rw [e]
  have e2:(((l).getD (i).toNat default)).atoms=mkI (k+nI l i.toNat+1) (((l).getD (i).toNat default)).atoms:=by
   have:=congrArg aA.atoms e;exact this
  obtain⟨hp,hf⟩:=U1 (((l).getD (i).toNat default)).atoms (k+nI l i.toNat+1) ah ah e2;simp (disch:=omega) only [RR,c,e1,hp,hf];rw [show(i+1).toNat=i.toNat+1 by omega];omega
 .simp (disch:=omega) only [RR,c];rw [show i.toNat=l.length by omega,EF]
abbrev aiv(pp:List aA×Int×Unit->Bool)(ff:List aA×Int×Unit->Int×Unit):Prop:=∀l k,0<=k->k+ctM l<=4000000000000000000->l=mkM k l->pp (l,k,())=true/\ff (l,k,())=(k+ctM l,())
def aiw{p1 f1}(U1:aiv p1 f1)(l:List aA)(k:Int)(h0:0<=k)(h1:k+ctM l<=4000000000000000000)(hm:l=mkM k l):X4.F (p1,f1,()) (l,k,()) (λy=>y=(k+ctM l,())):=by
 have:=jF l;dsimp only [X4,gm];simp (disch:=omega) only [RR,U1 l k h0 h1 hm];omega
def aix{p1 f1}(U1:aiv p1 f1)(l:List Atom)(k:Int)(h0:0<=k)(h1:k+ctA l<=4000000000000000000)(hm:l=mkA k l):X0.F (p1,f1,()) (l,k,()) (λy=>y=(k+ctA l,())):=by
 dsimp only [X0,gm];simp (disch:=omega) only [RR];have hl:=Rw l;refine aQ (λ(y:List Atom×Int×Int×Unit)=>y.1=l/\y.2.1=k+kD l y.2.2.1.toNat/\0<=y.2.2.1/\y.2.2.1<=l.length) (λy=>(l.length-y.2.2.1).toNat) ⟨rfl,by simp [Ho],by simp,by simp⟩ ?_;rintro⟨(l:List Atom),(q:Int),(i:Int),⟨⟩⟩ hI;dsimp only at hI ⊢;obtain⟨rfl,rfl,i1,i2⟩:=hI;by_cases c:i<l.length
 .have hi:i.toNat<l.length:=by omega
  have e:=Ju k l i.toNat hi;rw [<-hm,List.getElem?_eq_getElem hi,Option.some.injEq]at e;have g:((l).getD (i).toNat default)=l[i.toNat]:=getD_lt hi;have s:=AX l i.toNat hi;have b:=Jw l (i.toNat+1) ah;have n1:=Jv l i.toNat;have n2:=jF (l[i.toNat]).x;have n3:=jF (l[i.toNat]).y;rw [<-g]at e s n2 n3;have e0:(((l).getD (i).toNat default)).kind=k+kD l i.toNat:=by rw [e]
  have e1:(((l).getD (i).toNat default)).k=k+kD l i.toNat+1:=by rw [e]
  have e2:(((l).getD (i).toNat default)).x=mkM (k+kD l i.toNat+2) (((l).getD (i).toNat default)).x:=congrArg Atom.x e;have e3:(((l).getD (i).toNat default)).y=mkM (k+kD l i.toNat+2+ctM (((l).getD (i).toNat default)).x) (((l).getD (i).toNat default)).y:=congrArg Atom.y e;have a1:k+kD l i.toNat+1+1=k+kD l i.toNat+2:=by omega
  obtain⟨hp,hf⟩:=U1 (((l).getD (i).toNat default)).x (k+kD l i.toNat+2) ah ah e2;obtain⟨hp',hf'⟩:=U1 (((l).getD (i).toNat default)).y (k+kD l i.toNat+2+ctM (((l).getD (i).toNat default)).x) ah ah e3;simp (disch:=omega) only [RR,c,e0,e1,a1,hp,hf,hp',hf'];rw [show(i+1).toNat=i.toNat+1 by omega];omega
 .simp (disch:=omega) only [RR,c];rw [show i.toNat=l.length by omega,EG]
def aiy{p1:List Atom×Int×Unit->Bool}{f1:List Atom×Int×Unit->Int×Unit}(U1:∀l k,0<=k->k+ctA l<=4000000000000000000->l=mkA k l->p1 (l,k,())=true/\f1 (l,k,())=(k+ctA l,()))(l:List Atom)(k:Int)(h0:0<=k)(h1:k+ctA l<=4000000000000000000)(hm:l=mkA k l):X3.F (p1,f1,()) (l,k,()) (λy=>y=(k+ctA l,())):=by
 have:=AQ l;dsimp only [X3,gm];simp (disch:=omega) only [RR,U1 l k h0 h1 hm];omega
def J5:∀p:List aA,ctM p=cM p
 | []=>rfl
 | m::r=>by
  have:=J5 r;unfold cM at this ⊢;simp only [ctM,sm,List.length_cons,this];unfold cO ctI
  push_cast;omega
def YZ:∀t:List Atom,ctA t<=2*cA t
 | []=>by simp [ctA,cA,sm]
 | a::r=>by
  have:=YZ r;have h1:=qm a.x;have h2:=qm a.y;unfold cA at this ⊢;simp only [ctA,sm,List.length_cons,cT,J5]
  push_cast;omega
theorem Sv{p:List aA}(h:cM p<=1048576):Sh p:=by
 have h1:=Ck MQ p;unfold cM at h;refine⟨ah,λm hm=> ?_⟩;have h2:=YX MQ p m hm;have h3:cO m=m.atoms.length:=rfl;omega
theorem afL{t:List Atom}(h:cA t<=1048576):ShT t:=by
 have h1:=Ck MR t;unfold cA at h;refine⟨ah,λa ha=> ?_⟩;have h2:=YX MR t a ha;have h3:=qm a.x;have h4:=qm a.y;have h5:cT a=cM a.x+cM a.y:=rfl;exact⟨Sv ah,Sv ah⟩
def Y0:∀p:List aA,(∀m∈p,m.atoms.length<1000000000)->ctM p<=p.length*1000000000
 | [],_=>by simp [ctM]
 | m::r,h=>by
  have h1:=Y0 r λq hq=>h q (List.mem_cons_of_mem _ hq)
  have h2:=h m (List.mem_cons_self ..);simp only [ctM,List.length_cons,ctI]
  push_cast;omega
def afM{p:List aA}(h:Sh p):ctM p<=1000000000000000000:=by
 have:=Y0 p h.2;have:=h.1;omega
def Sw:∀(t s:List Atom),ctA (t++s)=ctA t+ctA s
 | [],s=>by simp [ctA]
 | a::r,s=>by simp only [List.cons_append,ctA,Sw r s];omega
theorem Za(t:List Atom)(op:Int)(x y:List aA):ctA (kM t op x y).1<=ctA t+2+ctM x+ctM y:=by
 have n1:=AQ t;have n2:=jF x;have n3:=jF y;have put:∀a b:List aA,ctM a+ctM b<=ctM x+ctM y->ctA (bY t ⟨4,op,a,b⟩).1<=ctA t+2+ctM x+ctM y:=λa b h=>by
  unfold bY;split
  .dsimp only;omega
  .split
   .dsimp only;omega
   .dsimp only;rw [Sw];simp only [ctA];omega
 have z:ctA []=0:=rfl;unfold kM;split
 .unfold tDo;split
  .dsimp only;omega
  .split
   .split
    .dsimp only;omega
    .exact put y x ah
   .split
    .dsimp only;omega
    .exact put x y ah
 .dsimp only;omega
end Go.TX.F
namespace Go.TX
open Go Go.AE
def enters_of{P:Program}{f:FuncId}{fn:Func}{c:Code}(hf:P.funcs[f]? =some fn)(hname:(fn.name== "runtime.NumGoroutine")=false)(hb:fn.body=some c):Enters P f:=by
 intro args w;have h1:fn.name≠ "runtime.NumGoroutine" :=by simpa using hname
 simp [callFunc,hf,h1,hb,mark]
def Sy(P:Program):Nat->List Field->Bool
 | _,[]=>true
 | k,f::fs=> !(f.name== "_")&&f.offset==k&& (match P.underlying f.type with | some (.int _)=>true | _=>false)&&Sy P (k+1) fs
def Sz{P:Program}(w:World)(d:Nat)(xs ys:List Int)(hl:xs.length=ys.length):∀(fs:List Field) (k:Nat),Sy P k fs=true->k+fs.length=xs.length->
  (Op.eqFields (d+1) (xs.map (Value.int .i64)).toArray (ys.map (Value.int .i64)).toArray fs).run P w= .ok (xs.drop k==ys.drop k) w
 | [],k,_,h2=>by
  rw [List.drop_eq_nil_of_le (show xs.length<=k by simp only [List.length_nil]at h2;omega),List.drop_eq_nil_of_le (show ys.length<=k by simp only [List.length_nil]at h2;omega)];simp [Op.eqFields]
 | f::fs,k,h1,h2=>by
  simp only [List.length_cons]at h2;simp only [Sy,Bool.and_eq_true,Bool.not_eq_true',beq_eq_false_iff_ne,beq_iff_eq]at h1;obtain⟨⟨⟨n1,n2⟩,n3⟩,n4⟩:=h1;have hk:k<xs.length:=by omega
  have hk':k<ys.length:=by omega
  obtain⟨kd,hu⟩:∃kd,P.underlying f.type=some (.int kd):=by
   cases hu:P.underlying f.type with
   | none=>rw [hu]at n3;cases n3
   | some z=>cases z<;>(first | exact⟨_,rfl⟩ | (rw [hu]at n3;cases n3))
  have pk:P.plainKey f.type=true:=by unfold Program.plainKey;rw [hu]
  have p1:=run_part_plain w pk (xs:=(xs.map (Value.int .i64)).toArray) (off:=f.offset) (v:= .int .i64 xs[k]) (by rw [n2];simp [hk]);have p2:=run_part_plain w pk (xs:=(ys.map (Value.int .i64)).toArray) (off:=f.offset) (v:= .int .i64 ys[k]) (by rw [n2];simp [hk']);have ih:=Sz w d xs ys hl fs (k+1) n4 ah;simp only [Op.eqFields,if_pos n1,Sem.run_bind,p1,p2,Result.andThen_ok,run_equalIn_int w d f.type .i64 kd _ _ hu];have e:(xs.drop k==ys.drop k)=((xs[k]==ys[k])&& (xs.drop (k+1)==ys.drop (k+1))):=by rw [List.drop_eq_getElem_cons hk,List.drop_eq_getElem_cons hk'];rfl
  rw [e];by_cases c:(xs[k]==ys[k])=true
  .rw [c];simp only [Bool.not_true,Bool.false_eq_true,if_false,ih,Bool.true_and]
  .have c2:(xs[k]==ys[k])=false:=by simpa using c
   rw [c2];simp only [Bool.not_false,if_true,Sem.run_pure,Bool.false_and]
def afN{P:Program}{t:TypeId}{n:Nat}(hu:P.underlying t=some (.struct (P.fieldsOf t)))(hs:P.stoodInHeld t=false)(hg:P.eqGuardType P.depth t=false)(hf:Sy P 0 (P.fieldsOf t).toList=true)(hn:(P.fieldsOf t).size=n)(xs ys:List Int)(hx:xs.length=n)(hy:ys.length=n)(w:World):
  (Op.equal t (.agg (xs.map (Value.int .i64)).toArray) (.agg (ys.map (Value.int .i64)).toArray)).run P w= .ok (xs==ys) w/\
  (eqGuard .eql t (.tmp 0) (.tmp 0) (.agg (xs.map (Value.int .i64)).toArray) (.agg (ys.map (Value.int .i64)).toArray)).run P w= .ok () w:=by
 refine⟨?_,run_eqGuard_agg w _ _ _ _ _ _ hg⟩;show(Op.equalIn (9999+1) t _ _).run P w=_;rw [run_equalIn_struct w 9999 t _ _ hu hs,Sz w 9998 xs ys ah _ 0 hf (by rw [Array.length_toList];omega)];rfl
noncomputable def never (s:Sig):Ct aV s:={pre:=λ_=>false,fn:=λ_=>Classical.choice (vG _)}
def mQ{E:Tab}{f:FuncId}{s:Sig}(h:Enters E.P f):bg E f (cu (never s)) where
 enters:=h
 calls:=by
  rintro args hh n K ⟨m,vs,h2,h3,h4,h5,cr,h6,h7,h8⟩;exfalso;unfold jS at h6;split at h6
  .split at h6
   .split at h6
    .split at h6
     .cases h6;have:=h7 false (List.mem_append_right _ (List.mem_singleton.2 rfl));cases this
     .cases h6
    .cases h6
   .cases h6
  .cases h6
def entry(W:World):Ctx:={K:=λ_ b=>b<W.heap.size,ν:=λ_=>none,n:=0}
def Qq(W:World):bR (entry W) W []:=
 ⟨λl o h=>(by cases h),λl o l' o' b h=>(by cases h),λf b ⟨l,o,h,_⟩=>(by cases h),λf b h=>h,λb h=>h⟩
def MU{W W':World}{c':Ctx}{h':Heap}(g:Grow (entry W) W [] c' W' h'):RowKit.Below W.heap.size W W':=
 ⟨g.os,g.tape,g.output,g.size,λk hk=>g.kept k hk λ⟨l,o,h,_⟩=>by cases h⟩
end Go.TX
namespace Go.TX
open Go Go.AE Go.ChangeShapes Go.WideShapes Go.ChangeAt
section
variable {H:Type} (enc:TypeId×Value->H) (P:Program) (W:World)
abbrev tr(fuel:Nat)(t:TypeId)(cs:List Value):Option (DataW H×List MemPlace):=DataW.trod enc P W 0 (λ_=>true) true fuel t cs
abbrev inW(W:World)(p:List MemPlace):Prop:=∀x∈p,x.block<W.heap.size
def EO(c:Co)(G:c.den->Prop)(t:TypeId):Prop:=∀fuel cs x,tr enc P W fuel t cs=some x->inW W x.2->∃z:c.den,F2 (dZ (λb=>b<W.heap.size) W) cs (c.row z)/\G z
variable {enc P W}
theorem afO{α β:Type}{R:α->β->Prop}{l:List α}{m:List β}(h:F2 R l m){j:Nat}(a:α)(b:β)(hj:j<m.length):R (l.getD j a) (m.getD j b):=by
 obtain⟨x,h1,h2⟩:=F2.get h (List.getElem?_eq_getElem hj);rw [List.getD_eq_getElem?_getD,h1,List.getD_eq_getElem?_getD,List.getElem?_eq_getElem hj];exact h2
theorem Il{c:Co}{G:c.den->Prop}{t e:TypeId}(ht:P.underlying t=some (.slice e))(hc:P.cellsOf e=c.size)(hs:0<c.size)(hE:EO enc P W c G e){fuel:Nat}{cs:List Value}{x:DataW H×List MemPlace}
  (h:tr enc P W fuel t cs=some x) (hp:inW W x.2):∃v xs,cs=[v]/\dZ (λb=>b<W.heap.size) W v (.rows c.size (bJ c xs))/\xs.length<9223372036854775808/\∀z∈xs,G z:=by
 rcases Deep.open_slice ht h with⟨rfl,rfl⟩ | ⟨a,len,cap,m,n,D,Pl,rfl,_,hl,hm,hmm,rfl,hx⟩
 .exact⟨_,[],rfl,.none _ _ _,Nat.zero_lt_of_ne_zero (by decide),λ_ h=>by cases h⟩
 have em:m=cap:=by simpa using hmm
 have each:∀i,i<len->∃q:List Value×c.den,W.cells? 0 (a.add (i*c.size)) c.size=some q.1/\F2 (dZ (λb=>b<W.heap.size) W) q.1 (c.row q.2)/\G q.2:=λi hi=>by
  obtain⟨cs',h1,h2⟩:=hx i ah;obtain⟨z,z1,z2⟩:=hE n cs' _ h2 (λp hp'=>hp p (List.mem_append_right _ (List.mem_flatMap.2 ⟨i,List.mem_range.2 ah,hp'⟩)));exact⟨(cs',z),by rw [<-hc];exact h1,z1,z2⟩
 obtain⟨q,hq⟩:=Deep.choose_lt each;have ml:(maxLen:Nat)=9223372036854775807:=by decide
 refine⟨_,(List.range len).map λi=>(q i).2,rfl,?_,by rw [List.length_map,List.length_range];omega,λz hz=> ?_⟩
 .by_cases h0:len=0
  .subst h0;exact .none _ _ _
  obtain⟨b,off,spot⟩:=a;have cell:∀i j,i<len->j<c.size->W.cell? (((⟨b,off,spot⟩:Addr).add (i*c.size)).add j)=(q i).1[j]? :=λi j hi hj=>(World.cells?_some (hq i hi).1).2.2 j hj
  have ql:∀i,i<len->(q i).1.length=c.size:=λi hi=>(World.cells?_some (hq i hi).1).2.1
  have hspot:spot=none:=by
   have:=cell 0 0 ah hs;rw [List.getElem?_eq_getElem (by rw [ql 0 ah];exact hs)]at this;simpa [Addr.add]using World.cell?_spot this
  subst hspot;have hbW:b<W.heap.size:=hp (.cell b (off+0)) (List.mem_append_left _ (MemPlace.mem_row.2 ⟨0,by rw [hc];exact Nat.mul_pos ah hs,rfl⟩));have len':(bJ c ((List.range len).map λi=>(q i).2)).length=len:=by rw [bJ,List.length_map,List.length_map,List.length_range]
  have hget:∀i,i<len->(bJ c ((List.range len).map λi=>(q i).2)).getD i []=c.row (q i).2:=λi hi=>by
   rw [List.getD_eq_getElem?_getD,bJ,List.map_map,List.getElem?_map,List.getElem?_range hi];rfl
  refine .rows b off cap c.size len _ (λi j=>(q i).1.getD j undef) hbW len'.symm hl (λi j hi hj=> ?_) (λi hi=> ?_) (λi j hi hj=> ?_)
  .rw [len']at hi;have:=cell i j hi hj;rw [add_plain,add_plain]at this;rw [this,List.getD_eq_getElem?_getD,List.getElem?_eq_getElem (by rw [ql i hi];exact hj)];rfl
  .rw [len']at hi;rw [hget i hi];exact sN c _
  .rw [len']at hi;unfold gd;rw [hget i hi];exact afO (hq i hi).2.1 _ _ (by rw [sN];exact hj)
 .obtain⟨i,hi,rfl⟩:=List.mem_map.1 hz;exact(hq i (List.mem_range.1 hi)).2.2
theorem f2c{α β:Type}{R:α->β->Prop}{a:α}{l:List α}{m:List β}(h:F2 R (a::l) m):∃b m',m=b::m'/\R a b/\F2 R l m':=by cases h with | cons h1 h2=>exact⟨_,_,rfl,h1,h2⟩
theorem f2n{α β:Type}{R:α->β->Prop}{m:List β}(h:F2 R [] m):m=[]:=by cases h;rfl
end
theorem J6{c:Ctx}{W:World}(hK:c.K false=λb=>b<W.heap.size){co:Co}{x:co.den}{cs:List Value}(h:F2 (dZ (λb=>b<W.heap.size) W) cs (co.row x)):bO c W (.agg cs.toArray) (.agg ((co.row x).map (.d false))):=by
 refine .agg _ _ ?_;rw [<-hK]at h;generalize co.row x=ds at h
 induction h with
 | nil=>exact .nil
 | cons h1 _ ih=>exact .cons (.d false _ _ h1) ih
end Go.TX
namespace Go.TX
open Go Go.AE Go.ChangeShapes Go.WideShapes Go.ChangeAt
section
variable {H:Type} {enc:TypeId×Value->H} {P:Program} {W:World}
theorem afP{t:TypeId}(ht:P.underlying t=some (.int .i64)):EO enc P W .i64 (λ_=>True) t:=by
 intro fuel cs x h _;obtain⟨n,rfl,rfl,_⟩:=DataW.trod_int ht h;exact⟨n,.cons (.int .i64 n) .nil,trivial⟩
def CP(enc:TypeId×Value->H)(P:Program)(W:World)(t:TypeId)(g:D->Prop):Prop:=∀fuel cs x,tr enc P W fuel t cs=some x->inW W x.2->∃v d,cs=[v]/\dZ (λb=>b<W.heap.size) W v d/\g d
def gI(d:D):Prop:=∃n,d= .int .i64 n
def gL(d:D):Prop:=∃xs:List Int,d= .rows 1 (bJ .i64 xs)/\xs.length<9223372036854775808
theorem afQ{t:TypeId}(ht:P.underlying t=some (.int .i64)):CP enc P W t gI:=by
 intro fuel cs x h _;obtain⟨n,rfl,rfl,_⟩:=DataW.trod_int ht h;exact⟨_,_,rfl,.int .i64 n,n,rfl⟩
theorem ajR{t e:TypeId}(ht:P.underlying t=some (.slice e))(he:P.underlying e=some (.int .i64))(hc:P.cellsOf e=1):CP enc P W t gL:=by
 intro fuel cs x h hp;obtain⟨v,xs,e,r,l,_⟩:=Il (c:= .i64) ht hc (by decide) (afP he) h hp;exact⟨v,_,e,r,xs,rfl,l⟩
def FL(enc:TypeId×Value->H)(P:Program)(W:World):Nat->List Field->List (D->Prop)->Prop
 | _,[],[]=>True
 | k,f::fs,g::gs=>f.offset=k/\P.cellsOf f.type=1/\CP enc P W f.type g/\FL enc P W (k+1) fs gs
 | _,_,_=>False
theorem FL.cons{k:Nat}{f:Field}{fs:List Field}{g:D->Prop}{gs:List (D->Prop)}(h1:f.offset=k)(h2:P.cellsOf f.type=1)(h3:CP enc P W f.type g)(h4:FL enc P W (k+1) fs gs):FL enc P W k (f::fs) (g::gs):=⟨h1,h2,h3,h4⟩
theorem FL.nil{k:Nat}:FL enc P W k [] []:=trivial
theorem wI{cs:List Value}{n:Nat}:∀(fs:List Field) (S:List (D->Prop)) (k:Nat) (xs:List (DataW H×List MemPlace)),FL enc P W k fs S->xs.length=fs.length->
  (∀(i:Nat) (f:Field),fs[i]? =some f->tr enc P W n f.type ((cs.drop f.offset).take (P.cellsOf f.type))=xs[i]?)->inW W (xs.flatMap (·.2))->cs.length=k+fs.length->
  ∃ds,F2 (dZ (λb=>b<W.heap.size) W) (cs.drop k) ds/\F2 (λg d=>g d) S ds
 | [],S,k,xs,h1,_,_,_,h5=>by
  cases S with
  | nil=>exact⟨[],by rw [List.drop_eq_nil_of_le (by simp at h5;omega)];exact .nil,.nil⟩
  | cons s S=>cases h1
 | f::fs,[],k,xs,h1,_,_,_,_=>by cases h1
 | f::fs,s::S,k,[],_,h2,_,_,_=>by cases h2
 | f::fs,s::S,k,y::xs,h1,h2,h3,h4,h5=>by
  obtain⟨a1,a2,a3,a4⟩:=h1;have b:=h3 0 f rfl;rw [a1,a2]at b;obtain⟨v,d,e,r1,r2⟩:=a3 n _ y b (λp hp=>h4 p (List.mem_flatMap.2 ⟨y,List.mem_cons_self ..,hp⟩));simp only [List.length_cons]at h5 h2;obtain⟨ds,i1,i2⟩:=wI fs S (k+1) xs a4 ah (λi g hg=>h3 (i+1) g hg) (λp hp=>h4 p (by rw [List.flatMap_cons];exact List.mem_append_right _ hp)) ah;have hk:k<cs.length:=by omega
  rw [List.drop_eq_getElem_cons hk]at e ⊢;rw [List.take_succ_cons,List.take_zero]at e;cases e;exact⟨d::ds,.cons r1 i1,.cons r2 i2⟩
end
end Go.TX
namespace Go.TX
open Go Go.AE Go.ChangeShapes Go.WideShapes Go.ChangeAt
abbrev OG(m:aA):Prop:=m.atoms.length<9223372036854775808
abbrev PG(p:List aA):Prop:=p.length<9223372036854775808/\∀m∈p,OG m
abbrev AG(a:Atom):Prop:=PG a.x/\PG a.y
abbrev TG(t:List Atom):Prop:=t.length<9223372036854775808/\∀a∈t,AG a
section
variable {H:Type} {enc:TypeId×Value->H} {P:Program} {W:World}
def gR(c:Co)(G:c.den->Prop)(d:D):Prop:=∃xs:List c.den,d= .rows c.size (bJ c xs)/\xs.length<9223372036854775808/\∀x∈xs,G x
theorem SA{c:Co}{G:c.den->Prop}{t e:TypeId}(ht:P.underlying t=some (.slice e))(hc:P.cellsOf e=c.size)(hs:0<c.size)(hE:EO enc P W c G e):CP enc P W t (gR c G):=by
 intro fuel cs x h hp;obtain⟨v,xs,e,r,l,g⟩:=Il (c:=c) ht hc hs hE h hp;exact⟨v,_,e,r,xs,rfl,l,g⟩
theorem afR{t tF:TypeId}{f:Field}{g:D->Prop}(ht:P.underlying t=some (.struct #[f]))(hn:P.cellsOf t=1)(hf:f.offset=0/\f.type=tF)(h1:P.cellsOf tF=1)(hF:CP enc P W tF g):CP enc P W t g:=by
 intro fuel cs x h hp;obtain⟨xs,n,_,rfl,hl,hlen,hf'⟩:=DataW.trod_struct ht h;obtain⟨ds,a1,a2⟩:=wI [f] [g] 0 xs ⟨hf.1,by rw [hf.2];exact h1,by rw [hf.2];exact hF,trivial⟩ hlen (λi g hi=>hf' i g (by simpa using hi)) hp (by rw [List.length_singleton,Nat.zero_add,<-hn];exact hl);obtain⟨d,m,rfl,hd,k⟩:=f2c a2;obtain rfl:=f2n k;rw [List.drop_zero]at a1;cases a1 with | cons r s=>cases s with | nil=>exact⟨_,d,rfl,r,hd⟩
theorem abM{t:TypeId}{fs:Array Field}(ht:P.underlying t=some (.struct fs))(hn:P.cellsOf t=fs.toList.length)(hf:FL enc P W 0 fs.toList [gI,gL]):EO enc P W .mono OG t:=by
 intro fuel cs x h hp;obtain⟨xs,n,_,rfl,hl,hlen,hf'⟩:=DataW.trod_struct ht h;obtain⟨ds,h1,h2⟩:=wI fs.toList _ 0 xs hf (by rw [hlen,Array.length_toList]) (λi f hi=>hf' i f (by rw [<-Array.getElem?_toList];exact hi)) hp ah;obtain⟨d0,m0,rfl,⟨n0,rfl⟩,k1⟩:=f2c h2;obtain⟨d1,m1,rfl,⟨l1,rfl,g1⟩,k2⟩:=f2c k1;obtain rfl:=f2n k2;exact⟨⟨n0,l1⟩,h1,g1⟩
theorem abN{t:TypeId}{fs:Array Field}(ht:P.underlying t=some (.struct fs))(hn:P.cellsOf t=fs.toList.length)(hf:FL enc P W 0 fs.toList [gI,gI,gR .mono OG,gR .mono OG]):EO enc P W .atom AG t:=by
 intro fuel cs x h hp;obtain⟨xs,n,_,rfl,hl,hlen,hf'⟩:=DataW.trod_struct ht h;obtain⟨ds,h1,h2⟩:=wI fs.toList _ 0 xs hf (by rw [hlen,Array.length_toList]) (λi f hi=>hf' i f (by rw [<-Array.getElem?_toList];exact hi)) hp ah;obtain⟨d0,m0,rfl,⟨n0,rfl⟩,k1⟩:=f2c h2;obtain⟨d1,m1,rfl,⟨n1,rfl⟩,k2⟩:=f2c k1;obtain⟨d2,m2,rfl,⟨p2,rfl,g2⟩,k3⟩:=f2c k2;obtain⟨d3,m3,rfl,⟨p3,rfl,g3⟩,k4⟩:=f2c k3;obtain rfl:=f2n k4;exact⟨⟨n0,n1,p2,p3⟩,h1,g2,g3⟩
theorem abO{t:TypeId}{fs:Array Field}(ht:P.underlying t=some (.struct fs))(hn:P.cellsOf t=fs.toList.length)(hf:FL enc P W 0 fs.toList [gR .mono OG]):EO enc P W .poly PG t:=by
 intro fuel cs x h hp;obtain⟨xs,n,_,rfl,hl,hlen,hf'⟩:=DataW.trod_struct ht h;obtain⟨ds,h1,h2⟩:=wI fs.toList _ 0 xs hf (by rw [hlen,Array.length_toList]) (λi f hi=>hf' i f (by rw [<-Array.getElem?_toList];exact hi)) hp ah;obtain⟨d0,m0,rfl,⟨p0,rfl,g0⟩,k1⟩:=f2c h2;obtain rfl:=f2n k1;exact⟨p0,h1,g0⟩
theorem afS{t:TypeId}{fs:Array Field}(ht:P.underlying t=some (.struct fs))(hn:P.cellsOf t=fs.toList.length)(hf:FL enc P W 0 fs.toList [gR .atom AG]):EO enc P W .tab TG t:=by
 intro fuel cs x h hp;obtain⟨xs,n,_,rfl,hl,hlen,hf'⟩:=DataW.trod_struct ht h;obtain⟨ds,h1,h2⟩:=wI fs.toList _ 0 xs hf (by rw [hlen,Array.length_toList]) (λi f hi=>hf' i f (by rw [<-Array.getElem?_toList];exact hi)) hp ah;obtain⟨d0,m0,rfl,⟨p0,rfl,g0⟩,k1⟩:=f2c h2;obtain rfl:=f2n k1;exact⟨p0,h1,g0⟩
end
end Go.TX
namespace Go.TX
open Go Go.AE
def Zb(A:List PV->Prop):Trans:=λargs h n K=>A args/\h=[]/\n=0/\∀f h' j,K (.c (.d f (.bool true))) h' j
def aiz{E:Tab}{f:FuncId}{A:List PV->Prop}(hc:bg E f (Zb A)){W:World}{vs:List Value}{args:List PV}(hv:F2 (bO (entry W) W) vs args)(hg:ni E (entry W) W)(ha:A args):
  Go.Calls E.P f vs.toArray W λe W'=>e= .returned (.bool true)/\RowKit.Below W.heap.size W W':=by
 refine(hc.calls args [] 0 (λr _ _=>∃f,r= .c (.d f (.bool true))) ⟨ha,rfl,rfl,λf _ _=>⟨f,rfl⟩⟩ (entry W) W vs rfl hv (Qq W) hg).mono ?_;rintro e W' he;cases e with
 | returned u=>
  obtain⟨c',r,h',j,g,_,_,h1,f,rfl⟩:=he;exact⟨by rw [jk h1],MU g⟩
 | outgrown=>exact he.elim
 | panicked _=>exact he.elim
end Go.TX
namespace Go.TX.Seat
open Go Go.AE Go.TX Go.TX.F Go.Proofs
set_option maxRecDepth 100000
theorem ajS:∀t n,E.ieq t=some n->∀(xs ys:List Int),xs.length=n->ys.length=n->∀w,
  (Op.equal t (.agg (xs.map (Value.int .i64)).toArray) (.agg (ys.map (Value.int .i64)).toArray)).run E.P w= .ok (xs==ys) w/\
  (eqGuard .eql t (.tmp 0) (.tmp 0) (.agg (xs.map (Value.int .i64)).toArray) (.agg (ys.map (Value.int .i64)).toArray)).run E.P w= .ok () w:=by
 intro t n h;obtain⟨c,hc,rfl⟩:∃c,ieq t=some c/\c.size=n:=by
  have h':(ieq t).map (λc=>c.size)=some n:=h;cases hi:ieq t with
  | none=>rw [hi]at h';cases h'
  | some c=>rw [hi]at h';cases h';exact⟨c,rfl,rfl⟩
 unfold ieq at hc;split at hc
 all_goals first | (cases hc;exact afN (by kernel_rfl) (by kernel_rfl) (by kernel_rfl) (by kernel_rfl) (by kernel_rfl)) | cases hc
theorem hE:bB E:=⟨ajE,ajS⟩
theorem ajT:∀t c,X.ieq t=some c->(c= .ins/\E.ieq t=some 4)\/(c= .iop/\E.ieq t=some 5):=by
 intro t c h;have h:ieq t=some c:=h;have e:E.ieq t=(ieq t).map λc=>c.size:=rfl
 rw [e,h];unfold ieq at h;split at h
 all_goals first | (cases h;first | exact Or.inl ⟨rfl,rfl⟩ | exact Or.inr ⟨rfl,rfl⟩) | cases h
theorem xok:XOK X E:=⟨rfl,λg c h=>(by
    first
    | (cases h;done)
    | (dsimp only [X] at h
       split at h
       · rename_i e;cases h;unfold E;dsimp only;rw [if_pos e];rfl
       · cases h)),ajT⟩
theorem hm:E.P.follows .mixedOrders=true:=by kernel_rfl
structure HL(l:List (Nat×Sig)) where
 C:Cs (std 0) l
 h:∀p∈csl (std 0) l C,bg E p.1 (cu p.2.2)
abbrev hn:HL []:=⟨(),λ_ h=>by cases h⟩
abbrev hk{f:FuncId}{s:Sig}{c:Ct aV s}{l:List (Nat×Sig)}(h:bg E f (cu c))(r:HL l):HL ((f,s)::l):=⟨(c.pre,c.fn,r.C),λp hp=>by
 rcases List.mem_cons.1 hp with rfl | hp
 .exact h
 .exact r.h p hp⟩
structure Mt{lk:bI}{s:Sig}{an:Ann}{fn:Func}{l:List (Nat×Sig)}(f:FuncId)(g:Gt lk X E an s fn l) where
 H:HL l
 k:Fn E f (g.F H.C) (cn (g.F H.C))
section
variable {lk:bI} {s:Sig} {an:Ann} {fn:Func} {l:List (Nat×Sig)} {f:FuncId}
@[irreducible] noncomputable def Mt.c {g:Gt lk X E an s fn l} (t:Mt f g):Ct aV s:=cn (g.F t.H.C)
theorem Mt.cs{g:Gt lk X E an s fn l}(t:Mt f g){x:jf s.inp}{Q:jf s.out->Prop}(h:g.F t.H.C x Q):t.c.pre x=true/\Q (t.c.fn x):=by unfold Mt.c;exact t.k.cs h
theorem Mt.ok{g:Gt lk X E an s fn l}(t:Mt f g):bg E f (cu t.c):=by unfold Mt.c;exact t.k.ok
@[reducible] noncomputable def hc {r:List (Nat×Sig)} {g:Gt lk X E an s fn l} (t:Mt f g) (h:HL r):HL ((f,s)::r):=hk t.ok h
theorem mkF(hf:E.P.funcs[f]? =some fn)(g:Gt lk X E an s fn l)(H:HL l)
 (hb:fn.body.isSome=true:=by rfl) (hn:(fn.name== "runtime.NumGoroutine")=false:=by kernel_rfl):Fn E f (g.F H.C) (cn (g.F H.C)):=ajv hE xok hm hf hb (λ_=>enters_of hf hn) H.h (g.h H.C)
noncomputable def mk (g:Gt lk X E an s fn l) (hf:E.P.funcs[f]? =some fn) (H:HL l)
 (hb:fn.body.isSome=true:=by rfl) (hn:(fn.name== "runtime.NumGoroutine")=false:=by kernel_rfl):Mt f g:=⟨H,mkF hf g H hb hn⟩
end
theorem Zc{E:Tab}{f:FuncId}{c:Ct aV {args:=[.c (.int .u64)],objs:=[],res:=[.c (.int .i64)],fZ:=[]}}{g:Int->Int}(hent:Enters E.P f)(hg:(λx:Int=>(c.fn (x,())).1)=g)
  (h:∀(x:Int) (w:World),c.pre (x,())=true->Go.Calls E.P f #[.int .u64 x] w λe w'=>e= .returned (.int .i64 (g x))/\w'=w):bg E f (cu c) where
 enters:=hent
 calls:=by
  rintro args hh n K ⟨m,qs,hs,hargs,HR,hlen,cr,hcall,aaB,v,kT,hvk,hK⟩ c1 w vs hcn rQ Hh Gl;have key:∀f0 (x:Int),qs=[.c (.d f0 (.int .u64 x))]->jS (std m) hs {args:=[.c (.int .u64)],objs:=[],res:=[.c (.int .i64)],fZ:=[]} c qs=some {ck:=[c.pre (x,())],ts:=[.i],y:=c.fn (x,()),touched:=[],pure:=true,k:=λy=>some (.c (.d true (.int .i64 y.1)),hs)}:=by
   intro f0 x e;subst e;rfl
  have hq:∃f0 x,qs=[.c (.d f0 (.int .u64 x))]:=by
   unfold jS at hcall;cases qs with
   | nil=>simp [qD]at hcall
   | cons q r=>
    cases r with
    | cons q2 r2=>
     exfalso;simp only [qD]at hcall;cases hx:FU (std m) hs (.c (.int .u64)) q (es0 (std m) 0 [])with
     | none=>rw [hx]at hcall;simp at hcall
     | some s=>rw [hx]at hcall;simp [qD]at hcall
    | nil=>
     simp only [qD]at hcall;cases q with
     | c y=>
      simp only [FU,extC]at hcall;cases y with
      | d f0 y=>
       cases y with
       | int k x=>
        by_cases hk:IntKind.u64=k
        .subst hk;exact⟨f0,x,rfl⟩
        .simp [hk]at hcall
       | _=>simp at hcall
      | _=>simp at hcall
     | _=>simp [FU]at hcall
  obtain⟨f0,x,rfl⟩:=hq;rw [key f0 x rfl]at hcall;simp only [Option.some.injEq]at hcall;subst hcall;simp only [Option.some.injEq,Prod.mk.injEq]at hvk;obtain⟨rfl,rfl⟩:=hvk;have hpre:=aaB _ (List.mem_singleton.2 rfl);have hv:vs=[.int .u64 x]:=by
   cases hargs with
   | cons h1 h2=>
    cases h2;cases rQ with
    | cons h3 h4=>
     cases h4;cases h1 with
     | one h1=>
      cases h1 with
      | c h1=>
       cases h1 with
       | d h5 _=>
        subst h5;cases h3 with
        | c _ _ h6=>cases h6 with
         | d _ _ _ h7=>cases h7;rfl
      | agg h1=>cases h1
  subst hv;refine(h x w hpre).mono ?_;rintro e w' ⟨rfl,rfl⟩;refine⟨c1,.c (.d true (.int .i64 (g x))),hh,0,.refl _ _ _,Hh,hcn,.c _ _ (.d _ _ _ (.int _ _)),hK _ _ _ ?_ HR (.refl _ _ _) hlen⟩;rw [<-hg];exact .one (.c (.d rfl λ_=> .inl rfl))
end Go.TX.Seat
noncomputable section
namespace Go.TX.F
open Go Go.AE Go.TX Go.TX.Seat Go.Proofs
set_option maxRecDepth 100000
set_option maxHeartbeats 4000000
def acL:=mk WU Tryz.func125 hn
def FX:=λl m h h0 h1=>acL.cs (ah9 l m h h0 h1:)
def acM:=mk WW Tryz.func81 (hc acL hn)
def Br:=λa m h h0 h1=>acM.cs (aic FX a m h h0 h1:)
def acN:=mk WX Tryz.func27 (hc acM hn)
def zL:=λl m h h0 h1=>acN.cs (aie Br l m h h0 h1:)
def Zd:=mk WY Tryz.func6 (hc acN hn)
def rZ:=λl m h h0 h1=>Zd.cs (aii zL l m h h0 h1:)
def acO:=mk WZ Tryz.func80 (hc Zd hn)
def Bt:=λa m h h0 h1=>acO.cs (aij rZ a m h h0 h1:)
def acP:=mk W9 Tryz.func26 (hc acO hn)
def zN:=λl m h h0 h1=>acP.cs (aik Bt l m h h0 h1:)
def acQ:=mk Xa Tryz.func5 (hc acP hn)
def CF:=λl m h h0 h1=>acQ.cs (ail zN l m h h0 h1:)
def Bu:=mk OT Tryz.func29 hn
def oh:=λa b c=>Bu.cs (aeO a b c:)
def Ze:=mk OU Tryz.func127 (hc Bu hn)
def FY:=λm hm=>Ze.cs (aeU oh m hm:)
def J7:=mk OV Tryz.func128 hn
def qo:=λa b ha=>J7.cs (aeT a b ha:)
def yj:=mk OW Tryz.func84 (hc Ze (hc J7 hn))
def kH:=λa ha=>yj.cs (aeV FY qo a ha:)
def Qr:=mk OX Tryz.func85 hn
def tZ:=λa n ha=>Qr.cs (aeW a n ha:)
def Zf:=mk OY Tryz.func126 hn
def FZ:=λa=>Zf.cs (aeY a:)
def Qs:=mk OZ Tryz.func82 (hc Bu (hc yj (hc Qr (hc Zf hn))))
def wZ:=λa n ha=>Qs.cs (aeZ oh kH tZ FZ a n ha:)
def J8:=mk O1 Tryz.func88 (hc J7 hn)
def oF:=λa b ha=>J8.cs (aeX qo a b ha:)
def Qt:=mk O4 Tryz.func83 (hc J8 hn)
def w9:=λa b ha=>Qt.cs (ae0 oF a b ha:)
def Zg:=mk O5 Tryz.func28 (hc Qs (hc Qt hn))
def J9:=λa ha=>Zg.cs (ae1 wZ w9 a ha:)
def Zh:=mk O6 Tryz.func30 (hc yj (hc Qr hn))
def F3:=λx y n hx hy=>Zh.cs (ae2 kH tZ x y n hx hy:)
def Bv:=mk O7 Tryz.func58 hn
def kW:=λa ha=>Bv.cs (ae5 a ha:)
def Qu:=mk O8 Tryz.func89 (hc Bv hn)
def xg:=λa ha=>Qu.cs (ae7 kW a ha:)
def Zi:=mk O9 Tryz.func51 (hc Qs (hc Qt (hc Qu hn)))
def Ka:=λa t ha ht hok=>Zi.cs (ae9 wZ w9 xg a t ha ht hok:)
def Zj:=mk Pb Tryz.func52 (hc Bu hn)
def Fw:=λa=>Zj.cs (aeR oh a:)
def Fx:=mk Pf Tryz.func158 hn
def mR:=λa=>Fx.cs (aeS a:)
def Qv:=mk Ph Tryz.func156 (hc J7 (hc Fx hn))
def xk:=λl m hl hn hm hma=>Qv.cs (aff qo mR l m hl hn hm hma:)
def Qw:=mk Pj Tryz.func157 (hc Bv hn)
def zO:=λa ha=>Qw.cs (ae6 kW a ha:)
def Zk:=mk Pk Tryz.func129 (hc yj (hc Qv (hc Qw hn)))
def F4:=λa b ha hb=>Zk.cs (afh kH xk zO a b ha hb:)
def Qx:=mk Pm Tryz.func151 hn
def zP:=λa=>Qx.cs (aeP a:)
def Zl:=mk Pn Tryz.func130 (hc yj (hc Fx (hc Bv (hc Qx hn))))
def CG:=λa n ha=>Zl.cs (afj kH mR kW zP a n ha:)
def Zm:=mk Po Tryz.func159 hn
def Fy:=λa b ha hb sa sb=>Zm.cs (afg a b ha hb sa sb:)
def Zn:=mk Pp Tryz.func131 (hc yj (hc Fx (hc Qv (hc Zm (hc Qw hn)))))
def F5:=λa b ha hb=>Zn.cs (afi kH mR xk Fy zO a b ha hb:)
def Zo:=mk Pq Tryz.func86 (hc Zn (hc Zk (hc Zl hn)))
def F6:=λop x y hx hy=>Zo.cs (afc F5 F4 CG op x y hx hy:)
def Zp:=mk Pv Tryz.func54 (hc Bu hn)
def CJ:=λa=>Zp.cs (aeQ oh a:)
def Zq:=mk Pw Tryz.func113 (hc yj hn)
def F7:=λa ha=>Zq.cs (ae4 kH a ha:)
def Zr:=mk Px Tryz.func132 (hc Fx (hc Qx hn))
def Kc:=λop a b=>Zr.cs (ae3 zP mR op a b:)
def Zt:=mk Py Tryz.func133 (hc Bv hn)
def F8:=λop n y hy=>Zt.cs (afa kW op n y hy:)
def Zu:=mk Pz Tryz.func87 (hc J8 (hc Bv (hc Zr (hc Zp (hc Zq (hc Zt hn))))))
def F9:=λop x y hx hy=>Zu.cs (afb oF kW Kc CJ F7 F8 op x y hx hy:)
end Go.TX.F
end
noncomputable section
namespace Go.TX.F
open Go Go.AE Go.TX Go.TX.Seat Go.Proofs
set_option maxRecDepth 100000
set_option maxHeartbeats 4000000
def Zv:=mk PD Tryz.func31 (hc Zj (hc J8 (hc Zo (hc Zu (hc Zi hn)))))
def MV:=λop x y t hop hx hy ht hok=>Zv.cs (afd Fw oF F6 F9 Ka op x y t hop hx hy ht hok:)
def Zw:=mk PE Tryz.func32 (hc Qu hn)
def Ga:=λa ha=>Zw.cs (ae8 xg a ha:)
def Zx:=mk PI Tryz.func7 (hc Bu (hc Zg (hc Zh (hc Zv (hc Zw hn)))))
def Ke:=λt op x y ht hx hy=>Zx.cs (afe oh J9 F3 MV Ga t op x y ht hx hy:)
def Cm:=mk Xb Tryz.func94 hn
def nN:=λa b c=>Cm.cs (ahk a b c:)
def Zy:=mk Xc Tryz.func36 (hc Cm hn)
def Cq:=λa=>Zy.cs (ahm nN a:)
def acR:=mk Xd Tryz.func100 hn
def zQ:=λa n=>acR.cs (ahq a n:)
def Zz:=mk PK Tryz.func144 (hc acR hn)
def jW:=λa n ha=>Zz.cs (aeC zQ a n ha:)
def acS:=mk Xe Tryz.func99 (hc Zz hn)
def iY:=λa n ha=>acS.cs (ahr (λz1 z2 z3=>(jW z1 z2 z3).1) (λz1 z2 z3=>(jW z1 z2 z3).2) a n ha:)
def SB:=mk Xf Tryz.func38 (hc acS hn)
def oG:=λa n ha=>SB.cs (ahs (λz1 z2 z3=>(iY z1 z2 z3).1) (λz1 z2 z3=>(iY z1 z2 z3).2) a n ha:)
def afT:=mk aeh Tryz.func160 hn
def uf:=λa=>afT.cs (ajG a:)
def abP:=mk aei Tryz.func139 (hc afT hn)
def vO:=λa b=>abP.cs (ajI uf a b:)
def ZA:=mk PN Tryz.func95 (hc abP hn)
def qy:=λa ha=>ZA.cs (aeB vO a ha:)
def afU:=mk aej Tryz.func140 hn
def zR:=λa b=>afU.cs (ajJ a b:)
def abQ:=mk aek Tryz.func141 (hc afT hn)
def mU:=λa b=>abQ.cs (ajH uf a b:)
def acT:=mk Xg Tryz.func142 (hc abQ hn)
def qY:=λa b ha=>acT.cs (aho mU a b ha:)
def MW:=mk Xh Tryz.func96 (hc afU (hc abQ (hc acT hn)))
def jK:=λa b ha=>MW.cs (ahp mU qY zR a b ha:)
def acU:=mk Xi Tryz.func98 hn
def Fz:=λm=>acU.cs (aht m:)
def ZB:=mk PO Tryz.func143 (hc acU hn)
def iU:=λa ha=>ZB.cs (aeD (G:=(λm:aA=>0<m.atoms.length/\m.atoms.getD 0 default<0)) Fz a ha:)
def acV:=mk Xj Tryz.func97 (hc ZB hn)
def iJ:=λa ha=>acV.cs (ahu (G:=(λm:aA=>0<m.atoms.length/\m.atoms.getD 0 default<0)) iU a ha:)
def Cr:=mk Xk Tryz.func37 (hc Cm (hc SB (hc ZA (hc MW (hc acV hn)))))
def jh:=λa ha=>Cr.cs (ahv nN oG qy jK iJ a ha:)
def acW:=mk Xl Tryz.func135 (hc Cm hn)
def Kg:=λa=>acW.cs (ahn nN a:)
def ZE:=mk Xm Tryz.func92 (hc Cm (hc Zy (hc SB (hc Cr (hc acW hn)))))
def mW:=λa n ha=>ZE.cs (ahJ nN Cq oG jh Kg a n ha:)
def ZF:=mk Xn Tryz.func102 (hc afU (hc abQ (hc MW hn)))
def ug:=λa b ha=>ZF.cs (ahw zR mU jK a b ha:)
def ZG:=mk Xo Tryz.func121 (hc ZF hn)
def oM:=λa b ha=>ZG.cs (ahx ug a b ha:)
def acX:=mk Xp Tryz.func138 (hc ZG hn)
def wR:=λa b ha=>acX.cs (ahG oM a b ha:)
def acY:=mk Xq Tryz.func137 (hc acX hn)
def vP:=λa b hb=>acY.cs (ahH wR a b hb:)
def ZH:=mk PU Tryz.func136 (hc acY hn)
def iV:=λa b ha hb=>ZH.cs (aeE vP a b ha hb:)
def ZI:=mk Xr Tryz.func93 (hc ZH hn)
def qp:=λa b ha hb=>ZI.cs (ahI iV a b ha hb:)
end Go.TX.F
end
noncomputable section
namespace Go.TX.F
open Go Go.AE Go.TX Go.TX.Seat Go.Proofs
set_option maxRecDepth 100000
set_option maxHeartbeats 4000000
def acZ:=mk Xt Tryz.func35 (hc ZE (hc ZI hn))
def Kh:=λa ha=>acZ.cs (ahK mW qp a ha:)
def ZJ:=mk Xu Tryz.func68 (hc Cm hn)
def uh:=λa=>ZJ.cs (ahA nN a:)
def ac0:=mk Xv Tryz.func120 (hc Cr hn)
def Gb:=λa ha=>ac0.cs (ahC jh a ha:)
def ac1:=mk Xw Tryz.func105 hn
def Bw:=λa ha=>ac1.cs (ahD a ha:)
def SE:=mk Xx Tryz.func165 hn
def qw:=λa=>SE.cs (ahy a:)
def FB:=mk Xy Tryz.func169 (hc MW hn)
def zS:=λa b ha=>FB.cs (ahE jK a b ha:)
def ZK:=mk PW Tryz.func185 (hc FB hn)
def ji:=λa b d hd h1 h2 h3=>ZK.cs (aeH zS a b d hd h1 h2 h3:)
def ZL:=mk PX Tryz.func194 hn
def jX:=λa b n d hl h1 h2 h3 h4=>ZL.cs (aeF a b n d hl h1 h2 h3 h4:)
def Bz:=mk PY Tryz.func192 (hc ZL hn)
def kX:=λa m b d hl h1 h2 h3 h4=>Bz.cs (aeG jX a m b d hl h1 h2 h3 h4:)
def cK:Nat->Ct aV OJ
 | 0=>never OJ
 | k+1=>cn (EM.F (FB.c.pre,FB.c.fn,Bz.c.pre,Bz.c.fn,(cK k).pre,(cK k).fn,()))
def kK:∀k:Nat,bg E 186 (cu (cK k))/\∀(a m b:Int) (d:List aA),EP a m b d->b-a<k->(cK k).pre (a,m,b,d,())=true/\Mrg d ((cK k).fn (a,m,b,d,())).1 a b
 | 0=>⟨mQ (enters_of Tryz.func186 (by kernel_rfl) rfl),λa m b d h1 h2=>(by have g1:=h1.h2;have g2:=h1.h3;omega)⟩
 | k+1=>by
  have ih:=kK k;have t:Fn E 186 (EM.F (FB.c.pre,FB.c.fn,Bz.c.pre,Bz.c.fn,(cK k).pre,(cK k).fn,())) (cK (k+1)):=mkF Tryz.func186 EM (hc FB (hc Bz (hk ih.1 hn)));exact⟨t.ok,λa m b d h1 h2=>t.cs (aeI zS kX (k:Int) ih.2 a m b d h1 ah)⟩
def afV:Ct aV OJ:=cK 1000000000
def afW:bg E 186 (cu afV):=(kK 1000000000).1
def ac2{a m b:Int}{d:List aA}(h:EP a m b d):b-a< ((1000000000:Nat):Int):=by have g0:=h.sh.1;have g1:=h.h1;have g2:=h.h4;omega
def afX:=λa m b d h=>((kK 1000000000).2 a m b d h (ac2 h)).1
def afY:=λa m b d h=>((kK 1000000000).2 a m b d h (ac2 h)).2
def ZM:=mk PZ Tryz.func174 (hc ZK (hk afW hn))
def kY:=λn d hd hn=>ZM.cs (aeJ ji (λz1 z2 z3 z4 z5=>⟨afX z1 z2 z3 z4 z5,afY z1 z2 z3 z4 z5⟩) n d hd hn:)
def ZN:=mk P5 Tryz.func168 (hc ZM hn)
def iy:=λd hd=>ZN.cs (aeK kY d hd:)
def ZO:=mk Xz Tryz.func161 (hc MW (hc Cr (hc SE (hc ac1 (hc ZN hn)))))
def FD:=λl hl hc=>ZO.cs (ahN jK jh qw Bw iy l hl hc:)
def ZP:=mk P6 Tryz.func170 hn
def jL:=λn h1 h2=>ZP.cs (aeL n h1 h2:)
def ac3:=mk XA Tryz.func162 (hc ZP hn)
def jy:=λa b ha hb=>ac3.cs (ahO jL a b ha hb:)
def ac4:=mk XC Tryz.func145 (hc Cr (hc ZO (hc ac3 hn)))
def Gc:=λa b ha hb=>ac4.cs (ahQ jh FD jy a b ha hb:)
def ZQ:=mk P7 Tryz.func171 hn
def uw:=λn h1 h2=>ZQ.cs (aeM n h1 h2:)
def ac5:=mk XD Tryz.func163 (hc ZQ hn)
def sj:=λa b ha hb=>ac5.cs (ahP uw a b ha hb:)
def ZR:=mk P8 Tryz.func175 (hc abP hn)
def lZ:=λa b d hd h1 h2=>ZR.cs (afk vO a b d hd h1 h2:)
def afZ:Ct aV WQ:=never WQ
def af0:bg E 176 (cu afZ):=mQ (enters_of Tryz.func176 (by kernel_rfl) rfl)
end Go.TX.F
end
noncomputable section
namespace Go.TX.F
open Go Go.AE Go.TX Go.TX.Seat Go.Proofs
set_option maxRecDepth 100000
set_option maxHeartbeats 4000000
def af2:Ct aV WR:=never WR
def af3:bg E 177 (cu af2):=mQ (enters_of Tryz.func177 (by kernel_rfl) rfl)
def af4:Ct aV OM:=never OM
def af5:bg E 178 (cu af4):=mQ (enters_of Tryz.func178 (by kernel_rfl) rfl)
def af6:Ct aV WS:=never WS
def af7:bg E 179 (cu af6):=mQ (enters_of Tryz.func179 (by kernel_rfl) rfl)
def af8:Ct aV OO:=never OO
def af9:bg E 180 (cu af8):=mQ (enters_of Tryz.func180 (by kernel_rfl) rfl)
def aga:Ct aV OP:=never OP
def agb:bg E 181 (cu aga):=mQ (enters_of Tryz.func181 (by kernel_rfl) rfl)
def agc:Ct aV OQ:=never OQ
def agd:bg E 182 (cu agc):=mQ (enters_of Tryz.func182 (by kernel_rfl) rfl)
def oH:Ct aV EL:=never EL
def oI:bg E 172 (cu oH):=mQ (enters_of Tryz.func172 (by kernel_rfl) rfl)
def ZU:=mk P9 Tryz.func172 (hc abP (hc ZR (hk af0 (hk af3 (hk af5 (hk af7 (hk af9 (hk agb (hk agd (hk oI hn))))))))))
def o9:=λa b k d hd h1 h2=>ZU.cs (afl lZ _ _ _ _ _ _ _ _ _ _ _ _ _ _ _ _ a b k d hd h1 h2:)
def ac6:Ct aV acu:={pre:=λx=>decide ((0:Int)<=x.1)&&decide ((x.1:Int)<=18446744073709551615),fn:=λx=>((Lib.bitLen (x.1:Int).toNat:Int),())}
def aiA(n:Int)(h1:0<=n)(h2:n<=18446744073709551615):ac6.pre (n,())=true:=by
 show(decide _&&decide _)=true;simp only [Bool.and_eq_true,decide_eq_true_eq];exact⟨h1,h2⟩
def aiB:bg E 173 (cu ac6):=
 Zc (enters_of Tryz.func173 (by kernel_rfl) rfl) rfl λx w h=>by
  have h':(decide ((0:Int)<=x)&&decide (x<=18446744073709551615))=true:=h;simp only [Bool.and_eq_true,decide_eq_true_eq]at h';exact bits_Len x w h'.1 h'.2
def ZV:=mk Qa Tryz.func164 (hc ZU (hk aiB hn))
def uz:=λa ha=>ZV.cs (afm o9 aiA a ha:)
def ZW:=mk XE Tryz.func147 (hc Cr (hc SE (hc ZO (hc ac5 (hc ZV hn)))))
def xq:=λa b ha hb=>ZW.cs (ahR jh qw FD sj uz a b ha hb:)
def ZX:=mk XF Tryz.func153 (hc Cm hn)
def zT:=λa=>ZX.cs (ahl nN a:)
def ac7:=mk XG Tryz.func146 (hc Cr (hc ZJ (hc ZX (hc ZW hn))))
def CK:=λa n ha=>ac7.cs (ahS jh uh zT xq a n ha:)
def ac8:=mk XH Tryz.func148 (hc ZX (hc SE hn))
def Ki:=λop a b=>ac8.cs (ahz zT qw op a b:)
def ac9:=mk XI Tryz.func101 (hc ZG (hc ZJ (hc ac8 (hc ac4 (hc ZW (hc ac7 (hc ac0 hn)))))))
def Gd:=λop x y hx hy=>ac9.cs (ahT oM uh Ki Gc xq CK Gb op x y hx hy:)
def ada:=mk XJ Tryz.func149 hn
def jM:=λa=>ada.cs (ahF a:)
def adb:=mk XK Tryz.func103 (hc ZE (hc ZI (hc ada hn)))
def zU:=λt a ht ha=>adb.cs (ahL mW qp jM t a ht ha:)
def ade:=mk XL Tryz.func104 (hc Cm hn)
def FE:=λa=>ade.cs (ahB nN a:)
def ZY:=mk XM Tryz.func39 (hc ZF (hc ac9 (hc adb (hc ade hn))))
def BA:=λt op x y ht hx hy=>ZY.cs (ahU ug Gd zU FE t op x y ht hx hy:)
def adf:=mk XO Tryz.func150 hn
def Gf:=λa b hlen=>adf.cs (aia a b hlen:)
def adg:=mk XP Tryz.func107 (hc adf hn)
def BD:=λa b h=>adg.cs (ain Gf a b h:)
end Go.TX.F
end
noncomputable section
namespace Go.TX.F
open Go Go.AE Go.TX Go.TX.Seat Go.Proofs
set_option maxRecDepth 100000
set_option maxHeartbeats 4000000
def adh:=mk XQ Tryz.func43 (hc adg hn)
def zV:=λa b hD=>adh.cs (aio BD a b hD:)
def Z0:=mk XR Tryz.func12 (hc adh hn)
def su:=λa b hD=>Z0.cs (aip zV a b hD:)
def adi:=mk XU Tryz.func106 (hc Z0 hn)
def BF:=λa b h=>adi.cs (aiq su a b h:)
def adk:=mk XV Tryz.func42 (hc adi hn)
def zW:=λa b hD=>adk.cs (air BF a b hD:)
def adl:=mk XW Tryz.func11 (hc adk hn)
def CO:=λa b hD=>adl.cs (ais zW a b hD:)
def adn:=mk XY Tryz.func109 hn
def CQ:=λl k h0 h1 hm=>adn.cs (ait l k h0 h1 hm:)
def Z4:=mk XZ Tryz.func47 (hc adn hn)
def oN:=λl k h0 h1 hm=>Z4.cs (aiu CQ l k h0 h1 hm:)
def ado:=mk X0 Tryz.func46 (hc Z4 hn)
def wS:=λl k h0 h1 hm=>ado.cs (aix oN l k h0 h1 hm:)
def adp:=mk X3 Tryz.func15 (hc ado hn)
def zY:=λl k h0 h1 hm=>adp.cs (aiy wS l k h0 h1 hm:)
def adq:=mk X4 Tryz.func16 (hc Z4 hn)
def yu:=λl k h0 h1 hm=>adq.cs (aiw oN l k h0 h1 hm:)
end Go.TX.F
end
noncomputable section
namespace Go.TX.F
open Go Go.AE Go.TX Go.TX.Seat Go.Proofs
set_option maxRecDepth 100000
set_option maxHeartbeats 4000000
end Go.TX.F
end
namespace Go.TX.Seat
open Go Go.AE Go.TX Go.Proofs
variable {G:gV} {dr:l9} {args:List PV} {h:Heap} {n:Nat} {K:PV->Heap->Nat->Prop}
def BG(p:List aA):Prop:=p.length<=jo/\∀m∈p,m.atoms.length<=jo
def OB(d:List D):Prop:=∃m:aA,d=mE m/\m.atoms.length<=jo
def PB(d:List D):Prop:=∃p:List aA,d=GD p/\BG p
def AB(d:List D):Prop:=∃a:Atom,d=gU a/\BG a.x/\BG a.y
def TB(d:List D):Prop:=∃t:List Atom,d=[.rows 4 (t.map gU)]/\t.length<=jo/\∀a∈t,BG a.x/\BG a.y
abbrev NB(kd:IntKind):List (List D)->Prop:=ToB true 1 λd=>∃v,d=[.int kd v]
theorem abR{xs:List Int}(h:xs.length<=jo):NB .i64 (xs.map Vh):=by
 refine⟨by simpa using h,λd hd=> ?_⟩;obtain⟨v,_,rfl⟩:=List.mem_map.1 hd;refine⟨rfl,λe=>(nomatch e),λ_ j hj=> ?_,v,rfl⟩
 match j,hj with
 | 0,_=>rfl
theorem Z5{p:List aA}(h:BG p):ToB false 2 OB (p.map mE):=by
 refine⟨by simpa using h.1,λd hd=> ?_⟩;obtain⟨m,hm,rfl⟩:=List.mem_map.1 hd;exact⟨rfl,λ_=>⟨1,by decide,rfl⟩,λe=>(nomatch e),m,rfl,h.2 m hm⟩
theorem Z6{t:List Atom}(h:t.length<=jo)(h2:∀a∈t,BG a.x/\BG a.y):ToB false 4 AB (t.map gU):=by
 refine⟨by simpa using h,λd hd=> ?_⟩;obtain⟨m,hm,rfl⟩:=List.mem_map.1 hd;exact⟨rfl,λ_=>⟨2,by decide,rfl⟩,λe=>(nomatch e),m,rfl,h2 m hm⟩
theorem Z7(hR:Cz 1 (NB .i64) args h n K):gy E G dr Tryz.f134 (Tryz.f134.body.getD .skip) args h n K:=
 Wh rfl rfl (by decide) rfl rfl rfl rfl rfl rfl rfl rfl rfl hR
theorem MX(hG:G 134=some (Cz 1 (NB .i64)))(hR:wM 2 OB args h n K):gy E G dr Tryz.f91 (Tryz.f91.body.getD .skip) args h n K:=by
 refine Jz rfl (.i _ _ _ (.n 1 .nil)) rfl (by decide) (by decide) rfl rfl (by decide) hR λca da s hr hd hB W hK=> ?_
 obtain⟨m,rfl,hm⟩:=hB;refine W.sc hr rfl rfl rfl rfl rfl rfl rfl rfl (by decide) (by decide) trivial (by decide) λs W=> ?_
 refine W.ls hr rfl rfl rfl rfl rfl rfl rfl rfl rfl rfl (by decide) (by decide) hG rfl (abR hm) (by decide) λs W=> ?_
 exact W.fin rfl rfl (by decide) (by decide) rfl hK
theorem Kj(hG:G 91=some (wM 2 OB))(hR:Cz 2 (ToB false 2 OB) args h n K):gy E G dr Tryz.f34 (Tryz.f34.body.getD .skip) args h n K:=
 RF false rfl rfl rfl rfl (.i _ _ _ (.n 1 .nil)) rfl (λ_=>⟨1,by decide,rfl⟩) (λe=>nomatch e) (by decide) (by decide) hG rfl rfl rfl rfl rfl rfl rfl rfl rfl hR
theorem MZ(hG:G 34=some (Cz 2 (ToB false 2 OB)))(hR:wM 1 PB args h n K):gy E G dr Tryz.f9 (Tryz.f9.body.getD .skip) args h n K:=by
 refine Jz rfl (.n 2 .nil) rfl (by decide) (by decide) rfl rfl (by decide) hR λca da s hr hd hB W hK=> ?_
 obtain⟨p,rfl,hp⟩:=hB;refine W.ls hr rfl rfl rfl rfl rfl rfl rfl rfl rfl rfl (by decide) (by decide) hG rfl (Z5 hp) (by decide) λs W=> ?_
 exact W.fin rfl rfl (by decide) (by decide) rfl hK
theorem M0(hG:G 9=some (wM 1 PB))(hR:wM 4 AB args h n K):gy E G dr Tryz.f90 (Tryz.f90.body.getD .skip) args h n K:=by
 refine Jz rfl (.i _ _ _ (.i _ _ _ (.n 2 (.n 2 .nil)))) rfl (by decide) (by decide) rfl rfl (by decide) hR λca da s hr hd hB W hK=> ?_
 obtain⟨a,rfl,hx,hy⟩:=hB;refine W.sc hr rfl rfl rfl rfl rfl rfl rfl rfl (by decide) (by decide) trivial (by decide) λs W=> ?_
 refine W.sc hr rfl rfl rfl rfl rfl rfl rfl rfl (by decide) (by decide) trivial (by decide) λs W=> ?_
 refine W.el hr rfl rfl rfl rfl rfl rfl rfl rfl rfl rfl (by decide) (by decide) (by decide) hG rfl ⟨a.x,rfl,hx⟩ (by decide) λs W=> ?_
 refine W.el hr rfl rfl rfl rfl rfl rfl rfl rfl rfl rfl (by decide) (by decide) (by decide) hG rfl ⟨a.y,rfl,hy⟩ (by decide) λs W=> ?_
 exact W.fin rfl rfl (by decide) (by decide) rfl hK
theorem Kk(hG:G 90=some (wM 4 AB))(hR:Cz 4 (ToB false 4 AB) args h n K):gy E G dr Tryz.f33 (Tryz.f33.body.getD .skip) args h n K:=
 RF false rfl rfl rfl rfl (.i _ _ _ (.i _ _ _ (.n 2 (.n 2 .nil)))) rfl (λ_=>⟨2,by decide,rfl⟩) (λe=>nomatch e) (by decide) (by decide) hG rfl rfl rfl rfl rfl rfl rfl rfl rfl hR
theorem Qy(hG:G 33=some (Cz 4 (ToB false 4 AB)))(hR:wM 1 TB args h n K):gy E G dr Tryz.f8 (Tryz.f8.body.getD .skip) args h n K:=by
 refine Jz rfl (.n 4 .nil) rfl (by decide) (by decide) rfl rfl (by decide) hR λca da s hr hd hB W hK=> ?_
 obtain⟨p,rfl,hp,hp2⟩:=hB;refine W.ls hr rfl rfl rfl rfl rfl rfl rfl rfl rfl rfl (by decide) (by decide) hG rfl (Z6 hp hp2) (by decide) λs W=> ?_
 exact W.fin rfl rfl (by decide) (by decide) rfl hK
end Go.TX.Seat
namespace Go.TX.Seat
open Go Go.AE Go.TX Go.Proofs
variable {G:gV} {dr:l9} {args:List PV} {h:Heap} {n:Nat} {K:PV->Heap->Nat->Prop}
theorem ajU:MkS mkI ctI (λ_ i=>(i:Int)) (λk _=>k) (λ_=>1) where
 len:=C9
 get:=λk l i h=>by
  have h':i< (mkI k l).length:=by rw [C9];exact h
  have:=Ov k l i h;rw [List.getElem?_eq_getElem h',<-this];simp [List.getD,h']
 z:=λ_=>rfl
 step:=λ_ i _=>by push_cast;rfl
 all:=λ_=>rfl
 le:=λl i h=>by unfold ctI;omega
 nn:=λ_ i=>by omega
theorem ajV:MkS mkM ctM nI (λk m=>⟨k,mkI (k+1) m.atoms⟩) (λm=>1+ctI m.atoms):=
 ⟨Rs,Jr,Hl,λl i h=>by rw [AV l i h,Int.add_assoc],EF,Jt,Js⟩
theorem ajW:MkS mkA ctA kD (λk a=>⟨k,k+1,mkM (k+2) a.x,mkM (k+2+ctM a.x) a.y⟩) (λa=>2+ctM a.x+ctM a.y):=
 ⟨Rt,Ju,Ho,λl i h=>by rw [AX l i h];omega,EG,Jw,Jv⟩
def OL(m:aA):Prop:=m.atoms.length<=1000000000000000000
def PL(p:List aA):Prop:=p.length<=1000000000000000000/\∀m∈p,OL m
def AL(a:Atom):Prop:=PL a.x/\PL a.y
def TL(t:List Atom):Prop:=t.length<=1000000000000000000/\∀a∈t,AL a
def aiC(t:List Atom):List D:=[.rows 4 (t.map gU)]
def Any{α:Type}(_:α):Prop:=True
abbrev Qz:Trans:=Oz 1 Vh mkI ctI Any
abbrev Db:Trans:=Oz 2 mE mkM ctM OL
abbrev QA:Trans:=aaS 1 GD mkM ctM PL
abbrev Kl:Trans:=Oz 4 gU mkA ctA AL
abbrev Z8:Trans:=aaS 1 aiC mkA ctA TL
theorem QB(hR:Qz args h n K):gy E G dr Tryz.f108 (Tryz.f108.body.getD .skip) args h n K:=by
 refine AZ (row:=Vh) ajU rfl trivial (λ_=>rfl) rfl rfl rfl rfl rfl rfl rfl (by decide) hR λx N q i e k s Q hB h0 h1 W hQ=> ?_
 refine dU (W.set0 (λ_=>rfl) rfl rfl rfl rfl rfl rfl (λa d hd=>by rw [List.mem_singleton.1 hd];rfl) rfl rfl (by decide) λs W=> ?_);exact W.inc rfl (by decide) h0 h1 hQ
theorem FH(hG:G 108=some Qz)(hR:Db args h n K):gy E G dr Tryz.f45 (Tryz.f45.body.getD .skip) args h n K:=by
 refine AZ (row:=mE) ajV rfl trivial (λ_=>rfl) rfl rfl rfl rfl rfl rfl rfl (by decide) hR λx N q i e k s Q hB h0 h1 W hQ=> ?_
 have:=ED e.atoms;refine dU (W.set (e':=⟨k,e.atoms⟩) (λ_=>rfl) rfl rfl rfl rfl rfl rfl rfl rfl rfl (by decide) (.inl ⟨1,by decide,rfl⟩) rfl rfl (by decide) λs W=> ?_);refine dU (W.inc rfl (by decide) h0 ah λs W=> ?_);refine W.call (bs:=e.atoms) (e':=⟨k,mkI (k+1) e.atoms⟩) (λ_=>rfl) rfl rfl rfl rfl rfl rfl rfl rfl rfl rfl (by decide) hG rfl ⟨hB,λ_ _=>trivial⟩ rfl (by decide) ah ah λs W=>hQ s ?_
 rwa [Int.add_assoc]at W
theorem Gg(hG:G 45=some Db)(hR:QA args h n K):gy E G dr Tryz.f14 (Tryz.f14.body.getD .skip) args h n K:=by
 refine Wj (row:=GD) (λ_=>rfl) (by decide) rfl rfl (by decide) hR λcs b k M s hB h0 h1 W hK=> ?_
 refine W.li rfl rfl rfl rfl rfl rfl rfl (by decide) hG rfl hB (by decide) h0 h1 λs W=> ?_
 exact W.fin rfl (by decide) rfl hK
theorem FI(hG:G 45=some Db)(hR:Kl args h n K):gy E G dr Tryz.f44 (Tryz.f44.body.getD .skip) args h n K:=by
 refine AZ (row:=gU) ajW rfl trivial (λ_=>rfl) rfl rfl rfl rfl rfl rfl rfl (by decide) hR λx N q i e k s Q hB h0 h1 W hQ=> ?_
 have:=jF e.x;have:=jF e.y;refine dU (W.set (e':=⟨k,e.k,e.x,e.y⟩) (λ_=>rfl) rfl rfl rfl rfl rfl rfl rfl rfl rfl (by decide) (.inl ⟨2,by decide,rfl⟩) rfl rfl (by decide) λs W=> ?_);refine dU (W.inc rfl (by decide) h0 ah λs W=> ?_);refine dU (W.set (e':=⟨k,k+1,e.x,e.y⟩) (λ_=>rfl) rfl rfl rfl rfl rfl rfl rfl rfl rfl (by decide) (.inl ⟨2,by decide,rfl⟩) rfl rfl (by decide) λs W=> ?_);refine dU (W.inc rfl (by decide) ah ah λs W=> ?_);rw [show k+1+1=k+2 by omega]at W;refine dU (W.ab9 (bs:=e.x) (e':=⟨k,k+1,mkM (k+2) e.x,e.y⟩) (λ_=>rfl) rfl rfl rfl rfl rfl rfl rfl rfl rfl rfl rfl rfl rfl rfl (by decide) hG rfl hB.1 rfl (by decide) ah ah λs W=> ?_);refine W.ab9 (bs:=e.y) (e':=⟨k,k+1,mkM (k+2) e.x,mkM (k+2+ctM e.x) e.y⟩) (λ_=>rfl) rfl rfl rfl rfl rfl rfl rfl rfl rfl rfl rfl rfl rfl rfl (by decide) hG rfl hB.2 rfl (by decide) ah ah λs W=>hQ s ?_
 rwa [show k+2+ctM e.x+ctM e.y=k+(2+ctM e.x+ctM e.y) by omega]at W
theorem Km(hG:G 44=some Kl)(hR:Z8 args h n K):gy E G dr Tryz.f13 (Tryz.f13.body.getD .skip) args h n K:=by
 refine Wj (row:=aiC) (λ_=>rfl) (by decide) rfl rfl (by decide) hR λcs b k M s hB h0 h1 W hK=> ?_
 refine W.li rfl rfl rfl rfl rfl rfl rfl (by decide) hG rfl hB (by decide) h0 h1 λs W=> ?_
 exact W.fin rfl (by decide) rfl hK
end Go.TX.Seat
namespace Go.TX.Seat
open Go Go.AE Go.TX Go.Proofs
def Flat(h:Heap)(sz:Nat)(x:Cell)(es:List (List D)):Prop:=(∃f,x= .d f (.rows sz es))\/(x= .nil/\es=[])\/∃l f,x= .os l sz 0 es.length/\AE.look h l=some (.rows f sz es)
def fresh(h h':Heap)(n j:Nat)(N:Nat->Prop):Prop:=(∀l,N l->n<=l/\l<n+j)/\∀l,l<n->AE.look h' l=AE.look h l
def vQ:Trans:=λargs h n K=>∃(x:Cell) (xs:List Int),args=[.c x]/\Flat h 1 x (xs.map (ic .i64))/\xs.length<=jo/\∀h' j y N,bG h' y (.rows 1 (xs.map (ic .i64))) N->fresh h h' n j N->K (.c y) h' j
theorem M7{G:gV}{dr:l9}{args:List PV}{h:Heap}{n:Nat}{K:PV->Heap->Nat->Prop}(hR:vQ args h n K):gy E G dr Tryz.f105 (Tryz.f105.body.getD .skip) args h n K:=by
 obtain⟨x,xs,rfl,hx,hl,hK⟩:=hR;unfold gy;dsimp only [Tryz.f105,Option.getD,slotsOf,List.length];refine bD (bC rfl (aT rfl (by simp only [dOK];decide) ?_));simp only [aF,AE.ev,aG,aC,St.put,aP];refine bD (bC rfl (aT rfl (by simp only [dOK];decide) ?_));simp only [aF,AE.ev,aG,aC,St.put,aB,if_true,if_false,reduceIte,Nat.reduceEqDiff];refine bC rfl (eD rfl (by simp only [dOK];decide) ?_);have t23:E.ty 124=some ⟨.slice 3,1,24,[.nil]⟩:=rfl;have t3:E.ty 3=some u0:=rfl;have key:∀(K:PV->Heap->Nat->Prop),(∀f l h',h'=(l,eO.rows f 1 (xs.map (ic .i64)))::h->l=nm n 0->K (.c (.os l 1 0 xs.length)) h' 1)->vU h n 0 u0 (.c .nil) (.c x) K:=by
  intro K hK;refine⟨[.int .i64 0],.d true _ .nil,by decide,by decide,?_⟩;have hlen:(xs.map (ic .i64)).length=xs.length:=List.length_map ..;rcases hx with⟨f,rfl⟩ | ⟨rfl,he⟩ | ⟨l,f,rfl,hlk⟩
  .refine⟨λ_=>rfl,by rw [hlen];exact hl,?_⟩;rw [hlen];exact hK _ _ _ rfl rfl
  .have hxs:xs=[]:=by simpa using he
   subst hxs;refine⟨λh=>absurd rfl h,by decide,?_⟩;exact hK _ _ _ rfl rfl
  .simp only [KD,hlk,aJ];refine⟨trivial,ah,?_⟩;rw [List.drop_zero,List.take_length];refine⟨λ_=>trivial,by rw [hlen];exact hl,?_⟩;rw [hlen];exact hK _ _ _ rfl rfl
 simp only [bL,AE.ev,aG,aC,St.put,aB,if_true,if_false,reduceIte,Nat.reduceEqDiff,t23,au,t3];refine⟨?_,key _ ?_⟩
 .rcases hx with⟨f,rfl⟩ | ⟨rfl,he⟩ | ⟨l,f,rfl,hlk⟩<;>exact trivial
 intro f l h' hh hl';refine bC rfl (aT rfl (by simp only [dOK];decide) ?_);simp only [aF,AE.ev,aG,aC,St.put,aB,if_true,if_false,reduceIte,Nat.reduceEqDiff,aP];refine qg ?_;simp only [uR,qP,aB,if_true,aC,one,true_and];have ht:bG h' (.os l 1 0 xs.length) (.rows 1 (xs.map (ic .i64))) (λy=>y=l):=by
  have:=bG.flat (h:=h') l 1 f (xs.map (ic .i64)) (by rw [hh];exact aK _ _ _) (by simp [nU,ic,D.dK])
  rwa [List.length_map]at this
 refine hK h' 1 _ _ ht ⟨λy hy=> ?_,λy hy=> ?_⟩
 .rw [hy,hl'];exact⟨Nat.le_refl _,Nat.lt_succ_self _⟩
 .rw [hh];exact ak _ _ (by rw [hl'];exact Nat.ne_of_gt hy)
def Read(x:Cell)(sz:Nat)(es:List (List D)):Prop:=(∃f,x= .d f (.rows sz es))\/(x= .nil/\es=[])
def qL:Trans:=λargs h n K=>∃(x:Cell) (p:List aA),args=[.agg [x]]/\Read x 2 (p.map mE)/\p.length<=jo/\(∀m∈p,m.atoms.length<=jo)/\
 ∀h' j y N,bG h' y (bV p) N->fresh h h' n j N->K (.agg [y]) h' j
theorem M8{G:gV}(hG:G 105=some vQ){tbl:Nat->List eY}(ht:tbl 5=[(0,([3],[])),(1,([13],[])),(2,([5],[])),(3,([15],[])),(4,([5],[])),(5,([17],[])),(6,([18],[1,3])),(7,([16,19],[])),(8,([20],[1])),(9,([14,21],[])),(10,([3],[])),(11,([22,23],[]))])
  {args:List PV} {h:Heap} {n:Nat} {K:PV->Heap->Nat->Prop} (hR:qL args h n K): @gy E G (@drA ⟨[20],[]⟩ E G tbl) Tryz.f41 (Tryz.f41.body.getD .skip) args h n K:=by
 letI:bI:=⟨[20],[]⟩
 obtain⟨x,p,rfl,hx,hl,ha,hK⟩:=hR;have sw:E.ty 35=some ⟨.struct [(0,33)],1,24,[.nil]⟩:=rfl;have BH:E.ty 33=some ⟨.slice 134,1,24,[.nil]⟩:=rfl;have t198:E.ty 134=some ⟨.struct [(0,3),(1,124)],2,32,[z0,.nil]⟩:=rfl;have t23:E.ty 124=some ⟨.slice 3,1,24,[.nil]⟩:=rfl;have t3:E.ty 3=some u0:=rfl;unfold gy;dsimp only [Tryz.f41,Option.getD,slotsOf,List.length];refine bD (bC rfl (eD rfl (by simp only [dOK];decide) ?_));simp only [bL,aR,aF,AE.ev,aG,aC,au,aJ,aO,St.put,aB,AE.look,aI,reduceIte,Nat.reduceEqDiff,aj,aH,aL,aW,aU,aN.agg,List.getElem?_cons,Nat.reduceSub,Nat.reduceAdd,Nat.add_zero,Nat.zero_add,ne_eq,not_false_eq_true,true_and,Nat.one_ne_zero,Nat.succ_ne_self,Bool.false_eq_true,List.length,List.drop,List.take,if_true,if_false,reduceCtorEq,List.cons_ne_nil,Nat.le_refl,and_true,Nat.reduceLeDiff];refine bC rfl (eD rfl (by simp only [dOK];decide) ?_);simp only [bL,sw,aP,aF,AE.ev,aG,aC,au,aJ,aO,St.put,aB,AE.look,aI,reduceIte,Nat.reduceEqDiff,aj,aH,aL,aW,aU,aN.agg,List.getElem?_cons,Nat.reduceSub,Nat.reduceAdd,Nat.add_zero,Nat.zero_add,ne_eq,not_false_eq_true,true_and,Nat.one_ne_zero,Nat.succ_ne_self,Bool.false_eq_true,List.length,List.drop,List.take,if_true,if_false,reduceCtorEq,List.cons_ne_nil,Nat.le_refl,and_true,Nat.reduceLeDiff];refine bD (bC rfl (eD rfl (by simp only [dOK];decide) ?_));simp only [bL,sw,aP,aF,AE.ev,aG,aC,au,aJ,aO,St.put,aB,AE.look,aI,reduceIte,Nat.reduceEqDiff,aj,aH,aL,aW,aU,aN.agg,List.getElem?_cons,Nat.reduceSub,Nat.reduceAdd,Nat.add_zero,Nat.zero_add,ne_eq,not_false_eq_true,true_and,Nat.one_ne_zero,Nat.succ_ne_self,Bool.false_eq_true,List.length,List.drop,List.take,if_true,if_false,reduceCtorEq,List.cons_ne_nil,Nat.le_refl,and_true,Nat.reduceLeDiff];refine dU (bD ?_);have agf:qM (.c x)=λK=>K (ci .i64 p.length):=by
  rcases hx with⟨f,rfl⟩ | ⟨rfl,he⟩
  .unfold qM;simp
  .have:p=[]:=by simpa using he
   subst this;rfl
 refine bC rfl (aT rfl (by simp only [dOK];decide) ?_);simp only [sw,BH,aF,AE.ev,aG,aC,au,aJ,aO,St.put,aB,AE.look,aI,reduceIte,Nat.reduceEqDiff,aj,aH,aL,aW,aU,aN.agg,List.getElem?_cons,Nat.reduceSub,Nat.reduceAdd,Nat.add_zero,Nat.zero_add,ne_eq,not_false_eq_true,true_and,Nat.one_ne_zero,Nat.succ_ne_self,Bool.false_eq_true,List.length,List.drop,List.take,if_true,if_false,reduceCtorEq,List.cons_ne_nil,Nat.le_refl,and_true,Nat.reduceLeDiff];refine bC rfl (aT rfl (by simp only [dOK];decide) ?_);simp only [sw,BH,aF,AE.ev,aG,aC,au,aJ,aO,St.put,aB,AE.look,aI,reduceIte,Nat.reduceEqDiff,aj,aH,aL,aW,aU,aN.agg,List.getElem?_cons,Nat.reduceSub,Nat.reduceAdd,Nat.add_zero,Nat.zero_add,ne_eq,not_false_eq_true,true_and,Nat.one_ne_zero,Nat.succ_ne_self,Bool.false_eq_true,List.length,List.drop,List.take,if_true,if_false,reduceCtorEq,List.cons_ne_nil,Nat.le_refl,and_true,Nat.reduceLeDiff];refine bC rfl (aT rfl (by simp only [dOK];decide) ?_);simp only [sw,BH,l6,agf,aF,AE.ev,aG,aC,au,aJ,aO,St.put,aB,AE.look,aI,reduceIte,Nat.reduceEqDiff,aj,aH,aL,aW,aU,aN.agg,List.getElem?_cons,Nat.reduceSub,Nat.reduceAdd,Nat.add_zero,Nat.zero_add,ne_eq,not_false_eq_true,true_and,Nat.one_ne_zero,Nat.succ_ne_self,Bool.false_eq_true,List.length,List.drop,List.take,if_true,if_false,reduceCtorEq,List.cons_ne_nil,Nat.le_refl,and_true,Nat.reduceLeDiff];refine bC rfl (aT rfl (by simp only [dOK];decide) ?_);simp only [sw,BH,aP,aF,AE.ev,aG,aC,au,aJ,aO,St.put,aB,AE.look,aI,reduceIte,Nat.reduceEqDiff,aj,aH,aL,aW,aU,aN.agg,List.getElem?_cons,Nat.reduceSub,Nat.reduceAdd,Nat.add_zero,Nat.zero_add,ne_eq,not_false_eq_true,true_and,Nat.one_ne_zero,Nat.succ_ne_self,Bool.false_eq_true,List.length,List.drop,List.take,if_true,if_false,reduceCtorEq,List.cons_ne_nil,Nat.le_refl,and_true,Nat.reduceLeDiff]
 let J:Nat->St->Prop:=λi s=>∃(y:Cell) (N:Nat->Prop),aB s.t 9=some (ci .i64 i)/\aB s.t 8=some (ci .i64 p.length)/\s.m=26/\s.n=n/\aB s.t 7=some (.c x)/\
  aB s.t 3=some (.c (.ptr (nm n 2) 1 0 0))/\aB s.t 2=some (.c (.ptr (nm n 1) 1 0 0))/\AE.look s.h (nm n 2)=some (.box [y])/\AE.look s.h (nm n 1)=some (.box [.nil])/\
  kU s.h y 2 ((p.take i).map mE) N/\(∀l,N l->nm n 3<=l/\l<nm n s.k)/\(∀l,l<n->AE.look s.h l=AE.look h l)/\3<=s.k
 refine Ro (n:=p.length) J rfl rfl rfl rfl rfl rfl rfl rfl rfl (by unfold jo at hl;omega) (λi s hJ=> ?_) (λi s b hJ=> ?_) ?_ (λi s hi hJ Q2 hQ=> ?_) (λs hJ=> ?_)
 .obtain⟨y,N,q1,q2,q3,q4,q5,q6,q7,q8,q9,q10,q11,q12,q13⟩:=hJ;exact⟨q1,q2,by rw [q3];decide,by rw [q3];decide,by rw [q3];decide⟩
 .obtain⟨y,N,q1,q2,q3,q4,q5,q6,q7,q8,q9,q10,q11,q12,q13⟩:=hJ
  exact⟨y,N,by simp only [aB,reduceIte,Nat.reduceEqDiff];exact q1,by simp only [aB,reduceIte,Nat.reduceEqDiff];exact q2,q3,q4,by simp only [aB,reduceIte,Nat.reduceEqDiff];exact q5,
   by simp only [aB,reduceIte,Nat.reduceEqDiff];exact q6,by simp only [aB,reduceIte,Nat.reduceEqDiff];exact q7,q8,q9,q10,q11,q12,q13⟩
 .refine⟨.nil,λ_=>False,rfl,rfl,rfl,rfl,rfl,rfl,rfl,?_,?_,.inl ⟨rfl,rfl⟩,λ_ h=>h.elim,λl hl=> ?_,Nat.le_refl _⟩
  .simp only [aF,AE.ev,aG,aC,au,aJ,aO,St.put,aB,AE.look,aI,reduceIte,Nat.reduceEqDiff,aj,aH,aL,aW,aU,aN.agg,List.getElem?_cons,Nat.reduceSub,Nat.reduceAdd,Nat.add_zero,Nat.zero_add,ne_eq,not_false_eq_true,true_and,Nat.one_ne_zero,Nat.succ_ne_self,Bool.false_eq_true,List.length,List.drop,List.take,if_true,if_false,reduceCtorEq,List.cons_ne_nil,Nat.le_refl,and_true,Nat.reduceLeDiff]
  .simp only [aF,AE.ev,aG,aC,au,aJ,aO,St.put,aB,AE.look,aI,reduceIte,Nat.reduceEqDiff,aj,aH,aL,aW,aU,aN.agg,List.getElem?_cons,Nat.reduceSub,Nat.reduceAdd,Nat.add_zero,Nat.zero_add,ne_eq,not_false_eq_true,true_and,Nat.one_ne_zero,Nat.succ_ne_self,Bool.false_eq_true,List.length,List.drop,List.take,if_true,if_false,reduceCtorEq,List.cons_ne_nil,Nat.le_refl,and_true,Nat.reduceLeDiff]
  .have a:∀q,nm n q≠l:=λq=>by unfold nm;omega
   rw [ak _ _ (a _),ak _ _ (a _),ak _ _ (a _)]
 .obtain⟨y,N,q1,q2,q3,q4,q5,q6,q7,q8,q9,q10,q11,q12,q13⟩:=hJ;obtain⟨f,rfl⟩:∃f,x= .d f (.rows 2 (p.map mE)):=by
   rcases hx with h | ⟨_,he⟩
   .exact h
   .have:p=[]:=by simpa using he
    subst this;exact absurd hi (Nat.not_lt_zero _)
  have hm:p[i]? =some p[i]:=List.getElem?_eq_getElem hi;obtain⟨t,hh,nn,kk,mm⟩:=s;dsimp only at q1 q2 q3 q4 q5 q6 q7 q8 q9 q10 q11 q12 q13;subst q3;have q4:=q4.symm;subst q4;refine xU (bD (bC rfl (aT rfl (by simp only [dOK];decide) ?_)));simp only [BH,t198,q5,q1,dP,jY,ci,aF,AE.ev,aG,aC,au,aJ,aO,St.put,aB,AE.look,aI,reduceIte,Nat.reduceEqDiff,aj,aH,aL,aW,aU,aN.agg,List.getElem?_cons,Nat.reduceSub,Nat.reduceAdd,Nat.add_zero,Nat.zero_add,ne_eq,not_false_eq_true,true_and,Nat.one_ne_zero,Nat.succ_ne_self,Bool.false_eq_true,List.length,List.drop,List.take,if_true,if_false,reduceCtorEq,List.cons_ne_nil,Nat.le_refl,and_true,Nat.reduceLeDiff];refine⟨λ_=>trivial,ah,by simpa using hi,?_⟩;refine bC rfl (aT rfl (by simp only [dOK];decide) ?_);simp only [BH,t198,Ip,pG,Int.toNat_natCast,aF,AE.ev,aG,aC,au,aJ,aO,St.put,aB,AE.look,aI,reduceIte,Nat.reduceEqDiff,aj,aH,aL,aW,aU,aN.agg,List.getElem?_cons,Nat.reduceSub,Nat.reduceAdd,Nat.add_zero,Nat.zero_add,ne_eq,not_false_eq_true,true_and,Nat.one_ne_zero,Nat.succ_ne_self,Bool.false_eq_true,List.length,List.drop,List.take,if_true,if_false,reduceCtorEq,List.cons_ne_nil,Nat.le_refl,and_true,Nat.reduceLeDiff];refine⟨by simpa using hi,λrow hrow=> ?_⟩;have hrow:row=mE p[i]:=by
   rw [List.getElem?_map,hm]at hrow;simpa using hrow.symm
  subst hrow;simp only [mE,List.map,aF,AE.ev,aG,aC,au,aJ,aO,St.put,aB,AE.look,aI,reduceIte,Nat.reduceEqDiff,aj,aH,aL,aW,aU,aN.agg,List.getElem?_cons,Nat.reduceSub,Nat.reduceAdd,Nat.add_zero,Nat.zero_add,ne_eq,not_false_eq_true,true_and,Nat.one_ne_zero,Nat.succ_ne_self,Bool.false_eq_true,List.length,List.drop,List.take,if_true,if_false,reduceCtorEq,List.cons_ne_nil,Nat.le_refl,and_true,Nat.reduceLeDiff];refine bC rfl (eD rfl (by simp only [dOK];decide) ?_);simp only [bL,t198,aF,AE.ev,aG,aC,au,aJ,aO,St.put,aB,AE.look,aI,reduceIte,Nat.reduceEqDiff,aj,aH,aL,aW,aU,aN.agg,List.getElem?_cons,Nat.reduceSub,Nat.reduceAdd,Nat.add_zero,Nat.zero_add,ne_eq,not_false_eq_true,true_and,Nat.one_ne_zero,Nat.succ_ne_self,Bool.false_eq_true,List.length,List.drop,List.take,if_true,if_false,reduceCtorEq,List.cons_ne_nil,Nat.le_refl,and_true,Nat.reduceLeDiff];refine bC rfl (eD rfl (by simp only [dOK]) ?_);simp only [bL,dA,aR,splice,t198,aP,List.nil_append,List.append_nil,aF,AE.ev,aG,aC,au,aJ,aO,St.put,aB,AE.look,aI,reduceIte,Nat.reduceEqDiff,aj,aH,aL,aW,aU,aN.agg,List.getElem?_cons,Nat.reduceSub,Nat.reduceAdd,Nat.add_zero,Nat.zero_add,ne_eq,not_false_eq_true,true_and,Nat.one_ne_zero,Nat.succ_ne_self,Bool.false_eq_true,List.length,List.drop,List.take,if_true,if_false,reduceCtorEq,List.cons_ne_nil,Nat.le_refl,and_true,Nat.reduceLeDiff];generalize hb:((nm n kk,eO.box [Cell.d f (D.int .i64 p[i].bU),Cell.d f (vw p[i].atoms)])::(nm n kk,eO.box [z0,Cell.nil])::hh:Heap)=h1;have w1:AE.look h1 (nm n kk)=some (.box [Cell.d f (D.int .i64 p[i].bU),Cell.d f (vw p[i].atoms)]):=by rw [<-hb];exact aK _ _ _
  have w2:∀x,x≠nm n kk->AE.look h1 x=AE.look hh x:=λx hx=>by rw [<-hb,ak _ _ (Ne.symm hx),ak _ _ (Ne.symm hx)]
  have a8:AE.look h1 (nm n 2)=some (.box [y]):=by rw [w2 _ (by unfold nm;omega)];exact q8
  have a9:AE.look h1 (nm n 1)=some (.box [.nil]):=by rw [w2 _ (by unfold nm;omega)];exact q9
  have a10:kU h1 y 2 ((p.take i).map mE) N:=q10.frame λx hx=>w2 x (by have:=(q11 x hx).2;unfold nm at*;omega)
  have a12:∀l,l<n->AE.look h1 l=AE.look h l:=λl hl=>by rw [w2 l (by unfold nm;omega)];exact q12 l hl
  clear hb q8 q9 q10 q12
  refine Rn ⟨?_,?_⟩
  .unfold Static;rw [ht];kernel_rfl
  rw [ht];refine dW rfl rfl (by simp only [dOK];decide) rfl ?_;simp only [cut,q6,sw,BH,aF,AE.ev,aG,aC,au,aJ,aO,St.put,aB,AE.look,aI,reduceIte,Nat.reduceEqDiff,aj,aH,aL,aW,aU,aN.agg,List.getElem?_cons,Nat.reduceSub,Nat.reduceAdd,Nat.add_zero,Nat.zero_add,ne_eq,not_false_eq_true,true_and,Nat.one_ne_zero,Nat.succ_ne_self,Bool.false_eq_true,List.length,List.drop,List.take,if_true,if_false,reduceCtorEq,List.cons_ne_nil,Nat.le_refl,and_true,Nat.reduceLeDiff];refine dW rfl rfl (by simp only [dOK];decide) rfl ?_;simp only [cut,a8,BH,aF,AE.ev,aG,aC,au,aJ,aO,St.put,aB,AE.look,aI,reduceIte,Nat.reduceEqDiff,aj,aH,aL,aW,aU,aN.agg,List.getElem?_cons,Nat.reduceSub,Nat.reduceAdd,Nat.add_zero,Nat.zero_add,ne_eq,not_false_eq_true,true_and,Nat.one_ne_zero,Nat.succ_ne_self,Bool.false_eq_true,List.length,List.drop,List.take,if_true,if_false,reduceCtorEq,List.cons_ne_nil,Nat.le_refl,and_true,Nat.reduceLeDiff];refine dW rfl rfl (by simp only [dOK];decide) rfl ?_;simp only [cut,t198,t3,aF,AE.ev,aG,aC,au,aJ,aO,St.put,aB,AE.look,aI,reduceIte,Nat.reduceEqDiff,aj,aH,aL,aW,aU,aN.agg,List.getElem?_cons,Nat.reduceSub,Nat.reduceAdd,Nat.add_zero,Nat.zero_add,ne_eq,not_false_eq_true,true_and,Nat.one_ne_zero,Nat.succ_ne_self,Bool.false_eq_true,List.length,List.drop,List.take,if_true,if_false,reduceCtorEq,List.cons_ne_nil,Nat.le_refl,and_true,Nat.reduceLeDiff];refine dW rfl rfl (by simp only [dOK];decide) rfl ?_;simp only [cut,w1,t3,aF,AE.ev,aG,aC,au,aJ,aO,St.put,aB,AE.look,aI,reduceIte,Nat.reduceEqDiff,aj,aH,aL,aW,aU,aN.agg,List.getElem?_cons,Nat.reduceSub,Nat.reduceAdd,Nat.add_zero,Nat.zero_add,ne_eq,not_false_eq_true,true_and,Nat.one_ne_zero,Nat.succ_ne_self,Bool.false_eq_true,List.length,List.drop,List.take,if_true,if_false,reduceCtorEq,List.cons_ne_nil,Nat.le_refl,and_true,Nat.reduceLeDiff];refine dW rfl rfl (by simp only [dOK];decide) rfl ?_;simp only [cut,t198,t23,aF,AE.ev,aG,aC,au,aJ,aO,St.put,aB,AE.look,aI,reduceIte,Nat.reduceEqDiff,aj,aH,aL,aW,aU,aN.agg,List.getElem?_cons,Nat.reduceSub,Nat.reduceAdd,Nat.add_zero,Nat.zero_add,ne_eq,not_false_eq_true,true_and,Nat.one_ne_zero,Nat.succ_ne_self,Bool.false_eq_true,List.length,List.drop,List.take,if_true,if_false,reduceCtorEq,List.cons_ne_nil,Nat.le_refl,and_true,Nat.reduceLeDiff];refine dW rfl rfl (by simp only [dOK];decide) rfl ?_;simp only [cut,w1,t23,aF,AE.ev,aG,aC,au,aJ,aO,St.put,aB,AE.look,aI,reduceIte,Nat.reduceEqDiff,aj,aH,aL,aW,aU,aN.agg,List.getElem?_cons,Nat.reduceSub,Nat.reduceAdd,Nat.add_zero,Nat.zero_add,ne_eq,not_false_eq_true,true_and,Nat.one_ne_zero,Nat.succ_ne_self,Bool.false_eq_true,List.length,List.drop,List.take,if_true,if_false,reduceCtorEq,List.cons_ne_nil,Nat.le_refl,and_true,Nat.reduceLeDiff];refine jE rfl rfl (by simp only [dOK];decide) rfl (og rfl ?_);simp only [cut,dH,iO,fnA,gX,iL,hG,List.map,List.append_nil,aF,AE.ev,aG,aC,au,aJ,aO,St.put,aB,AE.look,aI,reduceIte,Nat.reduceEqDiff,aj,aH,aL,aW,aU,aN.agg,List.getElem?_cons,Nat.reduceSub,Nat.reduceAdd,Nat.add_zero,Nat.zero_add,ne_eq,not_false_eq_true,true_and,Nat.one_ne_zero,Nat.succ_ne_self,Bool.false_eq_true,List.length,List.drop,List.take,if_true,if_false,reduceCtorEq,List.cons_ne_nil,Nat.le_refl,and_true,Nat.reduceLeDiff];refine⟨_,p[i].atoms,rfl,.inl ⟨f,rfl⟩,ha _ (List.getElem_mem hi),λh2 j y2 N2 tr fr=> ?_⟩;have b1:AE.look h2 (nm n kk)=some (.box [Cell.d f (D.int .i64 p[i].bU),Cell.d f (vw p[i].atoms)]):=by rw [fr.2 _ (by unfold nm;omega)];exact w1
  have b8:AE.look h2 (nm n 2)=some (.box [y]):=by rw [fr.2 _ (by unfold nm;omega)];exact a8
  have b9:AE.look h2 (nm n 1)=some (.box [.nil]):=by rw [fr.2 _ (by unfold nm;omega)];exact a9
  have b10:kU h2 y 2 ((p.take i).map mE) N:=a10.frame λx hx=>fr.2 x (by have:=(q11 x hx).2;unfold nm at*;omega)
  have b12:∀l,l<n->AE.look h2 l=AE.look h l:=λl hl=>by rw [fr.2 l (by unfold nm;omega)];exact a12 l hl
  simp only [mX,jH,fV,cut,b1,b8,t23,t3,BH,t198,aF,AE.ev,aG,aC,au,aJ,aO,St.put,aB,AE.look,aI,reduceIte,Nat.reduceEqDiff,aj,aH,aL,aW,aU,aN.agg,List.getElem?_cons,Nat.reduceSub,Nat.reduceAdd,Nat.add_zero,Nat.zero_add,ne_eq,not_false_eq_true,true_and,Nat.one_ne_zero,Nat.succ_ne_self,Bool.false_eq_true,List.length,List.drop,List.take,if_true,if_false,reduceCtorEq,List.cons_ne_nil,Nat.le_refl,and_true,Nat.reduceLeDiff];refine dW rfl rfl (by simp only [dOK];decide) rfl ?_;simp only [cut,qN,oJ,nO,splice,aR,t198,t3,t23,aF,AE.ev,aG,aC,au,aJ,aO,St.put,aB,AE.look,aI,reduceIte,Nat.reduceEqDiff,aj,aH,aL,aW,aU,aN.agg,List.getElem?_cons,Nat.reduceSub,Nat.reduceAdd,Nat.add_zero,Nat.zero_add,ne_eq,not_false_eq_true,true_and,Nat.one_ne_zero,Nat.succ_ne_self,Bool.false_eq_true,List.length,List.drop,List.take,if_true,if_false,reduceCtorEq,List.cons_ne_nil,Nat.le_refl,and_true,Nat.reduceLeDiff];refine⟨by simp [t3,t23],by simp,?_⟩;refine jE rfl rfl (by simp only [dOK];decide) rfl (zw rfl ?_);have k2:(kk+1+j=2)=False:=eq_false ah;simp only [qB,Ah,aR,cut,BH,t198,mX,jH,fV,b8,k2,List.nil_append,List.append_nil,List.cons_append,List.map,aF,AE.ev,aG,aC,au,aJ,aO,St.put,aB,AE.look,aI,reduceIte,Nat.reduceEqDiff,aj,aH,aL,aW,aU,aN.agg,List.getElem?_cons,Nat.reduceSub,Nat.reduceAdd,Nat.add_zero,Nat.zero_add,ne_eq,not_false_eq_true,true_and,Nat.one_ne_zero,Nat.succ_ne_self,Bool.false_eq_true,List.length,List.drop,List.take,if_true,if_false,reduceCtorEq,List.cons_ne_nil,Nat.le_refl,and_true,Nat.reduceLeDiff];refine⟨rfl,by decide,?_⟩;generalize hb:((nm n (kk+1+j),eO.grid 2 [[Cell.d f (D.int .i64 p[i].bU),y2]])::h2:Heap)=h3;have v1:AE.look h3 (nm n (kk+1+j))=some (.grid 2 [[Cell.d f (D.int .i64 p[i].bU),y2]]):=by rw [<-hb];exact aK _ _ _
  have v2:∀x,x≠nm n (kk+1+j)->AE.look h3 x=AE.look h2 x:=λx hx=>by rw [<-hb,ak _ _ (Ne.symm hx)]
  have c8:AE.look h3 (nm n 2)=some (.box [y]):=by rw [v2 _ (by unfold nm;omega)];exact b8
  have c9:AE.look h3 (nm n 1)=some (.box [.nil]):=by rw [v2 _ (by unfold nm;omega)];exact b9
  have c10:kU h3 y 2 ((p.take i).map mE) N:=b10.frame λx hx=>v2 x (by have:=(q11 x hx).2;unfold nm at*;omega)
  have c12:∀l,l<n->AE.look h3 l=AE.look h l:=λl hl=>by rw [v2 l (by unfold nm;omega)];exact b12 l hl
  have ctr:bG h3 y2 (vw p[i].atoms) N2:=tr.frame λx hx=>v2 x (by have:=(fr.1 x hx).2;unfold nm at*;omega)
  clear hb
  refine jE rfl rfl (by simp only [dOK];decide) rfl (zw rfl ?_);simp only [qB,SY,UD,cut,BH,t198,v1,aF,AE.ev,aG,aC,au,aJ,aO,St.put,aB,AE.look,aI,reduceIte,Nat.reduceEqDiff,aj,aH,aL,aW,aU,aN.agg,List.getElem?_cons,Nat.reduceSub,Nat.reduceAdd,Nat.add_zero,Nat.zero_add,ne_eq,not_false_eq_true,true_and,Nat.one_ne_zero,Nat.succ_ne_self,Bool.false_eq_true,List.length,List.drop,List.take,if_true,if_false,reduceCtorEq,List.cons_ne_nil,Nat.le_refl,and_true,Nat.reduceLeDiff];have eL:((p.take i).map mE).length=i:=by simp;omega
  have agh:∀x,N x->x<nm n (kk+1+j+1):=λx hx=>by have:=(q11 x hx).2;unfold nm at*;omega
  refine kU.app (M:=λq x=>q=1/\N2 x) (d:=mE p[i]) c10 rfl rfl ⟨1,by decide,rfl⟩ (λq hq=> ?_) (λq x hq hx=> ?_) agh (λq q' x _ _ hx hx'=>by rw [hx.1,hx'.1]) (by rw [eL];omega) (λh4 r4 f4=> ?_)
  .have hq2:q=0\/q=1:=by omega
   rcases hq2 with rfl | rfl
   .exact bG.cast (.int f .i64 p[i].bU) λx=>⟨λh=>h.elim,λh=>absurd h.1 (by decide)⟩
   .exact bG.cast ctr λx=>⟨λh=>⟨rfl,h⟩,λh=>h.2⟩
  .obtain⟨_,hx⟩:=hx;refine⟨by have:=(fr.1 x hx).2;unfold nm at*;omega,λhN=> ?_⟩;have h1:=(fr.1 x hx).1;have h2:=(q11 x hN).2;unfold nm at*;omega
  have d8:AE.look h4 (nm n 2)=some (.box [y]):=by rw [f4 _ (by unfold nm;omega) (λhN=>by have:=(q11 _ hN).1;unfold nm at*;omega)];exact c8
  have d9:AE.look h4 (nm n 1)=some (.box [.nil]):=by rw [f4 _ (by unfold nm;omega) (λhN=>by have:=(q11 _ hN).1;unfold nm at*;omega)];exact c9
  have d12:∀l,l<n->AE.look h4 l=AE.look h l:=λl hl=>by rw [f4 l (by unfold nm;omega) (λhN=>by have:=(q11 _ hN).1;unfold nm at*;omega)];exact c12 l hl
  refine⟨trivial,?_⟩;refine dW rfl rfl (by simp only [dOK];decide) rfl ?_;simp only [cut,q6,sw,BH,aF,AE.ev,aG,aC,au,aJ,aO,St.put,aB,AE.look,aI,reduceIte,Nat.reduceEqDiff,aj,aH,aL,aW,aU,aN.agg,List.getElem?_cons,Nat.reduceSub,Nat.reduceAdd,Nat.add_zero,Nat.zero_add,ne_eq,not_false_eq_true,true_and,Nat.one_ne_zero,Nat.succ_ne_self,Bool.false_eq_true,List.length,List.drop,List.take,if_true,if_false,reduceCtorEq,List.cons_ne_nil,Nat.le_refl,and_true,Nat.reduceLeDiff];refine jE rfl rfl (by simp only [dOK]) rfl (rT rfl ?_);simp only [bL,dA,aR,splice,cut,BH,d8,mX,List.nil_append,List.append_nil,aF,AE.ev,aG,aC,au,aJ,aO,St.put,aB,AE.look,aI,reduceIte,Nat.reduceEqDiff,aj,aH,aL,aW,aU,aN.agg,List.getElem?_cons,Nat.reduceSub,Nat.reduceAdd,Nat.add_zero,Nat.zero_add,ne_eq,not_false_eq_true,true_and,Nat.one_ne_zero,Nat.succ_ne_self,Bool.false_eq_true,List.length,List.drop,List.take,if_true,if_false,reduceCtorEq,List.cons_ne_nil,Nat.le_refl,and_true,Nat.reduceLeDiff];show Q2 .normal _;refine hQ _ (by simp only [aB,reduceIte,Nat.reduceEqDiff];exact q1) (show 24<26 by decide) (show 9<26 by decide) ?_;have eT:(p.take (i+1)).map mE=(p.take i).map mE++ [mE p[i]]:=by rw [List.take_succ_eq_append_getElem hi,List.map_append];rfl
  have ne2:∀x,(x=nm n (kk+1+j+1)\/N x\/∃q,q<2/\q=1/\N2 x)->nm n 3<=x/\x<nm n (kk+1+j+1+1):=by
   rintro x (rfl | hx | ⟨q,_,_,hx⟩)
   .unfold nm;omega
   .have:=q11 x hx;unfold nm at*;omega
   .have:=fr.1 x hx;unfold nm at*;omega
  refine⟨_,_,by simp only [aB,reduceIte],by simp only [aB,reduceIte,Nat.reduceEqDiff];exact q2,rfl,rfl,by simp only [aB,reduceIte,Nat.reduceEqDiff];exact q5,
   by simp only [aB,reduceIte,Nat.reduceEqDiff];exact q6,by simp only [aB,reduceIte,Nat.reduceEqDiff];exact q7,aK _ _ _,?_,?_,ne2,λl hl=> ?_,?_⟩
  .rw [ak _ _ (by unfold nm;omega)];exact d9
  .rw [eT];refine kU.frame r4 λx hx=>ak _ _ ?_
   have:=(ne2 x hx).1;unfold nm at*;omega
  .rw [ak _ _ (by unfold nm;omega)];exact d12 l hl
  .show 3<=kk+1+j+1+1;omega
 .obtain⟨y,N,q1,q2,q3,q4,q5,q6,q7,q8,q9,q10,q11,q12,q13⟩:=hJ;rw [List.take_length]at q10;obtain⟨t,hh,nn,kk,mm⟩:=s;dsimp only at q1 q2 q3 q4 q5 q6 q7 q8 q9 q10 q11 q12 q13;subst q3;have q4:=q4.symm;subst q4;show aw E G _ _ _ _;refine bD (bC rfl (aT rfl (by simp only [dOK];decide) ?_));simp only [sw,q6,q8,aF,AE.ev,aG,aC,au,aJ,aO,St.put,aB,AE.look,aI,reduceIte,Nat.reduceEqDiff,aj,aH,aL,aW,aU,aN.agg,List.getElem?_cons,Nat.reduceSub,Nat.reduceAdd,Nat.add_zero,Nat.zero_add,ne_eq,not_false_eq_true,true_and,Nat.one_ne_zero,Nat.succ_ne_self,Bool.false_eq_true,List.length,List.drop,List.take,if_true,if_false,reduceCtorEq,List.cons_ne_nil,Nat.le_refl,and_true,Nat.reduceLeDiff];refine bC rfl (eD rfl (by simp only [dOK]) ?_);simp only [bL,dA,aR,splice,sw,q7,q9,aP,List.nil_append,List.append_nil,aF,AE.ev,aG,aC,au,aJ,aO,St.put,aB,AE.look,aI,reduceIte,Nat.reduceEqDiff,aj,aH,aL,aW,aU,aN.agg,List.getElem?_cons,Nat.reduceSub,Nat.reduceAdd,Nat.add_zero,Nat.zero_add,ne_eq,not_false_eq_true,true_and,Nat.one_ne_zero,Nat.succ_ne_self,Bool.false_eq_true,List.length,List.drop,List.take,if_true,if_false,reduceCtorEq,List.cons_ne_nil,Nat.le_refl,and_true,Nat.reduceLeDiff];refine qg ?_;simp only [uR,qP,one,q7,sw,aF,AE.ev,aG,aC,au,aJ,aO,St.put,aB,AE.look,aI,reduceIte,Nat.reduceEqDiff,aj,aH,aL,aW,aU,aN.agg,List.getElem?_cons,Nat.reduceSub,Nat.reduceAdd,Nat.add_zero,Nat.zero_add,ne_eq,not_false_eq_true,true_and,Nat.one_ne_zero,Nat.succ_ne_self,Bool.false_eq_true,List.length,List.drop,List.take,if_true,if_false,reduceCtorEq,List.cons_ne_nil,Nat.le_refl,and_true,Nat.reduceLeDiff];obtain⟨M,hM,hMN⟩:=q10.tree;refine hK _ kk y M (hM.frame λx hx=>ak _ _ ?_) ⟨λl hl=> ?_,λl hl=> ?_⟩
  .have:=(q11 x (hMN x hx)).1;unfold nm at*;omega
  .have:=q11 l (hMN l hl);unfold nm at*;omega
  .rw [ak _ _ (by unfold nm;omega)];exact q12 l hl
def yx:Trans:=λargs h n K=>∃(x:Cell) (p:List Atom),args=[.agg [x]]/\Read x 4 (p.map gU)/\p.length<=jo/\(∀a∈p,BG a.x/\BG a.y)/\
 ∀h' j y N,bG h' y (.rows 4 (p.map gU)) N->fresh h h' n j N->K (.agg [y]) h' j
theorem QC{G:gV}(hG:G 41=some qL){tbl:Nat->List eY}(ht:tbl 5=[(0,([3],[])),(1,([13],[])),(2,([5],[])),(3,([15],[])),(4,([5],[])),(5,([17],[])),(6,([5],[])),(7,([19],[])),(9,([5],[])),(10,([22],[])),(8,([20],[1,3,5,10])),(11,([23],[1,3,5])),(12,([16,18,21,24],[])),(13,([25],[1])),(14,([14,26],[])),(15,([3],[])),(16,([27,28],[]))])
  {args:List PV} {h:Heap} {n:Nat} {K:PV->Heap->Nat->Prop} (hR:yx args h n K): @gy E G (@drA ⟨[25],[]⟩ E G tbl) Tryz.f40 (Tryz.f40.body.getD .skip) args h n K:=by
 letI:bI:=⟨[25],[]⟩
 obtain⟨x,p,rfl,hx,hl,ha,hK⟩:=hR;have FJ:E.ty 32=some ⟨.struct [(0,30)],1,24,[.nil]⟩:=rfl;have t106:E.ty 30=some ⟨.slice 90,1,24,[.nil]⟩:=rfl;have t194:E.ty 90=some ⟨.struct [(0,3),(1,3),(2,35),(3,35)],4,64,[z0,z0,.nil,.nil]⟩:=rfl;have sw:E.ty 35=some ⟨.struct [(0,33)],1,24,[.nil]⟩:=rfl;have t3:E.ty 3=some u0:=rfl;unfold gy;dsimp only [Tryz.f40,Option.getD,slotsOf,List.length];refine bD (bC rfl (eD rfl (by simp only [dOK];decide) ?_));simp only [bL,aR,aF,AE.ev,aG,aC,au,aJ,aO,St.put,aB,AE.look,aI,reduceIte,Nat.reduceEqDiff,aj,aH,aL,aW,aU,aN.agg,List.getElem?_cons,Nat.reduceSub,Nat.reduceAdd,Nat.add_zero,Nat.zero_add,ne_eq,not_false_eq_true,true_and,Nat.one_ne_zero,Nat.succ_ne_self,Bool.false_eq_true,List.length,List.drop,List.take,if_true,if_false,reduceCtorEq,List.cons_ne_nil,Nat.le_refl,and_true,Nat.reduceLeDiff];refine bC rfl (eD rfl (by simp only [dOK];decide) ?_);simp only [bL,FJ,aP,aF,AE.ev,aG,aC,au,aJ,aO,St.put,aB,AE.look,aI,reduceIte,Nat.reduceEqDiff,aj,aH,aL,aW,aU,aN.agg,List.getElem?_cons,Nat.reduceSub,Nat.reduceAdd,Nat.add_zero,Nat.zero_add,ne_eq,not_false_eq_true,true_and,Nat.one_ne_zero,Nat.succ_ne_self,Bool.false_eq_true,List.length,List.drop,List.take,if_true,if_false,reduceCtorEq,List.cons_ne_nil,Nat.le_refl,and_true,Nat.reduceLeDiff];refine bD (bC rfl (eD rfl (by simp only [dOK];decide) ?_));simp only [bL,FJ,aP,aF,AE.ev,aG,aC,au,aJ,aO,St.put,aB,AE.look,aI,reduceIte,Nat.reduceEqDiff,aj,aH,aL,aW,aU,aN.agg,List.getElem?_cons,Nat.reduceSub,Nat.reduceAdd,Nat.add_zero,Nat.zero_add,ne_eq,not_false_eq_true,true_and,Nat.one_ne_zero,Nat.succ_ne_self,Bool.false_eq_true,List.length,List.drop,List.take,if_true,if_false,reduceCtorEq,List.cons_ne_nil,Nat.le_refl,and_true,Nat.reduceLeDiff];refine dU (bD ?_);have agf:qM (.c x)=λK=>K (ci .i64 p.length):=by
  rcases hx with⟨f,rfl⟩ | ⟨rfl,he⟩
  .unfold qM;simp
  .have:p=[]:=by simpa using he
   subst this;rfl
 refine bC rfl (aT rfl (by simp only [dOK];decide) ?_);simp only [FJ,t106,aF,AE.ev,aG,aC,au,aJ,aO,St.put,aB,AE.look,aI,reduceIte,Nat.reduceEqDiff,aj,aH,aL,aW,aU,aN.agg,List.getElem?_cons,Nat.reduceSub,Nat.reduceAdd,Nat.add_zero,Nat.zero_add,ne_eq,not_false_eq_true,true_and,Nat.one_ne_zero,Nat.succ_ne_self,Bool.false_eq_true,List.length,List.drop,List.take,if_true,if_false,reduceCtorEq,List.cons_ne_nil,Nat.le_refl,and_true,Nat.reduceLeDiff];refine bC rfl (aT rfl (by simp only [dOK];decide) ?_);simp only [FJ,t106,aF,AE.ev,aG,aC,au,aJ,aO,St.put,aB,AE.look,aI,reduceIte,Nat.reduceEqDiff,aj,aH,aL,aW,aU,aN.agg,List.getElem?_cons,Nat.reduceSub,Nat.reduceAdd,Nat.add_zero,Nat.zero_add,ne_eq,not_false_eq_true,true_and,Nat.one_ne_zero,Nat.succ_ne_self,Bool.false_eq_true,List.length,List.drop,List.take,if_true,if_false,reduceCtorEq,List.cons_ne_nil,Nat.le_refl,and_true,Nat.reduceLeDiff];refine bC rfl (aT rfl (by simp only [dOK];decide) ?_);simp only [FJ,t106,l6,agf,aF,AE.ev,aG,aC,au,aJ,aO,St.put,aB,AE.look,aI,reduceIte,Nat.reduceEqDiff,aj,aH,aL,aW,aU,aN.agg,List.getElem?_cons,Nat.reduceSub,Nat.reduceAdd,Nat.add_zero,Nat.zero_add,ne_eq,not_false_eq_true,true_and,Nat.one_ne_zero,Nat.succ_ne_self,Bool.false_eq_true,List.length,List.drop,List.take,if_true,if_false,reduceCtorEq,List.cons_ne_nil,Nat.le_refl,and_true,Nat.reduceLeDiff];refine bC rfl (aT rfl (by simp only [dOK];decide) ?_);simp only [FJ,t106,aP,aF,AE.ev,aG,aC,au,aJ,aO,St.put,aB,AE.look,aI,reduceIte,Nat.reduceEqDiff,aj,aH,aL,aW,aU,aN.agg,List.getElem?_cons,Nat.reduceSub,Nat.reduceAdd,Nat.add_zero,Nat.zero_add,ne_eq,not_false_eq_true,true_and,Nat.one_ne_zero,Nat.succ_ne_self,Bool.false_eq_true,List.length,List.drop,List.take,if_true,if_false,reduceCtorEq,List.cons_ne_nil,Nat.le_refl,and_true,Nat.reduceLeDiff]
 let J:Nat->St->Prop:=λi s=>∃(y:Cell) (N:Nat->Prop),aB s.t 9=some (ci .i64 i)/\aB s.t 8=some (ci .i64 p.length)/\s.m=31/\s.n=n/\aB s.t 7=some (.c x)/\
  aB s.t 3=some (.c (.ptr (nm n 2) 1 0 0))/\aB s.t 2=some (.c (.ptr (nm n 1) 1 0 0))/\AE.look s.h (nm n 2)=some (.box [y])/\AE.look s.h (nm n 1)=some (.box [.nil])/\
  kU s.h y 4 ((p.take i).map gU) N/\(∀l,N l->nm n 3<=l/\l<nm n s.k)/\(∀l,l<n->AE.look s.h l=AE.look h l)/\3<=s.k
 refine Ro (n:=p.length) J rfl rfl rfl rfl rfl rfl rfl rfl rfl (by unfold jo at hl;omega) (λi s hJ=> ?_) (λi s b hJ=> ?_) ?_ (λi s hi hJ Q2 hQ=> ?_) (λs hJ=> ?_)
 .obtain⟨y,N,q1,q2,q3,q4,q5,q6,q7,q8,q9,q10,q11,q12,q13⟩:=hJ;exact⟨q1,q2,by rw [q3];decide,by rw [q3];decide,by rw [q3];decide⟩
 .obtain⟨y,N,q1,q2,q3,q4,q5,q6,q7,q8,q9,q10,q11,q12,q13⟩:=hJ
  exact⟨y,N,by simp only [aB,reduceIte,Nat.reduceEqDiff];exact q1,by simp only [aB,reduceIte,Nat.reduceEqDiff];exact q2,q3,q4,by simp only [aB,reduceIte,Nat.reduceEqDiff];exact q5,
   by simp only [aB,reduceIte,Nat.reduceEqDiff];exact q6,by simp only [aB,reduceIte,Nat.reduceEqDiff];exact q7,q8,q9,q10,q11,q12,q13⟩
 .refine⟨.nil,λ_=>False,rfl,rfl,rfl,rfl,rfl,rfl,rfl,?_,?_,.inl ⟨rfl,rfl⟩,λ_ h=>h.elim,λl hl=> ?_,Nat.le_refl _⟩
  .simp only [aF,AE.ev,aG,aC,au,aJ,aO,St.put,aB,AE.look,aI,reduceIte,Nat.reduceEqDiff,aj,aH,aL,aW,aU,aN.agg,List.getElem?_cons,Nat.reduceSub,Nat.reduceAdd,Nat.add_zero,Nat.zero_add,ne_eq,not_false_eq_true,true_and,Nat.one_ne_zero,Nat.succ_ne_self,Bool.false_eq_true,List.length,List.drop,List.take,if_true,if_false,reduceCtorEq,List.cons_ne_nil,Nat.le_refl,and_true,Nat.reduceLeDiff]
  .simp only [aF,AE.ev,aG,aC,au,aJ,aO,St.put,aB,AE.look,aI,reduceIte,Nat.reduceEqDiff,aj,aH,aL,aW,aU,aN.agg,List.getElem?_cons,Nat.reduceSub,Nat.reduceAdd,Nat.add_zero,Nat.zero_add,ne_eq,not_false_eq_true,true_and,Nat.one_ne_zero,Nat.succ_ne_self,Bool.false_eq_true,List.length,List.drop,List.take,if_true,if_false,reduceCtorEq,List.cons_ne_nil,Nat.le_refl,and_true,Nat.reduceLeDiff]
  .have a:∀q,nm n q≠l:=λq=>by unfold nm;omega
   rw [ak _ _ (a _),ak _ _ (a _),ak _ _ (a _)]
 .obtain⟨y,N,q1,q2,q3,q4,q5,q6,q7,q8,q9,q10,q11,q12,q13⟩:=hJ;obtain⟨f,rfl⟩:∃f,x= .d f (.rows 4 (p.map gU)):=by
   rcases hx with h | ⟨_,he⟩
   .exact h
   .have:p=[]:=by simpa using he
    subst this;exact absurd hi (Nat.not_lt_zero _)
  have hm:p[i]? =some p[i]:=List.getElem?_eq_getElem hi;obtain⟨t,hh,nn,kk,mm⟩:=s;dsimp only at q1 q2 q3 q4 q5 q6 q7 q8 q9 q10 q11 q12 q13;subst q3;have q4:=q4.symm;subst q4;refine xU (bD (bC rfl (aT rfl (by simp only [dOK];decide) ?_)));simp only [t106,t194,q5,q1,dP,jY,ci,aF,AE.ev,aG,aC,au,aJ,aO,St.put,aB,AE.look,aI,reduceIte,Nat.reduceEqDiff,aj,aH,aL,aW,aU,aN.agg,List.getElem?_cons,Nat.reduceSub,Nat.reduceAdd,Nat.add_zero,Nat.zero_add,ne_eq,not_false_eq_true,true_and,Nat.one_ne_zero,Nat.succ_ne_self,Bool.false_eq_true,List.length,List.drop,List.take,if_true,if_false,reduceCtorEq,List.cons_ne_nil,Nat.le_refl,and_true,Nat.reduceLeDiff];refine⟨λ_=>trivial,ah,by simpa using hi,?_⟩;refine bC rfl (aT rfl (by simp only [dOK];decide) ?_);simp only [t106,t194,Ip,pG,Int.toNat_natCast,aF,AE.ev,aG,aC,au,aJ,aO,St.put,aB,AE.look,aI,reduceIte,Nat.reduceEqDiff,aj,aH,aL,aW,aU,aN.agg,List.getElem?_cons,Nat.reduceSub,Nat.reduceAdd,Nat.add_zero,Nat.zero_add,ne_eq,not_false_eq_true,true_and,Nat.one_ne_zero,Nat.succ_ne_self,Bool.false_eq_true,List.length,List.drop,List.take,if_true,if_false,reduceCtorEq,List.cons_ne_nil,Nat.le_refl,and_true,Nat.reduceLeDiff];refine⟨by simpa using hi,λrow hrow=> ?_⟩;have hrow:row=gU p[i]:=by
   rw [List.getElem?_map,hm]at hrow;simpa using hrow.symm
  subst hrow;simp only [gU,List.map,aF,AE.ev,aG,aC,au,aJ,aO,St.put,aB,AE.look,aI,reduceIte,Nat.reduceEqDiff,aj,aH,aL,aW,aU,aN.agg,List.getElem?_cons,Nat.reduceSub,Nat.reduceAdd,Nat.add_zero,Nat.zero_add,ne_eq,not_false_eq_true,true_and,Nat.one_ne_zero,Nat.succ_ne_self,Bool.false_eq_true,List.length,List.drop,List.take,if_true,if_false,reduceCtorEq,List.cons_ne_nil,Nat.le_refl,and_true,Nat.reduceLeDiff];refine bC rfl (eD rfl (by simp only [dOK];decide) ?_);simp only [bL,t194,aF,AE.ev,aG,aC,au,aJ,aO,St.put,aB,AE.look,aI,reduceIte,Nat.reduceEqDiff,aj,aH,aL,aW,aU,aN.agg,List.getElem?_cons,Nat.reduceSub,Nat.reduceAdd,Nat.add_zero,Nat.zero_add,ne_eq,not_false_eq_true,true_and,Nat.one_ne_zero,Nat.succ_ne_self,Bool.false_eq_true,List.length,List.drop,List.take,if_true,if_false,reduceCtorEq,List.cons_ne_nil,Nat.le_refl,and_true,Nat.reduceLeDiff];refine bC rfl (eD rfl (by simp only [dOK]) ?_);simp only [bL,dA,aR,splice,t194,aP,List.nil_append,List.append_nil,aF,AE.ev,aG,aC,au,aJ,aO,St.put,aB,AE.look,aI,reduceIte,Nat.reduceEqDiff,aj,aH,aL,aW,aU,aN.agg,List.getElem?_cons,Nat.reduceSub,Nat.reduceAdd,Nat.add_zero,Nat.zero_add,ne_eq,not_false_eq_true,true_and,Nat.one_ne_zero,Nat.succ_ne_self,Bool.false_eq_true,List.length,List.drop,List.take,if_true,if_false,reduceCtorEq,List.cons_ne_nil,Nat.le_refl,and_true,Nat.reduceLeDiff];generalize hb:((nm n kk,eO.box [Cell.d f (D.int .i64 p[i].kind),Cell.d f (D.int .i64 p[i].k),Cell.d f (bV p[i].x),Cell.d f (bV p[i].y)])::(nm n kk,eO.box [z0,z0,Cell.nil,Cell.nil])::hh:Heap)=h1;have w1:AE.look h1 (nm n kk)=some (.box [Cell.d f (D.int .i64 p[i].kind),Cell.d f (D.int .i64 p[i].k),Cell.d f (bV p[i].x),Cell.d f (bV p[i].y)]):=by rw [<-hb];exact aK _ _ _
  have w2:∀x,x≠nm n kk->AE.look h1 x=AE.look hh x:=λx hx=>by rw [<-hb,ak _ _ (Ne.symm hx),ak _ _ (Ne.symm hx)]
  have a8:AE.look h1 (nm n 2)=some (.box [y]):=by rw [w2 _ (by unfold nm;omega)];exact q8
  have a9:AE.look h1 (nm n 1)=some (.box [.nil]):=by rw [w2 _ (by unfold nm;omega)];exact q9
  have a10:kU h1 y 4 ((p.take i).map gU) N:=q10.frame λx hx=>w2 x (by have:=(q11 x hx).2;unfold nm at*;omega)
  have a12:∀l,l<n->AE.look h1 l=AE.look h l:=λl hl=>by rw [w2 l (by unfold nm;omega)];exact q12 l hl
  clear hb q8 q9 q10 q12
  refine Rn ⟨?_,?_⟩
  .unfold Static;rw [ht];kernel_rfl
  rw [ht];refine dW rfl rfl (by simp only [dOK];decide) rfl ?_;simp only [cut,q6,FJ,t106,aF,AE.ev,aG,aC,au,aJ,aO,St.put,aB,AE.look,aI,reduceIte,Nat.reduceEqDiff,aj,aH,aL,aW,aU,aN.agg,List.getElem?_cons,Nat.reduceSub,Nat.reduceAdd,Nat.add_zero,Nat.zero_add,ne_eq,not_false_eq_true,true_and,Nat.one_ne_zero,Nat.succ_ne_self,Bool.false_eq_true,List.length,List.drop,List.take,if_true,if_false,reduceCtorEq,List.cons_ne_nil,Nat.le_refl,and_true,Nat.reduceLeDiff];refine dW rfl rfl (by simp only [dOK];decide) rfl ?_;simp only [cut,a8,t106,aF,AE.ev,aG,aC,au,aJ,aO,St.put,aB,AE.look,aI,reduceIte,Nat.reduceEqDiff,aj,aH,aL,aW,aU,aN.agg,List.getElem?_cons,Nat.reduceSub,Nat.reduceAdd,Nat.add_zero,Nat.zero_add,ne_eq,not_false_eq_true,true_and,Nat.one_ne_zero,Nat.succ_ne_self,Bool.false_eq_true,List.length,List.drop,List.take,if_true,if_false,reduceCtorEq,List.cons_ne_nil,Nat.le_refl,and_true,Nat.reduceLeDiff];refine dW rfl rfl (by simp only [dOK];decide) rfl ?_;simp only [cut,t194,t3,aF,AE.ev,aG,aC,au,aJ,aO,St.put,aB,AE.look,aI,reduceIte,Nat.reduceEqDiff,aj,aH,aL,aW,aU,aN.agg,List.getElem?_cons,Nat.reduceSub,Nat.reduceAdd,Nat.add_zero,Nat.zero_add,ne_eq,not_false_eq_true,true_and,Nat.one_ne_zero,Nat.succ_ne_self,Bool.false_eq_true,List.length,List.drop,List.take,if_true,if_false,reduceCtorEq,List.cons_ne_nil,Nat.le_refl,and_true,Nat.reduceLeDiff];refine dW rfl rfl (by simp only [dOK];decide) rfl ?_;simp only [cut,w1,t3,aF,AE.ev,aG,aC,au,aJ,aO,St.put,aB,AE.look,aI,reduceIte,Nat.reduceEqDiff,aj,aH,aL,aW,aU,aN.agg,List.getElem?_cons,Nat.reduceSub,Nat.reduceAdd,Nat.add_zero,Nat.zero_add,ne_eq,not_false_eq_true,true_and,Nat.one_ne_zero,Nat.succ_ne_self,Bool.false_eq_true,List.length,List.drop,List.take,if_true,if_false,reduceCtorEq,List.cons_ne_nil,Nat.le_refl,and_true,Nat.reduceLeDiff];refine dW rfl rfl (by simp only [dOK];decide) rfl ?_;simp only [cut,t194,t3,aF,AE.ev,aG,aC,au,aJ,aO,St.put,aB,AE.look,aI,reduceIte,Nat.reduceEqDiff,aj,aH,aL,aW,aU,aN.agg,List.getElem?_cons,Nat.reduceSub,Nat.reduceAdd,Nat.add_zero,Nat.zero_add,ne_eq,not_false_eq_true,true_and,Nat.one_ne_zero,Nat.succ_ne_self,Bool.false_eq_true,List.length,List.drop,List.take,if_true,if_false,reduceCtorEq,List.cons_ne_nil,Nat.le_refl,and_true,Nat.reduceLeDiff];refine dW rfl rfl (by simp only [dOK];decide) rfl ?_;simp only [cut,w1,t3,aF,AE.ev,aG,aC,au,aJ,aO,St.put,aB,AE.look,aI,reduceIte,Nat.reduceEqDiff,aj,aH,aL,aW,aU,aN.agg,List.getElem?_cons,Nat.reduceSub,Nat.reduceAdd,Nat.add_zero,Nat.zero_add,ne_eq,not_false_eq_true,true_and,Nat.one_ne_zero,Nat.succ_ne_self,Bool.false_eq_true,List.length,List.drop,List.take,if_true,if_false,reduceCtorEq,List.cons_ne_nil,Nat.le_refl,and_true,Nat.reduceLeDiff];refine dW rfl rfl (by simp only [dOK];decide) rfl ?_;simp only [cut,t194,sw,aF,AE.ev,aG,aC,au,aJ,aO,St.put,aB,AE.look,aI,reduceIte,Nat.reduceEqDiff,aj,aH,aL,aW,aU,aN.agg,List.getElem?_cons,Nat.reduceSub,Nat.reduceAdd,Nat.add_zero,Nat.zero_add,ne_eq,not_false_eq_true,true_and,Nat.one_ne_zero,Nat.succ_ne_self,Bool.false_eq_true,List.length,List.drop,List.take,if_true,if_false,reduceCtorEq,List.cons_ne_nil,Nat.le_refl,and_true,Nat.reduceLeDiff];refine dW rfl rfl (by simp only [dOK];decide) rfl ?_;simp only [cut,w1,sw,aF,AE.ev,aG,aC,au,aJ,aO,St.put,aB,AE.look,aI,reduceIte,Nat.reduceEqDiff,aj,aH,aL,aW,aU,aN.agg,List.getElem?_cons,Nat.reduceSub,Nat.reduceAdd,Nat.add_zero,Nat.zero_add,ne_eq,not_false_eq_true,true_and,Nat.one_ne_zero,Nat.succ_ne_self,Bool.false_eq_true,List.length,List.drop,List.take,if_true,if_false,reduceCtorEq,List.cons_ne_nil,Nat.le_refl,and_true,Nat.reduceLeDiff];refine dW rfl rfl (by simp only [dOK];decide) rfl ?_;simp only [cut,t194,sw,aF,AE.ev,aG,aC,au,aJ,aO,St.put,aB,AE.look,aI,reduceIte,Nat.reduceEqDiff,aj,aH,aL,aW,aU,aN.agg,List.getElem?_cons,Nat.reduceSub,Nat.reduceAdd,Nat.add_zero,Nat.zero_add,ne_eq,not_false_eq_true,true_and,Nat.one_ne_zero,Nat.succ_ne_self,Bool.false_eq_true,List.length,List.drop,List.take,if_true,if_false,reduceCtorEq,List.cons_ne_nil,Nat.le_refl,and_true,Nat.reduceLeDiff];refine dW rfl rfl (by simp only [dOK];decide) rfl ?_;simp only [cut,w1,sw,aF,AE.ev,aG,aC,au,aJ,aO,St.put,aB,AE.look,aI,reduceIte,Nat.reduceEqDiff,aj,aH,aL,aW,aU,aN.agg,List.getElem?_cons,Nat.reduceSub,Nat.reduceAdd,Nat.add_zero,Nat.zero_add,ne_eq,not_false_eq_true,true_and,Nat.one_ne_zero,Nat.succ_ne_self,Bool.false_eq_true,List.length,List.drop,List.take,if_true,if_false,reduceCtorEq,List.cons_ne_nil,Nat.le_refl,and_true,Nat.reduceLeDiff];refine jE rfl rfl (by simp only [dOK];decide) rfl (og rfl ?_);simp only [cut,dH,iO,fnA,gX,iL,hG,List.map,List.append_nil,aF,AE.ev,aG,aC,au,aJ,aO,St.put,aB,AE.look,aI,reduceIte,Nat.reduceEqDiff,aj,aH,aL,aW,aU,aN.agg,List.getElem?_cons,Nat.reduceSub,Nat.reduceAdd,Nat.add_zero,Nat.zero_add,ne_eq,not_false_eq_true,true_and,Nat.one_ne_zero,Nat.succ_ne_self,Bool.false_eq_true,List.length,List.drop,List.take,if_true,if_false,reduceCtorEq,List.cons_ne_nil,Nat.le_refl,and_true,Nat.reduceLeDiff];obtain⟨bx,by_⟩:=ha _ (List.getElem_mem hi);refine⟨_,p[i].x,rfl,.inl ⟨f,rfl⟩,bx.1,bx.2,λh2 j y2 N2 tr fr=> ?_⟩;have b1:AE.look h2 (nm n kk)=some (.box [Cell.d f (D.int .i64 p[i].kind),Cell.d f (D.int .i64 p[i].k),Cell.d f (bV p[i].x),Cell.d f (bV p[i].y)]):=by rw [fr.2 _ (by unfold nm;omega)];exact w1
  have b8:AE.look h2 (nm n 2)=some (.box [y]):=by rw [fr.2 _ (by unfold nm;omega)];exact a8
  have b9:AE.look h2 (nm n 1)=some (.box [.nil]):=by rw [fr.2 _ (by unfold nm;omega)];exact a9
  have b10:kU h2 y 4 ((p.take i).map gU) N:=a10.frame λx hx=>fr.2 x (by have:=(q11 x hx).2;unfold nm at*;omega)
  have b12:∀l,l<n->AE.look h2 l=AE.look h l:=λl hl=>by rw [fr.2 l (by unfold nm;omega)];exact a12 l hl
  simp only [mX,jH,fV,cut,b1,b8,sw,t3,t106,t194,aF,AE.ev,aG,aC,au,aJ,aO,St.put,aB,AE.look,aI,reduceIte,Nat.reduceEqDiff,aj,aH,aL,aW,aU,aN.agg,List.getElem?_cons,Nat.reduceSub,Nat.reduceAdd,Nat.add_zero,Nat.zero_add,ne_eq,not_false_eq_true,true_and,Nat.one_ne_zero,Nat.succ_ne_self,Bool.false_eq_true,List.length,List.drop,List.take,if_true,if_false,reduceCtorEq,List.cons_ne_nil,Nat.le_refl,and_true,Nat.reduceLeDiff];refine jE rfl rfl (by simp only [dOK];decide) rfl (og rfl ?_);simp only [cut,dH,iO,fnA,gX,iL,hG,List.map,List.append_nil,aF,AE.ev,aG,aC,au,aJ,aO,St.put,aB,AE.look,aI,reduceIte,Nat.reduceEqDiff,aj,aH,aL,aW,aU,aN.agg,List.getElem?_cons,Nat.reduceSub,Nat.reduceAdd,Nat.add_zero,Nat.zero_add,ne_eq,not_false_eq_true,true_and,Nat.one_ne_zero,Nat.succ_ne_self,Bool.false_eq_true,List.length,List.drop,List.take,if_true,if_false,reduceCtorEq,List.cons_ne_nil,Nat.le_refl,and_true,Nat.reduceLeDiff];refine⟨_,p[i].y,rfl,.inl ⟨f,rfl⟩,by_.1,by_.2,λh5 j5 y5 N5 tr5 fr5=> ?_⟩;have e1:AE.look h5 (nm n kk)=some (.box [Cell.d f (D.int .i64 p[i].kind),Cell.d f (D.int .i64 p[i].k),Cell.d f (bV p[i].x),Cell.d f (bV p[i].y)]):=by rw [fr5.2 _ (by unfold nm;omega)];exact b1
  have e8:AE.look h5 (nm n 2)=some (.box [y]):=by rw [fr5.2 _ (by unfold nm;omega)];exact b8
  have e9:AE.look h5 (nm n 1)=some (.box [.nil]):=by rw [fr5.2 _ (by unfold nm;omega)];exact b9
  have e10:kU h5 y 4 ((p.take i).map gU) N:=b10.frame λx hx=>fr5.2 x (by have:=(q11 x hx).2;unfold nm at*;omega)
  have e12:∀l,l<n->AE.look h5 l=AE.look h l:=λl hl=>by rw [fr5.2 l (by unfold nm;omega)];exact b12 l hl
  have etr:bG h5 y2 (bV p[i].x) N2:=tr.frame λx hx=>fr5.2 x (by have:=(fr.1 x hx).2;unfold nm at*;omega)
  simp only [mX,jH,fV,cut,e1,e8,sw,t3,t106,t194,aF,AE.ev,aG,aC,au,aJ,aO,St.put,aB,AE.look,aI,reduceIte,Nat.reduceEqDiff,aj,aH,aL,aW,aU,aN.agg,List.getElem?_cons,Nat.reduceSub,Nat.reduceAdd,Nat.add_zero,Nat.zero_add,ne_eq,not_false_eq_true,true_and,Nat.one_ne_zero,Nat.succ_ne_self,Bool.false_eq_true,List.length,List.drop,List.take,if_true,if_false,reduceCtorEq,List.cons_ne_nil,Nat.le_refl,and_true,Nat.reduceLeDiff];refine dW rfl rfl (by simp only [dOK];decide) rfl ?_;simp only [cut,qN,oJ,nO,splice,aR,t194,t3,sw,List.nil_append,List.cons_append,List.append_nil,aF,AE.ev,aG,aC,au,aJ,aO,St.put,aB,AE.look,aI,reduceIte,Nat.reduceEqDiff,aj,aH,aL,aW,aU,aN.agg,List.getElem?_cons,Nat.reduceSub,Nat.reduceAdd,Nat.add_zero,Nat.zero_add,ne_eq,not_false_eq_true,true_and,Nat.one_ne_zero,Nat.succ_ne_self,Bool.false_eq_true,List.length,List.drop,List.take,if_true,if_false,reduceCtorEq,List.cons_ne_nil,Nat.le_refl,and_true,Nat.reduceLeDiff];refine⟨by simp [t3,sw],?_⟩;refine jE rfl rfl (by simp only [dOK];decide) rfl (zw rfl ?_);have k2:(kk+1+j+j5=2)=False:=eq_false ah;simp only [qB,Ah,aR,cut,t106,t194,mX,jH,fV,e8,k2,List.nil_append,List.append_nil,List.cons_append,List.map,aF,AE.ev,aG,aC,au,aJ,aO,St.put,aB,AE.look,aI,reduceIte,Nat.reduceEqDiff,aj,aH,aL,aW,aU,aN.agg,List.getElem?_cons,Nat.reduceSub,Nat.reduceAdd,Nat.add_zero,Nat.zero_add,ne_eq,not_false_eq_true,true_and,Nat.one_ne_zero,Nat.succ_ne_self,Bool.false_eq_true,List.length,List.drop,List.take,if_true,if_false,reduceCtorEq,List.cons_ne_nil,Nat.le_refl,and_true,Nat.reduceLeDiff];refine⟨rfl,by decide,?_⟩;generalize hb:((nm n (kk+1+j+j5),eO.grid 4 [[Cell.d f (D.int .i64 p[i].kind),Cell.d f (D.int .i64 p[i].k),y2,y5]])::h5:Heap)=h3;have v1:AE.look h3 (nm n (kk+1+j+j5))=some (.grid 4 [[Cell.d f (D.int .i64 p[i].kind),Cell.d f (D.int .i64 p[i].k),y2,y5]]):=by rw [<-hb];exact aK _ _ _
  have v2:∀x,x≠nm n (kk+1+j+j5)->AE.look h3 x=AE.look h5 x:=λx hx=>by rw [<-hb,ak _ _ (Ne.symm hx)]
  have c8:AE.look h3 (nm n 2)=some (.box [y]):=by rw [v2 _ (by unfold nm;omega)];exact e8
  have c9:AE.look h3 (nm n 1)=some (.box [.nil]):=by rw [v2 _ (by unfold nm;omega)];exact e9
  have c10:kU h3 y 4 ((p.take i).map gU) N:=e10.frame λx hx=>v2 x (by have:=(q11 x hx).2;unfold nm at*;omega)
  have c12:∀l,l<n->AE.look h3 l=AE.look h l:=λl hl=>by rw [v2 l (by unfold nm;omega)];exact e12 l hl
  have ctr:bG h3 y2 (bV p[i].x) N2:=etr.frame λx hx=>v2 x (by have:=(fr.1 x hx).2;unfold nm at*;omega)
  have ajX:bG h3 y5 (bV p[i].y) N5:=tr5.frame λx hx=>v2 x (by have:=(fr5.1 x hx).2;unfold nm at*;omega)
  clear hb
  refine jE rfl rfl (by simp only [dOK];decide) rfl (zw rfl ?_);simp only [qB,SY,UD,cut,t106,t194,v1,aF,AE.ev,aG,aC,au,aJ,aO,St.put,aB,AE.look,aI,reduceIte,Nat.reduceEqDiff,aj,aH,aL,aW,aU,aN.agg,List.getElem?_cons,Nat.reduceSub,Nat.reduceAdd,Nat.add_zero,Nat.zero_add,ne_eq,not_false_eq_true,true_and,Nat.one_ne_zero,Nat.succ_ne_self,Bool.false_eq_true,List.length,List.drop,List.take,if_true,if_false,reduceCtorEq,List.cons_ne_nil,Nat.le_refl,and_true,Nat.reduceLeDiff];have eL:((p.take i).map gU).length=i:=by simp;omega
  have agh:∀x,N x->x<nm n (kk+1+j+j5+1):=λx hx=>by have:=(q11 x hx).2;unfold nm at*;omega
  have g2:∀x,N2 x->nm n (kk+1)<=x/\x<nm n (kk+1+j):=λx hx=>by have:=fr.1 x hx;unfold nm at*;omega
  have g5:∀x,N5 x->nm n (kk+1+j)<=x/\x<nm n (kk+1+j+j5):=λx hx=>by have:=fr5.1 x hx;unfold nm at*;omega
  refine kU.app (M:=λq x=>(q=2/\N2 x)\/(q=3/\N5 x)) (d:=gU p[i]) c10 rfl rfl ⟨2,by decide,rfl⟩ (λq hq=> ?_) (λq x hq hx=> ?_) agh (λq q' x _ _ hx hx'=> ?_) (by rw [eL];omega) (λh4 r4 f4=> ?_)
  .have hq2:q=0\/q=1\/q=2\/q=3:=by omega
   rcases hq2 with rfl | rfl | rfl | rfl
   .exact bG.cast (.int f .i64 p[i].kind) λx=>⟨λh=>h.elim,λh=>by rcases h with h | h<;>exact absurd h.1 (by decide)⟩
   .exact bG.cast (.int f .i64 p[i].k) λx=>⟨λh=>h.elim,λh=>by rcases h with h | h<;>exact absurd h.1 (by decide)⟩
   .exact bG.cast ctr λx=>⟨λh=> .inl ⟨rfl,h⟩,λh=>by rcases h with h | h;exact h.2;exact absurd h.1 (by decide)⟩
   .exact bG.cast ajX λx=>⟨λh=> .inr ⟨rfl,h⟩,λh=>by rcases h with h | h;exact absurd h.1 (by decide);exact h.2⟩
  .rcases hx with⟨_,hx⟩ | ⟨_,hx⟩
   .have:=g2 x hx;exact⟨by unfold nm at*;omega,λhN=>by have:=q11 x hN;unfold nm at*;omega⟩
   .have:=g5 x hx;exact⟨by unfold nm at*;omega,λhN=>by have:=q11 x hN;unfold nm at*;omega⟩
  .rcases hx with⟨e,hx⟩ | ⟨e,hx⟩<;>rcases hx' with⟨e',hx'⟩ | ⟨e',hx'⟩
   .omega
   .have:=g2 x hx;have:=g5 x hx';unfold nm at*;omega
   .have:=g5 x hx;have:=g2 x hx';unfold nm at*;omega
   .omega
  have d8:AE.look h4 (nm n 2)=some (.box [y]):=by rw [f4 _ (by unfold nm;omega) (λhN=>by have:=(q11 _ hN).1;unfold nm at*;omega)];exact c8
  have d9:AE.look h4 (nm n 1)=some (.box [.nil]):=by rw [f4 _ (by unfold nm;omega) (λhN=>by have:=(q11 _ hN).1;unfold nm at*;omega)];exact c9
  have d12:∀l,l<n->AE.look h4 l=AE.look h l:=λl hl=>by rw [f4 l (by unfold nm;omega) (λhN=>by have:=(q11 _ hN).1;unfold nm at*;omega)];exact c12 l hl
  refine⟨trivial,?_⟩;refine dW rfl rfl (by simp only [dOK];decide) rfl ?_;simp only [cut,q6,FJ,t106,aF,AE.ev,aG,aC,au,aJ,aO,St.put,aB,AE.look,aI,reduceIte,Nat.reduceEqDiff,aj,aH,aL,aW,aU,aN.agg,List.getElem?_cons,Nat.reduceSub,Nat.reduceAdd,Nat.add_zero,Nat.zero_add,ne_eq,not_false_eq_true,true_and,Nat.one_ne_zero,Nat.succ_ne_self,Bool.false_eq_true,List.length,List.drop,List.take,if_true,if_false,reduceCtorEq,List.cons_ne_nil,Nat.le_refl,and_true,Nat.reduceLeDiff];refine jE rfl rfl (by simp only [dOK]) rfl (rT rfl ?_);simp only [bL,dA,aR,splice,cut,t106,d8,mX,List.nil_append,List.append_nil,aF,AE.ev,aG,aC,au,aJ,aO,St.put,aB,AE.look,aI,reduceIte,Nat.reduceEqDiff,aj,aH,aL,aW,aU,aN.agg,List.getElem?_cons,Nat.reduceSub,Nat.reduceAdd,Nat.add_zero,Nat.zero_add,ne_eq,not_false_eq_true,true_and,Nat.one_ne_zero,Nat.succ_ne_self,Bool.false_eq_true,List.length,List.drop,List.take,if_true,if_false,reduceCtorEq,List.cons_ne_nil,Nat.le_refl,and_true,Nat.reduceLeDiff];show Q2 .normal _;refine hQ _ (by simp only [aB,reduceIte,Nat.reduceEqDiff];exact q1) (show 29<31 by decide) (show 9<31 by decide) ?_;have eT:(p.take (i+1)).map gU=(p.take i).map gU++ [gU p[i]]:=by rw [List.take_succ_eq_append_getElem hi,List.map_append];rfl
  have ne2:∀x,(x=nm n (kk+1+j+j5+1)\/N x\/∃q,q<4/\((q=2/\N2 x)\/(q=3/\N5 x)))->nm n 3<=x/\x<nm n (kk+1+j+j5+1+1):=by
   rintro x (rfl | hx | ⟨q,_,⟨_,hx⟩ | ⟨_,hx⟩⟩)
   .unfold nm;omega
   .have:=q11 x hx;unfold nm at*;omega
   .have:=g2 x hx;unfold nm at*;omega
   .have:=g5 x hx;unfold nm at*;omega
  refine⟨_,_,by simp only [aB,reduceIte],by simp only [aB,reduceIte,Nat.reduceEqDiff];exact q2,rfl,rfl,by simp only [aB,reduceIte,Nat.reduceEqDiff];exact q5,
   by simp only [aB,reduceIte,Nat.reduceEqDiff];exact q6,by simp only [aB,reduceIte,Nat.reduceEqDiff];exact q7,aK _ _ _,?_,?_,ne2,λl hl=> ?_,?_⟩
  .rw [ak _ _ (by unfold nm;omega)];exact d9
  .rw [eT];refine kU.frame r4 λx hx=>ak _ _ ?_
   have:=(ne2 x hx).1;unfold nm at*;omega
  .rw [ak _ _ (by unfold nm;omega)];exact d12 l hl
  .show 3<=kk+1+j+j5+1+1;omega
 .obtain⟨y,N,q1,q2,q3,q4,q5,q6,q7,q8,q9,q10,q11,q12,q13⟩:=hJ;rw [List.take_length]at q10;obtain⟨t,hh,nn,kk,mm⟩:=s;dsimp only at q1 q2 q3 q4 q5 q6 q7 q8 q9 q10 q11 q12 q13;subst q3;have q4:=q4.symm;subst q4;show aw E G _ _ _ _;refine bD (bC rfl (aT rfl (by simp only [dOK];decide) ?_));simp only [FJ,q6,q8,aF,AE.ev,aG,aC,au,aJ,aO,St.put,aB,AE.look,aI,reduceIte,Nat.reduceEqDiff,aj,aH,aL,aW,aU,aN.agg,List.getElem?_cons,Nat.reduceSub,Nat.reduceAdd,Nat.add_zero,Nat.zero_add,ne_eq,not_false_eq_true,true_and,Nat.one_ne_zero,Nat.succ_ne_self,Bool.false_eq_true,List.length,List.drop,List.take,if_true,if_false,reduceCtorEq,List.cons_ne_nil,Nat.le_refl,and_true,Nat.reduceLeDiff];refine bC rfl (eD rfl (by simp only [dOK]) ?_);simp only [bL,dA,aR,splice,FJ,q7,q9,aP,List.nil_append,List.append_nil,aF,AE.ev,aG,aC,au,aJ,aO,St.put,aB,AE.look,aI,reduceIte,Nat.reduceEqDiff,aj,aH,aL,aW,aU,aN.agg,List.getElem?_cons,Nat.reduceSub,Nat.reduceAdd,Nat.add_zero,Nat.zero_add,ne_eq,not_false_eq_true,true_and,Nat.one_ne_zero,Nat.succ_ne_self,Bool.false_eq_true,List.length,List.drop,List.take,if_true,if_false,reduceCtorEq,List.cons_ne_nil,Nat.le_refl,and_true,Nat.reduceLeDiff];refine qg ?_;simp only [uR,qP,one,q7,FJ,aF,AE.ev,aG,aC,au,aJ,aO,St.put,aB,AE.look,aI,reduceIte,Nat.reduceEqDiff,aj,aH,aL,aW,aU,aN.agg,List.getElem?_cons,Nat.reduceSub,Nat.reduceAdd,Nat.add_zero,Nat.zero_add,ne_eq,not_false_eq_true,true_and,Nat.one_ne_zero,Nat.succ_ne_self,Bool.false_eq_true,List.length,List.drop,List.take,if_true,if_false,reduceCtorEq,List.cons_ne_nil,Nat.le_refl,and_true,Nat.reduceLeDiff];obtain⟨M,hM,hMN⟩:=q10.tree;refine hK _ kk y M (hM.frame λx hx=>ak _ _ ?_) ⟨λl hl=> ?_,λl hl=> ?_⟩
  .have:=(q11 x (hMN x hx)).1;unfold nm at*;omega
  .have:=q11 l (hMN l hl);unfold nm at*;omega
  .rw [ak _ _ (by unfold nm;omega)];exact q12 l hl
end Go.TX.Seat
namespace Go.TX.Seat
open Go Go.AE Go.TX Go.TX.F Go.Proofs
abbrev mY(t:List Atom):D:= .rows 4 (t.map gU)
def aiD:Trans:=λargs h n K=>∃(t:List Atom) (op:Int) (f:Bool) (x y:List aA),args=[.agg [.d true (mY t)],.c (.d f (.int .i64 op)),.agg [.d true (bV x)],.agg [.d true (bV y)]]/\t.length<1000000000/\F.Sh x/\F.Sh y/\
 ∀g b,K (.tup [.agg [.d true (mY (tDo t op x y).1)],.agg [.d true (bV (tDo t op x y).2)],.c (.d g (.bool b))]) h 0
def Dc:Trans:=λargs h n K=>∃(t:List Atom) (op:Int) (f:Bool) (x y:List aA),args=[.agg [.d true (mY t)],.c (.d f (.int .i64 op)),.agg [.d true (bV x)],.agg [.d true (bV y)]]/\ShT t/\F.Sh x/\F.Sh y/\
 ∀h' j y0 y1 N0 N1,bG h' y0 (mY (kM t op x y).1) N0->bG h' y1 (bV (kM t op x y).2) N1->(∀l,N0 l->¬N1 l)->fresh h h' n j (λl=>N0 l\/N1 l)->K (.tup [.agg [y0],.agg [y1]]) h' j
def wJ{p:List aA}(h:F.Sh p):BG p:=⟨by have:=h.1;unfold jo;omega,λm hm=>by have:=h.2 m hm;unfold jo;omega⟩
def BI{t:List Atom}(h:ShT t):t.length<=jo/\∀a∈t,BG a.x/\BG a.y:=⟨by have:=h.1;unfold jo;omega,λa ha=>⟨wJ (h.2 a ha).1,wJ (h.2 a ha).2⟩⟩
def SF(t:List Atom)(op:Int)(x y:List aA):(bp (F.bB t)&&inB op 1 5&&bp (F.bK x)&&bp (F.bK y)&&bp (F.bH x (t.map gU).length)&&bp (F.bH y (t.map gU).length))=(bp (F.bB t)&&inB op 1 5&&bp (F.bK x/\F.bK y/\F.bH x t.length/\F.bH y t.length)):=by
 rw [List.length_map,Bf,Bf,Bf];simp only [Bool.and_assoc]
def abS(t:List Atom)(op:Int)(x y:List aA)(h:(bp (F.bB t)&&inB op 1 5&&bp (F.bK x)&&bp (F.bK y)&&bp (F.bH x (t.map gU).length)&&bp (F.bH y (t.map gU).length))=true):kM t op x y=tDo t op x y:=Me (by rw [<-SF];exact h)
def BJ(t:List Atom)(op:Int)(x y:List aA)(h:(bp (F.bB t)&&inB op 1 5&&bp (F.bK x)&&bp (F.bK y)&&bp (F.bH x (t.map gU).length)&&bp (F.bH y (t.map gU).length))=false):kM t op x y=([],[]):=Ia (by rw [<-SF,h];decide)
theorem abT{G:gV}(h35:G 35=some (L_b .tab ShT λt=>bp (bB t)))(h36:G 36=some (L_i λop=>inB op 1 5))(h37:G 37=some (L_b .poly F.Sh λx=>bp (bK x)))(h38:G 38=some (ag1 .poly F.Sh λx k=>bp (bH x k)))
  (h39:G 39=some aiD) (h40:G 40=some yx) (h41:G 41=some qL) {tbl:Nat->List eY} (ht:tbl 4=[(0,[10],[]),(2,[11],[]),(1,[58],[2]),(3,[60],[]),(4,[8,59],[]),(5,[9,61],[])])
  {args:List PV} {h:Heap} {n:Nat} {K:PV->Heap->Nat->Prop} (hR:Dc args h n K): @gy E G (@drA ⟨[],[]⟩ E G tbl) Tryz.f10 (Tryz.f10.body.getD .skip) args h n K:=by
 letI:bI:=⟨[],[]⟩
 obtain⟨t,op,f,x,y,rfl,st,sx,sy,hK⟩:=hR;have t32:E.ty 32=some ⟨.struct [(0,30)],1,24,[.nil]⟩:=rfl;have t30:E.ty 30=some ⟨.slice 90,1,24,[.nil]⟩:=rfl;have t35:E.ty 35=some ⟨.struct [(0,33)],1,24,[.nil]⟩:=rfl;unfold gy;dsimp only [Tryz.f10,Option.getD,slotsOf,List.length];refine bD ?_;refine bC rfl (eD rfl (by simp only [dOK];try decide) ?_);simp only [bL,dA,aR,splice,List.nil_append,List.append_nil,List.cons_append,aF,AE.ev,aG,aC,au,aJ,aO,St.put,aB,AE.look,aI,reduceIte,Nat.reduceEqDiff,aj,aH,aL,aW,aU,aN.agg,List.getElem?_cons,Nat.reduceSub,Nat.reduceAdd,Nat.add_zero,Nat.zero_add,ne_eq,not_false_eq_true,true_and,Nat.one_ne_zero,Nat.succ_ne_self,Bool.false_eq_true,List.length,List.drop,List.take,if_true,if_false,reduceCtorEq,List.cons_ne_nil,Nat.le_refl,and_true,Nat.reduceLeDiff];refine bC rfl (eD rfl (by simp only [dOK];try decide) ?_);simp only [bL,dA,aR,splice,List.nil_append,List.append_nil,List.cons_append,aF,AE.ev,aG,aC,au,aJ,aO,St.put,aB,AE.look,aI,reduceIte,Nat.reduceEqDiff,aj,aH,aL,aW,aU,aN.agg,List.getElem?_cons,Nat.reduceSub,Nat.reduceAdd,Nat.add_zero,Nat.zero_add,ne_eq,not_false_eq_true,true_and,Nat.one_ne_zero,Nat.succ_ne_self,Bool.false_eq_true,List.length,List.drop,List.take,if_true,if_false,reduceCtorEq,List.cons_ne_nil,Nat.le_refl,and_true,Nat.reduceLeDiff];refine bC rfl (eD rfl (by simp only [dOK];try decide) ?_);simp only [bL,dA,aR,splice,List.nil_append,List.append_nil,List.cons_append,aF,AE.ev,aG,aC,au,aJ,aO,St.put,aB,AE.look,aI,reduceIte,Nat.reduceEqDiff,aj,aH,aL,aW,aU,aN.agg,List.getElem?_cons,Nat.reduceSub,Nat.reduceAdd,Nat.add_zero,Nat.zero_add,ne_eq,not_false_eq_true,true_and,Nat.one_ne_zero,Nat.succ_ne_self,Bool.false_eq_true,List.length,List.drop,List.take,if_true,if_false,reduceCtorEq,List.cons_ne_nil,Nat.le_refl,and_true,Nat.reduceLeDiff];refine bC rfl (eD rfl (by simp only [dOK];try decide) ?_);simp only [t32,bL,dA,aR,splice,List.nil_append,List.append_nil,List.cons_append,aF,AE.ev,aG,aC,au,aJ,aO,St.put,aB,AE.look,aI,reduceIte,Nat.reduceEqDiff,aj,aH,aL,aW,aU,aN.agg,List.getElem?_cons,Nat.reduceSub,Nat.reduceAdd,Nat.add_zero,Nat.zero_add,ne_eq,not_false_eq_true,true_and,Nat.one_ne_zero,Nat.succ_ne_self,Bool.false_eq_true,List.length,List.drop,List.take,if_true,if_false,reduceCtorEq,List.cons_ne_nil,Nat.le_refl,and_true,Nat.reduceLeDiff];refine bC rfl (eD rfl (by simp only [dOK];try decide) ?_);simp only [t35,aP,bL,dA,aR,splice,List.nil_append,List.append_nil,List.cons_append,aF,AE.ev,aG,aC,au,aJ,aO,St.put,aB,AE.look,aI,reduceIte,Nat.reduceEqDiff,aj,aH,aL,aW,aU,aN.agg,List.getElem?_cons,Nat.reduceSub,Nat.reduceAdd,Nat.add_zero,Nat.zero_add,ne_eq,not_false_eq_true,true_and,Nat.one_ne_zero,Nat.succ_ne_self,Bool.false_eq_true,List.length,List.drop,List.take,if_true,if_false,reduceCtorEq,List.cons_ne_nil,Nat.le_refl,and_true,Nat.reduceLeDiff]
 have hP:∃P:St->Prop,P=λs=>s.m=62/\s.n=n/\s.k=5/\aB s.t 1=some (.c (.d f (.int .i64 op)))/\aB s.t 4=some (.c (.ptr (nm n 0) 1 0 0))/\aB s.t 6=some (.c (.ptr (nm n 1) 1 0 0))/\aB s.t 7=some (.c (.ptr (nm n 2) 1 0 0))/\aB s.t 8=some (.c (.ptr (nm n 3) 1 0 0))/\aB s.t 9=some (.c (.ptr (nm n 4) 1 0 0))/\
   AE.look s.h (nm n 0)=some (.box [.d true (mY t)])/\AE.look s.h (nm n 1)=some (.box [.d true (bV x)])/\AE.look s.h (nm n 2)=some (.box [.d true (bV y)])/\AE.look s.h (nm n 3)=some (.box [.nil])/\AE.look s.h (nm n 4)=some (.box [.nil])/\(∀l,l<n->AE.look s.h l=AE.look h l)/\
   ∃b,aB s.t 46=some (.c (.d true (.bool b)))/\(b=true->kM t op x y=([],[]))/\(b=false->kM t op x y=tDo t op x y):=⟨_,rfl⟩
 obtain⟨P,hP⟩:=hP;refine bD (aed (P:=P) (λs hs=> ?_) (λKK hKK=> ?_))
 rotate_left
 .subst hP;refine bC rfl (aT rfl (by simp only [dOK];try decide) ?_);simp only [t32,aF,AE.ev,aG,aC,au,aJ,aO,St.put,aB,AE.look,aI,reduceIte,Nat.reduceEqDiff,aj,aH,aL,aW,aU,aN.agg,List.getElem?_cons,Nat.reduceSub,Nat.reduceAdd,Nat.add_zero,Nat.zero_add,ne_eq,not_false_eq_true,true_and,Nat.one_ne_zero,Nat.succ_ne_self,Bool.false_eq_true,List.length,List.drop,List.take,if_true,if_false,reduceCtorEq,List.cons_ne_nil,Nat.le_refl,and_true,Nat.reduceLeDiff];refine bC rfl (qH rfl (by simp only [dOK];try decide) ?_);simp only [h35,dH,iO,fnA,gX,iL,List.map,List.append_nil,List.nil_append,List.cons_append,aF,AE.ev,aG,aC,au,aJ,aO,St.put,aB,AE.look,aI,reduceIte,Nat.reduceEqDiff,aj,aH,aL,aW,aU,aN.agg,List.getElem?_cons,Nat.reduceSub,Nat.reduceAdd,Nat.add_zero,Nat.zero_add,ne_eq,not_false_eq_true,true_and,Nat.one_ne_zero,Nat.succ_ne_self,Bool.false_eq_true,List.length,List.drop,List.take,if_true,if_false,reduceCtorEq,List.cons_ne_nil,Nat.le_refl,and_true,Nat.reduceLeDiff];refine⟨_,t,rfl,.cons (.d true _) .nil,st,λg0=> ?_⟩;refine bC rfl (aT rfl (by simp only [dOK];try decide) ?_);simp only [unA,aF,AE.ev,aG,aC,au,aJ,aO,St.put,aB,AE.look,aI,reduceIte,Nat.reduceEqDiff,aj,aH,aL,aW,aU,aN.agg,List.getElem?_cons,Nat.reduceSub,Nat.reduceAdd,Nat.add_zero,Nat.zero_add,ne_eq,not_false_eq_true,true_and,Nat.one_ne_zero,Nat.succ_ne_self,Bool.false_eq_true,List.length,List.drop,List.take,if_true,if_false,reduceCtorEq,List.cons_ne_nil,Nat.le_refl,and_true,Nat.reduceLeDiff];refine bC rfl (aT rfl (by simp only [dOK];try decide) ?_);simp only [AE.cb,aF,AE.ev,aG,aC,au,aJ,aO,St.put,aB,AE.look,aI,reduceIte,Nat.reduceEqDiff,aj,aH,aL,aW,aU,aN.agg,List.getElem?_cons,Nat.reduceSub,Nat.reduceAdd,Nat.add_zero,Nat.zero_add,ne_eq,not_false_eq_true,true_and,Nat.one_ne_zero,Nat.succ_ne_self,Bool.false_eq_true,List.length,List.drop,List.take,if_true,if_false,reduceCtorEq,List.cons_ne_nil,Nat.le_refl,and_true,Nat.reduceLeDiff];cases c0:bp (F.bB t)
  .simp only [Bool.not_false];refine iI (j:=3) (d:=16) (want:=false) (f:=true) (b:=true) rfl (by decide) 3 rfl rfl ?_;dsimp only [List.drop,List.take,skT];refine bC rfl (aT rfl (by simp only [dOK];try decide) ?_);simp only [gF,gP,forall_const,false_implies,AE.cb,aF,AE.ev,aG,aC,au,aJ,aO,St.put,aB,AE.look,aI,reduceIte,Nat.reduceEqDiff,aj,aH,aL,aW,aU,aN.agg,List.getElem?_cons,Nat.reduceSub,Nat.reduceAdd,Nat.add_zero,Nat.zero_add,ne_eq,not_false_eq_true,true_and,Nat.one_ne_zero,Nat.succ_ne_self,Bool.false_eq_true,List.length,List.drop,List.take,if_true,if_false,reduceCtorEq,List.cons_ne_nil,Nat.le_refl,and_true,Nat.reduceLeDiff];refine bC rfl (aT rfl (by simp only [dOK];try decide) ?_);simp only [aF,AE.ev,aG,aC,au,aJ,aO,St.put,aB,AE.look,aI,reduceIte,Nat.reduceEqDiff,aj,aH,aL,aW,aU,aN.agg,List.getElem?_cons,Nat.reduceSub,Nat.reduceAdd,Nat.add_zero,Nat.zero_add,ne_eq,not_false_eq_true,true_and,Nat.one_ne_zero,Nat.succ_ne_self,Bool.false_eq_true,List.length,List.drop,List.take,if_true,if_false,reduceCtorEq,List.cons_ne_nil,Nat.le_refl,and_true,Nat.reduceLeDiff];refine iI (j:=8) (d:=21) (want:=false) (f:=true) (b:=true) rfl (by decide) 3 rfl rfl ?_;dsimp only [List.drop,List.take,skT];refine bC rfl (aT rfl (by simp only [dOK];try decide) ?_);simp only [gF,gP,forall_const,false_implies,AE.cb,aF,AE.ev,aG,aC,au,aJ,aO,St.put,aB,AE.look,aI,reduceIte,Nat.reduceEqDiff,aj,aH,aL,aW,aU,aN.agg,List.getElem?_cons,Nat.reduceSub,Nat.reduceAdd,Nat.add_zero,Nat.zero_add,ne_eq,not_false_eq_true,true_and,Nat.one_ne_zero,Nat.succ_ne_self,Bool.false_eq_true,List.length,List.drop,List.take,if_true,if_false,reduceCtorEq,List.cons_ne_nil,Nat.le_refl,and_true,Nat.reduceLeDiff];refine bC rfl (aT rfl (by simp only [dOK];try decide) ?_);simp only [aF,AE.ev,aG,aC,au,aJ,aO,St.put,aB,AE.look,aI,reduceIte,Nat.reduceEqDiff,aj,aH,aL,aW,aU,aN.agg,List.getElem?_cons,Nat.reduceSub,Nat.reduceAdd,Nat.add_zero,Nat.zero_add,ne_eq,not_false_eq_true,true_and,Nat.one_ne_zero,Nat.succ_ne_self,Bool.false_eq_true,List.length,List.drop,List.take,if_true,if_false,reduceCtorEq,List.cons_ne_nil,Nat.le_refl,and_true,Nat.reduceLeDiff];refine iI (j:=13) (d:=26) (want:=false) (f:=true) (b:=true) rfl (by decide) 3 rfl rfl ?_;dsimp only [List.drop,List.take,skT];refine bC rfl (aT rfl (by simp only [dOK];try decide) ?_);simp only [gF,gP,forall_const,false_implies,AE.cb,aF,AE.ev,aG,aC,au,aJ,aO,St.put,aB,AE.look,aI,reduceIte,Nat.reduceEqDiff,aj,aH,aL,aW,aU,aN.agg,List.getElem?_cons,Nat.reduceSub,Nat.reduceAdd,Nat.add_zero,Nat.zero_add,ne_eq,not_false_eq_true,true_and,Nat.one_ne_zero,Nat.succ_ne_self,Bool.false_eq_true,List.length,List.drop,List.take,if_true,if_false,reduceCtorEq,List.cons_ne_nil,Nat.le_refl,and_true,Nat.reduceLeDiff];refine bC rfl (aT rfl (by simp only [dOK];try decide) ?_);simp only [aF,AE.ev,aG,aC,au,aJ,aO,St.put,aB,AE.look,aI,reduceIte,Nat.reduceEqDiff,aj,aH,aL,aW,aU,aN.agg,List.getElem?_cons,Nat.reduceSub,Nat.reduceAdd,Nat.add_zero,Nat.zero_add,ne_eq,not_false_eq_true,true_and,Nat.one_ne_zero,Nat.succ_ne_self,Bool.false_eq_true,List.length,List.drop,List.take,if_true,if_false,reduceCtorEq,List.cons_ne_nil,Nat.le_refl,and_true,Nat.reduceLeDiff];refine iI (j:=18) (d:=31) (want:=false) (f:=true) (b:=true) rfl (by decide) 6 rfl rfl ?_;dsimp only [List.drop,List.take,skT];refine bC rfl (aT rfl (by simp only [dOK];try decide) ?_);simp only [gF,gP,forall_const,false_implies,AE.cb,aF,AE.ev,aG,aC,au,aJ,aO,St.put,aB,AE.look,aI,reduceIte,Nat.reduceEqDiff,aj,aH,aL,aW,aU,aN.agg,List.getElem?_cons,Nat.reduceSub,Nat.reduceAdd,Nat.add_zero,Nat.zero_add,ne_eq,not_false_eq_true,true_and,Nat.one_ne_zero,Nat.succ_ne_self,Bool.false_eq_true,List.length,List.drop,List.take,if_true,if_false,reduceCtorEq,List.cons_ne_nil,Nat.le_refl,and_true,Nat.reduceLeDiff];refine bC rfl (aT rfl (by simp only [dOK];try decide) ?_);simp only [aF,AE.ev,aG,aC,au,aJ,aO,St.put,aB,AE.look,aI,reduceIte,Nat.reduceEqDiff,aj,aH,aL,aW,aU,aN.agg,List.getElem?_cons,Nat.reduceSub,Nat.reduceAdd,Nat.add_zero,Nat.zero_add,ne_eq,not_false_eq_true,true_and,Nat.one_ne_zero,Nat.succ_ne_self,Bool.false_eq_true,List.length,List.drop,List.take,if_true,if_false,reduceCtorEq,List.cons_ne_nil,Nat.le_refl,and_true,Nat.reduceLeDiff];refine iI (j:=26) (d:=39) (want:=false) (f:=true) (b:=true) rfl (by decide) 6 rfl rfl ?_;dsimp only [List.drop,List.take,skT];refine bC rfl (aT rfl (by simp only [dOK];try decide) ?_);simp only [gF,gP,forall_const,false_implies,AE.cb,aF,AE.ev,aG,aC,au,aJ,aO,St.put,aB,AE.look,aI,reduceIte,Nat.reduceEqDiff,aj,aH,aL,aW,aU,aN.agg,List.getElem?_cons,Nat.reduceSub,Nat.reduceAdd,Nat.add_zero,Nat.zero_add,ne_eq,not_false_eq_true,true_and,Nat.one_ne_zero,Nat.succ_ne_self,Bool.false_eq_true,List.length,List.drop,List.take,if_true,if_false,reduceCtorEq,List.cons_ne_nil,Nat.le_refl,and_true,Nat.reduceLeDiff];simp only [aP];refine hKK _ ⟨rfl,rfl,rfl,rfl,rfl,rfl,rfl,rfl,rfl,?_,?_,?_,?_,?_,λl hl=> ?_,_,rfl,λhb=> ?_,λhb=> ?_⟩
   .simp only [aF,AE.ev,aG,aC,au,aJ,aO,St.put,aB,AE.look,aI,reduceIte,Nat.reduceEqDiff,aj,aH,aL,aW,aU,aN.agg,List.getElem?_cons,Nat.reduceSub,Nat.reduceAdd,Nat.add_zero,Nat.zero_add,ne_eq,not_false_eq_true,true_and,Nat.one_ne_zero,Nat.succ_ne_self,Bool.false_eq_true,List.length,List.drop,List.take,if_true,if_false,reduceCtorEq,List.cons_ne_nil,Nat.le_refl,and_true,Nat.reduceLeDiff]
   .simp only [aF,AE.ev,aG,aC,au,aJ,aO,St.put,aB,AE.look,aI,reduceIte,Nat.reduceEqDiff,aj,aH,aL,aW,aU,aN.agg,List.getElem?_cons,Nat.reduceSub,Nat.reduceAdd,Nat.add_zero,Nat.zero_add,ne_eq,not_false_eq_true,true_and,Nat.one_ne_zero,Nat.succ_ne_self,Bool.false_eq_true,List.length,List.drop,List.take,if_true,if_false,reduceCtorEq,List.cons_ne_nil,Nat.le_refl,and_true,Nat.reduceLeDiff]
   .simp only [aF,AE.ev,aG,aC,au,aJ,aO,St.put,aB,AE.look,aI,reduceIte,Nat.reduceEqDiff,aj,aH,aL,aW,aU,aN.agg,List.getElem?_cons,Nat.reduceSub,Nat.reduceAdd,Nat.add_zero,Nat.zero_add,ne_eq,not_false_eq_true,true_and,Nat.one_ne_zero,Nat.succ_ne_self,Bool.false_eq_true,List.length,List.drop,List.take,if_true,if_false,reduceCtorEq,List.cons_ne_nil,Nat.le_refl,and_true,Nat.reduceLeDiff]
   .simp only [aF,AE.ev,aG,aC,au,aJ,aO,St.put,aB,AE.look,aI,reduceIte,Nat.reduceEqDiff,aj,aH,aL,aW,aU,aN.agg,List.getElem?_cons,Nat.reduceSub,Nat.reduceAdd,Nat.add_zero,Nat.zero_add,ne_eq,not_false_eq_true,true_and,Nat.one_ne_zero,Nat.succ_ne_self,Bool.false_eq_true,List.length,List.drop,List.take,if_true,if_false,reduceCtorEq,List.cons_ne_nil,Nat.le_refl,and_true,Nat.reduceLeDiff]
   .simp only [aF,AE.ev,aG,aC,au,aJ,aO,St.put,aB,AE.look,aI,reduceIte,Nat.reduceEqDiff,aj,aH,aL,aW,aU,aN.agg,List.getElem?_cons,Nat.reduceSub,Nat.reduceAdd,Nat.add_zero,Nat.zero_add,ne_eq,not_false_eq_true,true_and,Nat.one_ne_zero,Nat.succ_ne_self,Bool.false_eq_true,List.length,List.drop,List.take,if_true,if_false,reduceCtorEq,List.cons_ne_nil,Nat.le_refl,and_true,Nat.reduceLeDiff]
   .have a:∀q,nm n q≠l:=λq=>by unfold nm;omega
    rw [ak _ _ (a _),ak _ _ (a _),ak _ _ (a _),ak _ _ (a _),ak _ _ (a _)]
   .exact BJ t op x y (by simp only [List.length_map,c0,Bool.and_false,Bool.false_and])
   .exact absurd hb (by decide)
  simp only [Bool.not_true];refine kJ rfl rfl rfl rfl (by simp only [dOK];try decide) (aT rfl (by simp only [dOK];try decide) ?_);simp only [aF,AE.ev,aG,aC,au,aJ,aO,St.put,aB,AE.look,aI,reduceIte,Nat.reduceEqDiff,aj,aH,aL,aW,aU,aN.agg,List.getElem?_cons,Nat.reduceSub,Nat.reduceAdd,Nat.add_zero,Nat.zero_add,ne_eq,not_false_eq_true,true_and,Nat.one_ne_zero,Nat.succ_ne_self,Bool.false_eq_true,List.length,List.drop,List.take,if_true,if_false,reduceCtorEq,List.cons_ne_nil,Nat.le_refl,and_true,Nat.reduceLeDiff];refine kJ rfl rfl rfl rfl (by simp only [dOK];try decide) (qH rfl (by simp only [dOK];try decide) ?_);simp only [h36,dH,iO,fnA,gX,iL,List.map,List.append_nil,List.nil_append,List.cons_append,aF,AE.ev,aG,aC,au,aJ,aO,St.put,aB,AE.look,aI,reduceIte,Nat.reduceEqDiff,aj,aH,aL,aW,aU,aN.agg,List.getElem?_cons,Nat.reduceSub,Nat.reduceAdd,Nat.add_zero,Nat.zero_add,ne_eq,not_false_eq_true,true_and,Nat.one_ne_zero,Nat.succ_ne_self,Bool.false_eq_true,List.length,List.drop,List.take,if_true,if_false,reduceCtorEq,List.cons_ne_nil,Nat.le_refl,and_true,Nat.reduceLeDiff];refine⟨op,f,rfl,λg1=> ?_⟩;refine kJ rfl rfl rfl rfl (by simp only [dOK];try decide) (aT rfl (by simp only [dOK];try decide) ?_);simp only [unA,AE.cb,aF,AE.ev,aG,aC,au,aJ,aO,St.put,aB,AE.look,aI,reduceIte,Nat.reduceEqDiff,aj,aH,aL,aW,aU,aN.agg,List.getElem?_cons,Nat.reduceSub,Nat.reduceAdd,Nat.add_zero,Nat.zero_add,ne_eq,not_false_eq_true,true_and,Nat.one_ne_zero,Nat.succ_ne_self,Bool.false_eq_true,List.length,List.drop,List.take,if_true,if_false,reduceCtorEq,List.cons_ne_nil,Nat.le_refl,and_true,Nat.reduceLeDiff];cases c1:inB op 1 5
  .simp only [Bool.not_false];refine bC rfl (aT rfl (by simp only [dOK];try decide) ?_);simp only [gF,gP,forall_const,false_implies,AE.cb,aF,AE.ev,aG,aC,au,aJ,aO,St.put,aB,AE.look,aI,reduceIte,Nat.reduceEqDiff,aj,aH,aL,aW,aU,aN.agg,List.getElem?_cons,Nat.reduceSub,Nat.reduceAdd,Nat.add_zero,Nat.zero_add,ne_eq,not_false_eq_true,true_and,Nat.one_ne_zero,Nat.succ_ne_self,Bool.false_eq_true,List.length,List.drop,List.take,if_true,if_false,reduceCtorEq,List.cons_ne_nil,Nat.le_refl,and_true,Nat.reduceLeDiff];refine bC rfl (aT rfl (by simp only [dOK];try decide) ?_);simp only [aF,AE.ev,aG,aC,au,aJ,aO,St.put,aB,AE.look,aI,reduceIte,Nat.reduceEqDiff,aj,aH,aL,aW,aU,aN.agg,List.getElem?_cons,Nat.reduceSub,Nat.reduceAdd,Nat.add_zero,Nat.zero_add,ne_eq,not_false_eq_true,true_and,Nat.one_ne_zero,Nat.succ_ne_self,Bool.false_eq_true,List.length,List.drop,List.take,if_true,if_false,reduceCtorEq,List.cons_ne_nil,Nat.le_refl,and_true,Nat.reduceLeDiff];refine iI (j:=8) (d:=21) (want:=false) (f:=true) (b:=true) rfl (by decide) 3 rfl rfl ?_;dsimp only [List.drop,List.take,skT];refine bC rfl (aT rfl (by simp only [dOK];try decide) ?_);simp only [gF,gP,forall_const,false_implies,AE.cb,aF,AE.ev,aG,aC,au,aJ,aO,St.put,aB,AE.look,aI,reduceIte,Nat.reduceEqDiff,aj,aH,aL,aW,aU,aN.agg,List.getElem?_cons,Nat.reduceSub,Nat.reduceAdd,Nat.add_zero,Nat.zero_add,ne_eq,not_false_eq_true,true_and,Nat.one_ne_zero,Nat.succ_ne_self,Bool.false_eq_true,List.length,List.drop,List.take,if_true,if_false,reduceCtorEq,List.cons_ne_nil,Nat.le_refl,and_true,Nat.reduceLeDiff];refine bC rfl (aT rfl (by simp only [dOK];try decide) ?_);simp only [aF,AE.ev,aG,aC,au,aJ,aO,St.put,aB,AE.look,aI,reduceIte,Nat.reduceEqDiff,aj,aH,aL,aW,aU,aN.agg,List.getElem?_cons,Nat.reduceSub,Nat.reduceAdd,Nat.add_zero,Nat.zero_add,ne_eq,not_false_eq_true,true_and,Nat.one_ne_zero,Nat.succ_ne_self,Bool.false_eq_true,List.length,List.drop,List.take,if_true,if_false,reduceCtorEq,List.cons_ne_nil,Nat.le_refl,and_true,Nat.reduceLeDiff];refine iI (j:=13) (d:=26) (want:=false) (f:=true) (b:=true) rfl (by decide) 3 rfl rfl ?_;dsimp only [List.drop,List.take,skT];refine bC rfl (aT rfl (by simp only [dOK];try decide) ?_);simp only [gF,gP,forall_const,false_implies,AE.cb,aF,AE.ev,aG,aC,au,aJ,aO,St.put,aB,AE.look,aI,reduceIte,Nat.reduceEqDiff,aj,aH,aL,aW,aU,aN.agg,List.getElem?_cons,Nat.reduceSub,Nat.reduceAdd,Nat.add_zero,Nat.zero_add,ne_eq,not_false_eq_true,true_and,Nat.one_ne_zero,Nat.succ_ne_self,Bool.false_eq_true,List.length,List.drop,List.take,if_true,if_false,reduceCtorEq,List.cons_ne_nil,Nat.le_refl,and_true,Nat.reduceLeDiff];refine bC rfl (aT rfl (by simp only [dOK];try decide) ?_);simp only [aF,AE.ev,aG,aC,au,aJ,aO,St.put,aB,AE.look,aI,reduceIte,Nat.reduceEqDiff,aj,aH,aL,aW,aU,aN.agg,List.getElem?_cons,Nat.reduceSub,Nat.reduceAdd,Nat.add_zero,Nat.zero_add,ne_eq,not_false_eq_true,true_and,Nat.one_ne_zero,Nat.succ_ne_self,Bool.false_eq_true,List.length,List.drop,List.take,if_true,if_false,reduceCtorEq,List.cons_ne_nil,Nat.le_refl,and_true,Nat.reduceLeDiff];refine iI (j:=18) (d:=31) (want:=false) (f:=true) (b:=true) rfl (by decide) 6 rfl rfl ?_;dsimp only [List.drop,List.take,skT];refine bC rfl (aT rfl (by simp only [dOK];try decide) ?_);simp only [gF,gP,forall_const,false_implies,AE.cb,aF,AE.ev,aG,aC,au,aJ,aO,St.put,aB,AE.look,aI,reduceIte,Nat.reduceEqDiff,aj,aH,aL,aW,aU,aN.agg,List.getElem?_cons,Nat.reduceSub,Nat.reduceAdd,Nat.add_zero,Nat.zero_add,ne_eq,not_false_eq_true,true_and,Nat.one_ne_zero,Nat.succ_ne_self,Bool.false_eq_true,List.length,List.drop,List.take,if_true,if_false,reduceCtorEq,List.cons_ne_nil,Nat.le_refl,and_true,Nat.reduceLeDiff];refine bC rfl (aT rfl (by simp only [dOK];try decide) ?_);simp only [aF,AE.ev,aG,aC,au,aJ,aO,St.put,aB,AE.look,aI,reduceIte,Nat.reduceEqDiff,aj,aH,aL,aW,aU,aN.agg,List.getElem?_cons,Nat.reduceSub,Nat.reduceAdd,Nat.add_zero,Nat.zero_add,ne_eq,not_false_eq_true,true_and,Nat.one_ne_zero,Nat.succ_ne_self,Bool.false_eq_true,List.length,List.drop,List.take,if_true,if_false,reduceCtorEq,List.cons_ne_nil,Nat.le_refl,and_true,Nat.reduceLeDiff];refine iI (j:=26) (d:=39) (want:=false) (f:=true) (b:=true) rfl (by decide) 6 rfl rfl ?_;dsimp only [List.drop,List.take,skT];refine bC rfl (aT rfl (by simp only [dOK];try decide) ?_);simp only [gF,gP,forall_const,false_implies,AE.cb,aF,AE.ev,aG,aC,au,aJ,aO,St.put,aB,AE.look,aI,reduceIte,Nat.reduceEqDiff,aj,aH,aL,aW,aU,aN.agg,List.getElem?_cons,Nat.reduceSub,Nat.reduceAdd,Nat.add_zero,Nat.zero_add,ne_eq,not_false_eq_true,true_and,Nat.one_ne_zero,Nat.succ_ne_self,Bool.false_eq_true,List.length,List.drop,List.take,if_true,if_false,reduceCtorEq,List.cons_ne_nil,Nat.le_refl,and_true,Nat.reduceLeDiff];simp only [aP];refine hKK _ ⟨rfl,rfl,rfl,rfl,rfl,rfl,rfl,rfl,rfl,?_,?_,?_,?_,?_,λl hl=> ?_,_,rfl,λhb=> ?_,λhb=> ?_⟩
   .simp only [aF,AE.ev,aG,aC,au,aJ,aO,St.put,aB,AE.look,aI,reduceIte,Nat.reduceEqDiff,aj,aH,aL,aW,aU,aN.agg,List.getElem?_cons,Nat.reduceSub,Nat.reduceAdd,Nat.add_zero,Nat.zero_add,ne_eq,not_false_eq_true,true_and,Nat.one_ne_zero,Nat.succ_ne_self,Bool.false_eq_true,List.length,List.drop,List.take,if_true,if_false,reduceCtorEq,List.cons_ne_nil,Nat.le_refl,and_true,Nat.reduceLeDiff]
   .simp only [aF,AE.ev,aG,aC,au,aJ,aO,St.put,aB,AE.look,aI,reduceIte,Nat.reduceEqDiff,aj,aH,aL,aW,aU,aN.agg,List.getElem?_cons,Nat.reduceSub,Nat.reduceAdd,Nat.add_zero,Nat.zero_add,ne_eq,not_false_eq_true,true_and,Nat.one_ne_zero,Nat.succ_ne_self,Bool.false_eq_true,List.length,List.drop,List.take,if_true,if_false,reduceCtorEq,List.cons_ne_nil,Nat.le_refl,and_true,Nat.reduceLeDiff]
   .simp only [aF,AE.ev,aG,aC,au,aJ,aO,St.put,aB,AE.look,aI,reduceIte,Nat.reduceEqDiff,aj,aH,aL,aW,aU,aN.agg,List.getElem?_cons,Nat.reduceSub,Nat.reduceAdd,Nat.add_zero,Nat.zero_add,ne_eq,not_false_eq_true,true_and,Nat.one_ne_zero,Nat.succ_ne_self,Bool.false_eq_true,List.length,List.drop,List.take,if_true,if_false,reduceCtorEq,List.cons_ne_nil,Nat.le_refl,and_true,Nat.reduceLeDiff]
   .simp only [aF,AE.ev,aG,aC,au,aJ,aO,St.put,aB,AE.look,aI,reduceIte,Nat.reduceEqDiff,aj,aH,aL,aW,aU,aN.agg,List.getElem?_cons,Nat.reduceSub,Nat.reduceAdd,Nat.add_zero,Nat.zero_add,ne_eq,not_false_eq_true,true_and,Nat.one_ne_zero,Nat.succ_ne_self,Bool.false_eq_true,List.length,List.drop,List.take,if_true,if_false,reduceCtorEq,List.cons_ne_nil,Nat.le_refl,and_true,Nat.reduceLeDiff]
   .simp only [aF,AE.ev,aG,aC,au,aJ,aO,St.put,aB,AE.look,aI,reduceIte,Nat.reduceEqDiff,aj,aH,aL,aW,aU,aN.agg,List.getElem?_cons,Nat.reduceSub,Nat.reduceAdd,Nat.add_zero,Nat.zero_add,ne_eq,not_false_eq_true,true_and,Nat.one_ne_zero,Nat.succ_ne_self,Bool.false_eq_true,List.length,List.drop,List.take,if_true,if_false,reduceCtorEq,List.cons_ne_nil,Nat.le_refl,and_true,Nat.reduceLeDiff]
   .have a:∀q,nm n q≠l:=λq=>by unfold nm;omega
    rw [ak _ _ (a _),ak _ _ (a _),ak _ _ (a _),ak _ _ (a _),ak _ _ (a _)]
   .exact BJ t op x y (by simp only [List.length_map,c1,Bool.and_false,Bool.false_and])
   .exact absurd hb (by decide)
  simp only [Bool.not_true];refine bC rfl (aT rfl (by simp only [dOK];try decide) ?_);simp only [gF,gP,forall_const,false_implies,AE.cb,aF,AE.ev,aG,aC,au,aJ,aO,St.put,aB,AE.look,aI,reduceIte,Nat.reduceEqDiff,aj,aH,aL,aW,aU,aN.agg,List.getElem?_cons,Nat.reduceSub,Nat.reduceAdd,Nat.add_zero,Nat.zero_add,ne_eq,not_false_eq_true,true_and,Nat.one_ne_zero,Nat.succ_ne_self,Bool.false_eq_true,List.length,List.drop,List.take,if_true,if_false,reduceCtorEq,List.cons_ne_nil,Nat.le_refl,and_true,Nat.reduceLeDiff];refine bC rfl (aT rfl (by simp only [dOK];try decide) ?_);simp only [aF,AE.ev,aG,aC,au,aJ,aO,St.put,aB,AE.look,aI,reduceIte,Nat.reduceEqDiff,aj,aH,aL,aW,aU,aN.agg,List.getElem?_cons,Nat.reduceSub,Nat.reduceAdd,Nat.add_zero,Nat.zero_add,ne_eq,not_false_eq_true,true_and,Nat.one_ne_zero,Nat.succ_ne_self,Bool.false_eq_true,List.length,List.drop,List.take,if_true,if_false,reduceCtorEq,List.cons_ne_nil,Nat.le_refl,and_true,Nat.reduceLeDiff];refine kJ rfl rfl rfl rfl (by simp only [dOK];try decide) (aT rfl (by simp only [dOK];try decide) ?_);simp only [t35,aF,AE.ev,aG,aC,au,aJ,aO,St.put,aB,AE.look,aI,reduceIte,Nat.reduceEqDiff,aj,aH,aL,aW,aU,aN.agg,List.getElem?_cons,Nat.reduceSub,Nat.reduceAdd,Nat.add_zero,Nat.zero_add,ne_eq,not_false_eq_true,true_and,Nat.one_ne_zero,Nat.succ_ne_self,Bool.false_eq_true,List.length,List.drop,List.take,if_true,if_false,reduceCtorEq,List.cons_ne_nil,Nat.le_refl,and_true,Nat.reduceLeDiff];refine kJ rfl rfl rfl rfl (by simp only [dOK];try decide) (qH rfl (by simp only [dOK];try decide) ?_);simp only [h37,dH,iO,fnA,gX,iL,List.map,List.append_nil,List.nil_append,List.cons_append,aF,AE.ev,aG,aC,au,aJ,aO,St.put,aB,AE.look,aI,reduceIte,Nat.reduceEqDiff,aj,aH,aL,aW,aU,aN.agg,List.getElem?_cons,Nat.reduceSub,Nat.reduceAdd,Nat.add_zero,Nat.zero_add,ne_eq,not_false_eq_true,true_and,Nat.one_ne_zero,Nat.succ_ne_self,Bool.false_eq_true,List.length,List.drop,List.take,if_true,if_false,reduceCtorEq,List.cons_ne_nil,Nat.le_refl,and_true,Nat.reduceLeDiff];refine⟨_,x,rfl,.cons (.d true _) .nil,sx,λg2=> ?_⟩;refine kJ rfl rfl rfl rfl (by simp only [dOK];try decide) (aT rfl (by simp only [dOK];try decide) ?_);simp only [unA,AE.cb,aF,AE.ev,aG,aC,au,aJ,aO,St.put,aB,AE.look,aI,reduceIte,Nat.reduceEqDiff,aj,aH,aL,aW,aU,aN.agg,List.getElem?_cons,Nat.reduceSub,Nat.reduceAdd,Nat.add_zero,Nat.zero_add,ne_eq,not_false_eq_true,true_and,Nat.one_ne_zero,Nat.succ_ne_self,Bool.false_eq_true,List.length,List.drop,List.take,if_true,if_false,reduceCtorEq,List.cons_ne_nil,Nat.le_refl,and_true,Nat.reduceLeDiff];cases c2:bp (F.bK x)
  .simp only [Bool.not_false];refine bC rfl (aT rfl (by simp only [dOK];try decide) ?_);simp only [gF,gP,forall_const,false_implies,AE.cb,aF,AE.ev,aG,aC,au,aJ,aO,St.put,aB,AE.look,aI,reduceIte,Nat.reduceEqDiff,aj,aH,aL,aW,aU,aN.agg,List.getElem?_cons,Nat.reduceSub,Nat.reduceAdd,Nat.add_zero,Nat.zero_add,ne_eq,not_false_eq_true,true_and,Nat.one_ne_zero,Nat.succ_ne_self,Bool.false_eq_true,List.length,List.drop,List.take,if_true,if_false,reduceCtorEq,List.cons_ne_nil,Nat.le_refl,and_true,Nat.reduceLeDiff];refine bC rfl (aT rfl (by simp only [dOK];try decide) ?_);simp only [aF,AE.ev,aG,aC,au,aJ,aO,St.put,aB,AE.look,aI,reduceIte,Nat.reduceEqDiff,aj,aH,aL,aW,aU,aN.agg,List.getElem?_cons,Nat.reduceSub,Nat.reduceAdd,Nat.add_zero,Nat.zero_add,ne_eq,not_false_eq_true,true_and,Nat.one_ne_zero,Nat.succ_ne_self,Bool.false_eq_true,List.length,List.drop,List.take,if_true,if_false,reduceCtorEq,List.cons_ne_nil,Nat.le_refl,and_true,Nat.reduceLeDiff];refine iI (j:=13) (d:=26) (want:=false) (f:=true) (b:=true) rfl (by decide) 3 rfl rfl ?_;dsimp only [List.drop,List.take,skT];refine bC rfl (aT rfl (by simp only [dOK];try decide) ?_);simp only [gF,gP,forall_const,false_implies,AE.cb,aF,AE.ev,aG,aC,au,aJ,aO,St.put,aB,AE.look,aI,reduceIte,Nat.reduceEqDiff,aj,aH,aL,aW,aU,aN.agg,List.getElem?_cons,Nat.reduceSub,Nat.reduceAdd,Nat.add_zero,Nat.zero_add,ne_eq,not_false_eq_true,true_and,Nat.one_ne_zero,Nat.succ_ne_self,Bool.false_eq_true,List.length,List.drop,List.take,if_true,if_false,reduceCtorEq,List.cons_ne_nil,Nat.le_refl,and_true,Nat.reduceLeDiff];refine bC rfl (aT rfl (by simp only [dOK];try decide) ?_);simp only [aF,AE.ev,aG,aC,au,aJ,aO,St.put,aB,AE.look,aI,reduceIte,Nat.reduceEqDiff,aj,aH,aL,aW,aU,aN.agg,List.getElem?_cons,Nat.reduceSub,Nat.reduceAdd,Nat.add_zero,Nat.zero_add,ne_eq,not_false_eq_true,true_and,Nat.one_ne_zero,Nat.succ_ne_self,Bool.false_eq_true,List.length,List.drop,List.take,if_true,if_false,reduceCtorEq,List.cons_ne_nil,Nat.le_refl,and_true,Nat.reduceLeDiff];refine iI (j:=18) (d:=31) (want:=false) (f:=true) (b:=true) rfl (by decide) 6 rfl rfl ?_;dsimp only [List.drop,List.take,skT];refine bC rfl (aT rfl (by simp only [dOK];try decide) ?_);simp only [gF,gP,forall_const,false_implies,AE.cb,aF,AE.ev,aG,aC,au,aJ,aO,St.put,aB,AE.look,aI,reduceIte,Nat.reduceEqDiff,aj,aH,aL,aW,aU,aN.agg,List.getElem?_cons,Nat.reduceSub,Nat.reduceAdd,Nat.add_zero,Nat.zero_add,ne_eq,not_false_eq_true,true_and,Nat.one_ne_zero,Nat.succ_ne_self,Bool.false_eq_true,List.length,List.drop,List.take,if_true,if_false,reduceCtorEq,List.cons_ne_nil,Nat.le_refl,and_true,Nat.reduceLeDiff];refine bC rfl (aT rfl (by simp only [dOK];try decide) ?_);simp only [aF,AE.ev,aG,aC,au,aJ,aO,St.put,aB,AE.look,aI,reduceIte,Nat.reduceEqDiff,aj,aH,aL,aW,aU,aN.agg,List.getElem?_cons,Nat.reduceSub,Nat.reduceAdd,Nat.add_zero,Nat.zero_add,ne_eq,not_false_eq_true,true_and,Nat.one_ne_zero,Nat.succ_ne_self,Bool.false_eq_true,List.length,List.drop,List.take,if_true,if_false,reduceCtorEq,List.cons_ne_nil,Nat.le_refl,and_true,Nat.reduceLeDiff];refine iI (j:=26) (d:=39) (want:=false) (f:=true) (b:=true) rfl (by decide) 6 rfl rfl ?_;dsimp only [List.drop,List.take,skT];refine bC rfl (aT rfl (by simp only [dOK];try decide) ?_);simp only [gF,gP,forall_const,false_implies,AE.cb,aF,AE.ev,aG,aC,au,aJ,aO,St.put,aB,AE.look,aI,reduceIte,Nat.reduceEqDiff,aj,aH,aL,aW,aU,aN.agg,List.getElem?_cons,Nat.reduceSub,Nat.reduceAdd,Nat.add_zero,Nat.zero_add,ne_eq,not_false_eq_true,true_and,Nat.one_ne_zero,Nat.succ_ne_self,Bool.false_eq_true,List.length,List.drop,List.take,if_true,if_false,reduceCtorEq,List.cons_ne_nil,Nat.le_refl,and_true,Nat.reduceLeDiff];simp only [aP];refine hKK _ ⟨rfl,rfl,rfl,rfl,rfl,rfl,rfl,rfl,rfl,?_,?_,?_,?_,?_,λl hl=> ?_,_,rfl,λhb=> ?_,λhb=> ?_⟩
   .simp only [aF,AE.ev,aG,aC,au,aJ,aO,St.put,aB,AE.look,aI,reduceIte,Nat.reduceEqDiff,aj,aH,aL,aW,aU,aN.agg,List.getElem?_cons,Nat.reduceSub,Nat.reduceAdd,Nat.add_zero,Nat.zero_add,ne_eq,not_false_eq_true,true_and,Nat.one_ne_zero,Nat.succ_ne_self,Bool.false_eq_true,List.length,List.drop,List.take,if_true,if_false,reduceCtorEq,List.cons_ne_nil,Nat.le_refl,and_true,Nat.reduceLeDiff]
   .simp only [aF,AE.ev,aG,aC,au,aJ,aO,St.put,aB,AE.look,aI,reduceIte,Nat.reduceEqDiff,aj,aH,aL,aW,aU,aN.agg,List.getElem?_cons,Nat.reduceSub,Nat.reduceAdd,Nat.add_zero,Nat.zero_add,ne_eq,not_false_eq_true,true_and,Nat.one_ne_zero,Nat.succ_ne_self,Bool.false_eq_true,List.length,List.drop,List.take,if_true,if_false,reduceCtorEq,List.cons_ne_nil,Nat.le_refl,and_true,Nat.reduceLeDiff]
   .simp only [aF,AE.ev,aG,aC,au,aJ,aO,St.put,aB,AE.look,aI,reduceIte,Nat.reduceEqDiff,aj,aH,aL,aW,aU,aN.agg,List.getElem?_cons,Nat.reduceSub,Nat.reduceAdd,Nat.add_zero,Nat.zero_add,ne_eq,not_false_eq_true,true_and,Nat.one_ne_zero,Nat.succ_ne_self,Bool.false_eq_true,List.length,List.drop,List.take,if_true,if_false,reduceCtorEq,List.cons_ne_nil,Nat.le_refl,and_true,Nat.reduceLeDiff]
   .simp only [aF,AE.ev,aG,aC,au,aJ,aO,St.put,aB,AE.look,aI,reduceIte,Nat.reduceEqDiff,aj,aH,aL,aW,aU,aN.agg,List.getElem?_cons,Nat.reduceSub,Nat.reduceAdd,Nat.add_zero,Nat.zero_add,ne_eq,not_false_eq_true,true_and,Nat.one_ne_zero,Nat.succ_ne_self,Bool.false_eq_true,List.length,List.drop,List.take,if_true,if_false,reduceCtorEq,List.cons_ne_nil,Nat.le_refl,and_true,Nat.reduceLeDiff]
   .simp only [aF,AE.ev,aG,aC,au,aJ,aO,St.put,aB,AE.look,aI,reduceIte,Nat.reduceEqDiff,aj,aH,aL,aW,aU,aN.agg,List.getElem?_cons,Nat.reduceSub,Nat.reduceAdd,Nat.add_zero,Nat.zero_add,ne_eq,not_false_eq_true,true_and,Nat.one_ne_zero,Nat.succ_ne_self,Bool.false_eq_true,List.length,List.drop,List.take,if_true,if_false,reduceCtorEq,List.cons_ne_nil,Nat.le_refl,and_true,Nat.reduceLeDiff]
   .have a:∀q,nm n q≠l:=λq=>by unfold nm;omega
    rw [ak _ _ (a _),ak _ _ (a _),ak _ _ (a _),ak _ _ (a _),ak _ _ (a _)]
   .exact BJ t op x y (by simp only [List.length_map,c2,Bool.and_false,Bool.false_and])
   .exact absurd hb (by decide)
  simp only [Bool.not_true];refine bC rfl (aT rfl (by simp only [dOK];try decide) ?_);simp only [gF,gP,forall_const,false_implies,AE.cb,aF,AE.ev,aG,aC,au,aJ,aO,St.put,aB,AE.look,aI,reduceIte,Nat.reduceEqDiff,aj,aH,aL,aW,aU,aN.agg,List.getElem?_cons,Nat.reduceSub,Nat.reduceAdd,Nat.add_zero,Nat.zero_add,ne_eq,not_false_eq_true,true_and,Nat.one_ne_zero,Nat.succ_ne_self,Bool.false_eq_true,List.length,List.drop,List.take,if_true,if_false,reduceCtorEq,List.cons_ne_nil,Nat.le_refl,and_true,Nat.reduceLeDiff];refine bC rfl (aT rfl (by simp only [dOK];try decide) ?_);simp only [aF,AE.ev,aG,aC,au,aJ,aO,St.put,aB,AE.look,aI,reduceIte,Nat.reduceEqDiff,aj,aH,aL,aW,aU,aN.agg,List.getElem?_cons,Nat.reduceSub,Nat.reduceAdd,Nat.add_zero,Nat.zero_add,ne_eq,not_false_eq_true,true_and,Nat.one_ne_zero,Nat.succ_ne_self,Bool.false_eq_true,List.length,List.drop,List.take,if_true,if_false,reduceCtorEq,List.cons_ne_nil,Nat.le_refl,and_true,Nat.reduceLeDiff];refine kJ rfl rfl rfl rfl (by simp only [dOK];try decide) (aT rfl (by simp only [dOK];try decide) ?_);simp only [t35,aF,AE.ev,aG,aC,au,aJ,aO,St.put,aB,AE.look,aI,reduceIte,Nat.reduceEqDiff,aj,aH,aL,aW,aU,aN.agg,List.getElem?_cons,Nat.reduceSub,Nat.reduceAdd,Nat.add_zero,Nat.zero_add,ne_eq,not_false_eq_true,true_and,Nat.one_ne_zero,Nat.succ_ne_self,Bool.false_eq_true,List.length,List.drop,List.take,if_true,if_false,reduceCtorEq,List.cons_ne_nil,Nat.le_refl,and_true,Nat.reduceLeDiff];refine kJ rfl rfl rfl rfl (by simp only [dOK];try decide) (qH rfl (by simp only [dOK];try decide) ?_);simp only [h37,dH,iO,fnA,gX,iL,List.map,List.append_nil,List.nil_append,List.cons_append,aF,AE.ev,aG,aC,au,aJ,aO,St.put,aB,AE.look,aI,reduceIte,Nat.reduceEqDiff,aj,aH,aL,aW,aU,aN.agg,List.getElem?_cons,Nat.reduceSub,Nat.reduceAdd,Nat.add_zero,Nat.zero_add,ne_eq,not_false_eq_true,true_and,Nat.one_ne_zero,Nat.succ_ne_self,Bool.false_eq_true,List.length,List.drop,List.take,if_true,if_false,reduceCtorEq,List.cons_ne_nil,Nat.le_refl,and_true,Nat.reduceLeDiff];refine⟨_,y,rfl,.cons (.d true _) .nil,sy,λg3=> ?_⟩;refine kJ rfl rfl rfl rfl (by simp only [dOK];try decide) (aT rfl (by simp only [dOK];try decide) ?_);simp only [unA,AE.cb,aF,AE.ev,aG,aC,au,aJ,aO,St.put,aB,AE.look,aI,reduceIte,Nat.reduceEqDiff,aj,aH,aL,aW,aU,aN.agg,List.getElem?_cons,Nat.reduceSub,Nat.reduceAdd,Nat.add_zero,Nat.zero_add,ne_eq,not_false_eq_true,true_and,Nat.one_ne_zero,Nat.succ_ne_self,Bool.false_eq_true,List.length,List.drop,List.take,if_true,if_false,reduceCtorEq,List.cons_ne_nil,Nat.le_refl,and_true,Nat.reduceLeDiff];cases c3:bp (F.bK y)
  .simp only [Bool.not_false];refine bC rfl (aT rfl (by simp only [dOK];try decide) ?_);simp only [gF,gP,forall_const,false_implies,AE.cb,aF,AE.ev,aG,aC,au,aJ,aO,St.put,aB,AE.look,aI,reduceIte,Nat.reduceEqDiff,aj,aH,aL,aW,aU,aN.agg,List.getElem?_cons,Nat.reduceSub,Nat.reduceAdd,Nat.add_zero,Nat.zero_add,ne_eq,not_false_eq_true,true_and,Nat.one_ne_zero,Nat.succ_ne_self,Bool.false_eq_true,List.length,List.drop,List.take,if_true,if_false,reduceCtorEq,List.cons_ne_nil,Nat.le_refl,and_true,Nat.reduceLeDiff];refine bC rfl (aT rfl (by simp only [dOK];try decide) ?_);simp only [aF,AE.ev,aG,aC,au,aJ,aO,St.put,aB,AE.look,aI,reduceIte,Nat.reduceEqDiff,aj,aH,aL,aW,aU,aN.agg,List.getElem?_cons,Nat.reduceSub,Nat.reduceAdd,Nat.add_zero,Nat.zero_add,ne_eq,not_false_eq_true,true_and,Nat.one_ne_zero,Nat.succ_ne_self,Bool.false_eq_true,List.length,List.drop,List.take,if_true,if_false,reduceCtorEq,List.cons_ne_nil,Nat.le_refl,and_true,Nat.reduceLeDiff];refine iI (j:=18) (d:=31) (want:=false) (f:=true) (b:=true) rfl (by decide) 6 rfl rfl ?_;dsimp only [List.drop,List.take,skT];refine bC rfl (aT rfl (by simp only [dOK];try decide) ?_);simp only [gF,gP,forall_const,false_implies,AE.cb,aF,AE.ev,aG,aC,au,aJ,aO,St.put,aB,AE.look,aI,reduceIte,Nat.reduceEqDiff,aj,aH,aL,aW,aU,aN.agg,List.getElem?_cons,Nat.reduceSub,Nat.reduceAdd,Nat.add_zero,Nat.zero_add,ne_eq,not_false_eq_true,true_and,Nat.one_ne_zero,Nat.succ_ne_self,Bool.false_eq_true,List.length,List.drop,List.take,if_true,if_false,reduceCtorEq,List.cons_ne_nil,Nat.le_refl,and_true,Nat.reduceLeDiff];refine bC rfl (aT rfl (by simp only [dOK];try decide) ?_);simp only [aF,AE.ev,aG,aC,au,aJ,aO,St.put,aB,AE.look,aI,reduceIte,Nat.reduceEqDiff,aj,aH,aL,aW,aU,aN.agg,List.getElem?_cons,Nat.reduceSub,Nat.reduceAdd,Nat.add_zero,Nat.zero_add,ne_eq,not_false_eq_true,true_and,Nat.one_ne_zero,Nat.succ_ne_self,Bool.false_eq_true,List.length,List.drop,List.take,if_true,if_false,reduceCtorEq,List.cons_ne_nil,Nat.le_refl,and_true,Nat.reduceLeDiff];refine iI (j:=26) (d:=39) (want:=false) (f:=true) (b:=true) rfl (by decide) 6 rfl rfl ?_;dsimp only [List.drop,List.take,skT];refine bC rfl (aT rfl (by simp only [dOK];try decide) ?_);simp only [gF,gP,forall_const,false_implies,AE.cb,aF,AE.ev,aG,aC,au,aJ,aO,St.put,aB,AE.look,aI,reduceIte,Nat.reduceEqDiff,aj,aH,aL,aW,aU,aN.agg,List.getElem?_cons,Nat.reduceSub,Nat.reduceAdd,Nat.add_zero,Nat.zero_add,ne_eq,not_false_eq_true,true_and,Nat.one_ne_zero,Nat.succ_ne_self,Bool.false_eq_true,List.length,List.drop,List.take,if_true,if_false,reduceCtorEq,List.cons_ne_nil,Nat.le_refl,and_true,Nat.reduceLeDiff];simp only [aP];refine hKK _ ⟨rfl,rfl,rfl,rfl,rfl,rfl,rfl,rfl,rfl,?_,?_,?_,?_,?_,λl hl=> ?_,_,rfl,λhb=> ?_,λhb=> ?_⟩
   .simp only [aF,AE.ev,aG,aC,au,aJ,aO,St.put,aB,AE.look,aI,reduceIte,Nat.reduceEqDiff,aj,aH,aL,aW,aU,aN.agg,List.getElem?_cons,Nat.reduceSub,Nat.reduceAdd,Nat.add_zero,Nat.zero_add,ne_eq,not_false_eq_true,true_and,Nat.one_ne_zero,Nat.succ_ne_self,Bool.false_eq_true,List.length,List.drop,List.take,if_true,if_false,reduceCtorEq,List.cons_ne_nil,Nat.le_refl,and_true,Nat.reduceLeDiff]
   .simp only [aF,AE.ev,aG,aC,au,aJ,aO,St.put,aB,AE.look,aI,reduceIte,Nat.reduceEqDiff,aj,aH,aL,aW,aU,aN.agg,List.getElem?_cons,Nat.reduceSub,Nat.reduceAdd,Nat.add_zero,Nat.zero_add,ne_eq,not_false_eq_true,true_and,Nat.one_ne_zero,Nat.succ_ne_self,Bool.false_eq_true,List.length,List.drop,List.take,if_true,if_false,reduceCtorEq,List.cons_ne_nil,Nat.le_refl,and_true,Nat.reduceLeDiff]
   .simp only [aF,AE.ev,aG,aC,au,aJ,aO,St.put,aB,AE.look,aI,reduceIte,Nat.reduceEqDiff,aj,aH,aL,aW,aU,aN.agg,List.getElem?_cons,Nat.reduceSub,Nat.reduceAdd,Nat.add_zero,Nat.zero_add,ne_eq,not_false_eq_true,true_and,Nat.one_ne_zero,Nat.succ_ne_self,Bool.false_eq_true,List.length,List.drop,List.take,if_true,if_false,reduceCtorEq,List.cons_ne_nil,Nat.le_refl,and_true,Nat.reduceLeDiff]
   .simp only [aF,AE.ev,aG,aC,au,aJ,aO,St.put,aB,AE.look,aI,reduceIte,Nat.reduceEqDiff,aj,aH,aL,aW,aU,aN.agg,List.getElem?_cons,Nat.reduceSub,Nat.reduceAdd,Nat.add_zero,Nat.zero_add,ne_eq,not_false_eq_true,true_and,Nat.one_ne_zero,Nat.succ_ne_self,Bool.false_eq_true,List.length,List.drop,List.take,if_true,if_false,reduceCtorEq,List.cons_ne_nil,Nat.le_refl,and_true,Nat.reduceLeDiff]
   .simp only [aF,AE.ev,aG,aC,au,aJ,aO,St.put,aB,AE.look,aI,reduceIte,Nat.reduceEqDiff,aj,aH,aL,aW,aU,aN.agg,List.getElem?_cons,Nat.reduceSub,Nat.reduceAdd,Nat.add_zero,Nat.zero_add,ne_eq,not_false_eq_true,true_and,Nat.one_ne_zero,Nat.succ_ne_self,Bool.false_eq_true,List.length,List.drop,List.take,if_true,if_false,reduceCtorEq,List.cons_ne_nil,Nat.le_refl,and_true,Nat.reduceLeDiff]
   .have a:∀q,nm n q≠l:=λq=>by unfold nm;omega
    rw [ak _ _ (a _),ak _ _ (a _),ak _ _ (a _),ak _ _ (a _),ak _ _ (a _)]
   .exact BJ t op x y (by simp only [List.length_map,c3,Bool.and_false,Bool.false_and])
   .exact absurd hb (by decide)
  simp only [Bool.not_true];refine bC rfl (aT rfl (by simp only [dOK];try decide) ?_);simp only [gF,gP,forall_const,false_implies,AE.cb,aF,AE.ev,aG,aC,au,aJ,aO,St.put,aB,AE.look,aI,reduceIte,Nat.reduceEqDiff,aj,aH,aL,aW,aU,aN.agg,List.getElem?_cons,Nat.reduceSub,Nat.reduceAdd,Nat.add_zero,Nat.zero_add,ne_eq,not_false_eq_true,true_and,Nat.one_ne_zero,Nat.succ_ne_self,Bool.false_eq_true,List.length,List.drop,List.take,if_true,if_false,reduceCtorEq,List.cons_ne_nil,Nat.le_refl,and_true,Nat.reduceLeDiff];refine bC rfl (aT rfl (by simp only [dOK];try decide) ?_);simp only [aF,AE.ev,aG,aC,au,aJ,aO,St.put,aB,AE.look,aI,reduceIte,Nat.reduceEqDiff,aj,aH,aL,aW,aU,aN.agg,List.getElem?_cons,Nat.reduceSub,Nat.reduceAdd,Nat.add_zero,Nat.zero_add,ne_eq,not_false_eq_true,true_and,Nat.one_ne_zero,Nat.succ_ne_self,Bool.false_eq_true,List.length,List.drop,List.take,if_true,if_false,reduceCtorEq,List.cons_ne_nil,Nat.le_refl,and_true,Nat.reduceLeDiff];refine kJ rfl rfl rfl rfl (by simp only [dOK];try decide) (aT rfl (by simp only [dOK];try decide) ?_);simp only [t35,aF,AE.ev,aG,aC,au,aJ,aO,St.put,aB,AE.look,aI,reduceIte,Nat.reduceEqDiff,aj,aH,aL,aW,aU,aN.agg,List.getElem?_cons,Nat.reduceSub,Nat.reduceAdd,Nat.add_zero,Nat.zero_add,ne_eq,not_false_eq_true,true_and,Nat.one_ne_zero,Nat.succ_ne_self,Bool.false_eq_true,List.length,List.drop,List.take,if_true,if_false,reduceCtorEq,List.cons_ne_nil,Nat.le_refl,and_true,Nat.reduceLeDiff];refine kJ rfl rfl rfl rfl (by simp only [dOK];try decide) (aT rfl (by simp only [dOK];try decide) ?_);simp only [t32,t30,aF,AE.ev,aG,aC,au,aJ,aO,St.put,aB,AE.look,aI,reduceIte,Nat.reduceEqDiff,aj,aH,aL,aW,aU,aN.agg,List.getElem?_cons,Nat.reduceSub,Nat.reduceAdd,Nat.add_zero,Nat.zero_add,ne_eq,not_false_eq_true,true_and,Nat.one_ne_zero,Nat.succ_ne_self,Bool.false_eq_true,List.length,List.drop,List.take,if_true,if_false,reduceCtorEq,List.cons_ne_nil,Nat.le_refl,and_true,Nat.reduceLeDiff];refine kJ rfl rfl rfl rfl (by simp only [dOK];try decide) (aT rfl (by simp only [dOK];try decide) ?_);simp only [t30,aF,AE.ev,aG,aC,au,aJ,aO,St.put,aB,AE.look,aI,reduceIte,Nat.reduceEqDiff,aj,aH,aL,aW,aU,aN.agg,List.getElem?_cons,Nat.reduceSub,Nat.reduceAdd,Nat.add_zero,Nat.zero_add,ne_eq,not_false_eq_true,true_and,Nat.one_ne_zero,Nat.succ_ne_self,Bool.false_eq_true,List.length,List.drop,List.take,if_true,if_false,reduceCtorEq,List.cons_ne_nil,Nat.le_refl,and_true,Nat.reduceLeDiff];refine kJ rfl rfl rfl rfl (by simp only [dOK];try decide) (aT rfl (by simp only [dOK];try decide) ?_);simp only [l6,qM,t30,aF,AE.ev,aG,aC,au,aJ,aO,St.put,aB,AE.look,aI,reduceIte,Nat.reduceEqDiff,aj,aH,aL,aW,aU,aN.agg,List.getElem?_cons,Nat.reduceSub,Nat.reduceAdd,Nat.add_zero,Nat.zero_add,ne_eq,not_false_eq_true,true_and,Nat.one_ne_zero,Nat.succ_ne_self,Bool.false_eq_true,List.length,List.drop,List.take,if_true,if_false,reduceCtorEq,List.cons_ne_nil,Nat.le_refl,and_true,Nat.reduceLeDiff];refine kJ rfl rfl rfl rfl (by simp only [dOK];try decide) (qH rfl (by simp only [dOK];try decide) ?_);simp only [h38,ci,dH,iO,fnA,gX,iL,List.map,List.append_nil,List.nil_append,List.cons_append,aF,AE.ev,aG,aC,au,aJ,aO,St.put,aB,AE.look,aI,reduceIte,Nat.reduceEqDiff,aj,aH,aL,aW,aU,aN.agg,List.getElem?_cons,Nat.reduceSub,Nat.reduceAdd,Nat.add_zero,Nat.zero_add,ne_eq,not_false_eq_true,true_and,Nat.one_ne_zero,Nat.succ_ne_self,Bool.false_eq_true,List.length,List.drop,List.take,if_true,if_false,reduceCtorEq,List.cons_ne_nil,Nat.le_refl,and_true,Nat.reduceLeDiff];refine⟨_,x,_,true,rfl,.cons (.d true _) .nil,sx,λg4=> ?_⟩;refine kJ rfl rfl rfl rfl (by simp only [dOK];try decide) (aT rfl (by simp only [dOK];try decide) ?_);simp only [unA,AE.cb,aF,AE.ev,aG,aC,au,aJ,aO,St.put,aB,AE.look,aI,reduceIte,Nat.reduceEqDiff,aj,aH,aL,aW,aU,aN.agg,List.getElem?_cons,Nat.reduceSub,Nat.reduceAdd,Nat.add_zero,Nat.zero_add,ne_eq,not_false_eq_true,true_and,Nat.one_ne_zero,Nat.succ_ne_self,Bool.false_eq_true,List.length,List.drop,List.take,if_true,if_false,reduceCtorEq,List.cons_ne_nil,Nat.le_refl,and_true,Nat.reduceLeDiff];cases c4:bp (F.bH x (t.map gU).length)
  .simp only [Bool.not_false];refine bC rfl (aT rfl (by simp only [dOK];try decide) ?_);simp only [gF,gP,forall_const,false_implies,AE.cb,aF,AE.ev,aG,aC,au,aJ,aO,St.put,aB,AE.look,aI,reduceIte,Nat.reduceEqDiff,aj,aH,aL,aW,aU,aN.agg,List.getElem?_cons,Nat.reduceSub,Nat.reduceAdd,Nat.add_zero,Nat.zero_add,ne_eq,not_false_eq_true,true_and,Nat.one_ne_zero,Nat.succ_ne_self,Bool.false_eq_true,List.length,List.drop,List.take,if_true,if_false,reduceCtorEq,List.cons_ne_nil,Nat.le_refl,and_true,Nat.reduceLeDiff];refine bC rfl (aT rfl (by simp only [dOK];try decide) ?_);simp only [aF,AE.ev,aG,aC,au,aJ,aO,St.put,aB,AE.look,aI,reduceIte,Nat.reduceEqDiff,aj,aH,aL,aW,aU,aN.agg,List.getElem?_cons,Nat.reduceSub,Nat.reduceAdd,Nat.add_zero,Nat.zero_add,ne_eq,not_false_eq_true,true_and,Nat.one_ne_zero,Nat.succ_ne_self,Bool.false_eq_true,List.length,List.drop,List.take,if_true,if_false,reduceCtorEq,List.cons_ne_nil,Nat.le_refl,and_true,Nat.reduceLeDiff];refine iI (j:=26) (d:=39) (want:=false) (f:=true) (b:=true) rfl (by decide) 6 rfl rfl ?_;dsimp only [List.drop,List.take,skT];refine bC rfl (aT rfl (by simp only [dOK];try decide) ?_);simp only [gF,gP,forall_const,false_implies,AE.cb,aF,AE.ev,aG,aC,au,aJ,aO,St.put,aB,AE.look,aI,reduceIte,Nat.reduceEqDiff,aj,aH,aL,aW,aU,aN.agg,List.getElem?_cons,Nat.reduceSub,Nat.reduceAdd,Nat.add_zero,Nat.zero_add,ne_eq,not_false_eq_true,true_and,Nat.one_ne_zero,Nat.succ_ne_self,Bool.false_eq_true,List.length,List.drop,List.take,if_true,if_false,reduceCtorEq,List.cons_ne_nil,Nat.le_refl,and_true,Nat.reduceLeDiff];simp only [aP];refine hKK _ ⟨rfl,rfl,rfl,rfl,rfl,rfl,rfl,rfl,rfl,?_,?_,?_,?_,?_,λl hl=> ?_,_,rfl,λhb=> ?_,λhb=> ?_⟩
   .simp only [aF,AE.ev,aG,aC,au,aJ,aO,St.put,aB,AE.look,aI,reduceIte,Nat.reduceEqDiff,aj,aH,aL,aW,aU,aN.agg,List.getElem?_cons,Nat.reduceSub,Nat.reduceAdd,Nat.add_zero,Nat.zero_add,ne_eq,not_false_eq_true,true_and,Nat.one_ne_zero,Nat.succ_ne_self,Bool.false_eq_true,List.length,List.drop,List.take,if_true,if_false,reduceCtorEq,List.cons_ne_nil,Nat.le_refl,and_true,Nat.reduceLeDiff]
   .simp only [aF,AE.ev,aG,aC,au,aJ,aO,St.put,aB,AE.look,aI,reduceIte,Nat.reduceEqDiff,aj,aH,aL,aW,aU,aN.agg,List.getElem?_cons,Nat.reduceSub,Nat.reduceAdd,Nat.add_zero,Nat.zero_add,ne_eq,not_false_eq_true,true_and,Nat.one_ne_zero,Nat.succ_ne_self,Bool.false_eq_true,List.length,List.drop,List.take,if_true,if_false,reduceCtorEq,List.cons_ne_nil,Nat.le_refl,and_true,Nat.reduceLeDiff]
   .simp only [aF,AE.ev,aG,aC,au,aJ,aO,St.put,aB,AE.look,aI,reduceIte,Nat.reduceEqDiff,aj,aH,aL,aW,aU,aN.agg,List.getElem?_cons,Nat.reduceSub,Nat.reduceAdd,Nat.add_zero,Nat.zero_add,ne_eq,not_false_eq_true,true_and,Nat.one_ne_zero,Nat.succ_ne_self,Bool.false_eq_true,List.length,List.drop,List.take,if_true,if_false,reduceCtorEq,List.cons_ne_nil,Nat.le_refl,and_true,Nat.reduceLeDiff]
   .simp only [aF,AE.ev,aG,aC,au,aJ,aO,St.put,aB,AE.look,aI,reduceIte,Nat.reduceEqDiff,aj,aH,aL,aW,aU,aN.agg,List.getElem?_cons,Nat.reduceSub,Nat.reduceAdd,Nat.add_zero,Nat.zero_add,ne_eq,not_false_eq_true,true_and,Nat.one_ne_zero,Nat.succ_ne_self,Bool.false_eq_true,List.length,List.drop,List.take,if_true,if_false,reduceCtorEq,List.cons_ne_nil,Nat.le_refl,and_true,Nat.reduceLeDiff]
   .simp only [aF,AE.ev,aG,aC,au,aJ,aO,St.put,aB,AE.look,aI,reduceIte,Nat.reduceEqDiff,aj,aH,aL,aW,aU,aN.agg,List.getElem?_cons,Nat.reduceSub,Nat.reduceAdd,Nat.add_zero,Nat.zero_add,ne_eq,not_false_eq_true,true_and,Nat.one_ne_zero,Nat.succ_ne_self,Bool.false_eq_true,List.length,List.drop,List.take,if_true,if_false,reduceCtorEq,List.cons_ne_nil,Nat.le_refl,and_true,Nat.reduceLeDiff]
   .have a:∀q,nm n q≠l:=λq=>by unfold nm;omega
    rw [ak _ _ (a _),ak _ _ (a _),ak _ _ (a _),ak _ _ (a _),ak _ _ (a _)]
   .exact BJ t op x y (by simp only [c4,Bool.and_false,Bool.false_and])
   .exact absurd hb (by decide)
  simp only [Bool.not_true];refine bC rfl (aT rfl (by simp only [dOK];try decide) ?_);simp only [gF,gP,forall_const,false_implies,AE.cb,aF,AE.ev,aG,aC,au,aJ,aO,St.put,aB,AE.look,aI,reduceIte,Nat.reduceEqDiff,aj,aH,aL,aW,aU,aN.agg,List.getElem?_cons,Nat.reduceSub,Nat.reduceAdd,Nat.add_zero,Nat.zero_add,ne_eq,not_false_eq_true,true_and,Nat.one_ne_zero,Nat.succ_ne_self,Bool.false_eq_true,List.length,List.drop,List.take,if_true,if_false,reduceCtorEq,List.cons_ne_nil,Nat.le_refl,and_true,Nat.reduceLeDiff];refine bC rfl (aT rfl (by simp only [dOK];try decide) ?_);simp only [aF,AE.ev,aG,aC,au,aJ,aO,St.put,aB,AE.look,aI,reduceIte,Nat.reduceEqDiff,aj,aH,aL,aW,aU,aN.agg,List.getElem?_cons,Nat.reduceSub,Nat.reduceAdd,Nat.add_zero,Nat.zero_add,ne_eq,not_false_eq_true,true_and,Nat.one_ne_zero,Nat.succ_ne_self,Bool.false_eq_true,List.length,List.drop,List.take,if_true,if_false,reduceCtorEq,List.cons_ne_nil,Nat.le_refl,and_true,Nat.reduceLeDiff];refine kJ rfl rfl rfl rfl (by simp only [dOK];try decide) (aT rfl (by simp only [dOK];try decide) ?_);simp only [t35,aF,AE.ev,aG,aC,au,aJ,aO,St.put,aB,AE.look,aI,reduceIte,Nat.reduceEqDiff,aj,aH,aL,aW,aU,aN.agg,List.getElem?_cons,Nat.reduceSub,Nat.reduceAdd,Nat.add_zero,Nat.zero_add,ne_eq,not_false_eq_true,true_and,Nat.one_ne_zero,Nat.succ_ne_self,Bool.false_eq_true,List.length,List.drop,List.take,if_true,if_false,reduceCtorEq,List.cons_ne_nil,Nat.le_refl,and_true,Nat.reduceLeDiff];refine kJ rfl rfl rfl rfl (by simp only [dOK];try decide) (aT rfl (by simp only [dOK];try decide) ?_);simp only [t32,t30,aF,AE.ev,aG,aC,au,aJ,aO,St.put,aB,AE.look,aI,reduceIte,Nat.reduceEqDiff,aj,aH,aL,aW,aU,aN.agg,List.getElem?_cons,Nat.reduceSub,Nat.reduceAdd,Nat.add_zero,Nat.zero_add,ne_eq,not_false_eq_true,true_and,Nat.one_ne_zero,Nat.succ_ne_self,Bool.false_eq_true,List.length,List.drop,List.take,if_true,if_false,reduceCtorEq,List.cons_ne_nil,Nat.le_refl,and_true,Nat.reduceLeDiff];refine kJ rfl rfl rfl rfl (by simp only [dOK];try decide) (aT rfl (by simp only [dOK];try decide) ?_);simp only [t30,aF,AE.ev,aG,aC,au,aJ,aO,St.put,aB,AE.look,aI,reduceIte,Nat.reduceEqDiff,aj,aH,aL,aW,aU,aN.agg,List.getElem?_cons,Nat.reduceSub,Nat.reduceAdd,Nat.add_zero,Nat.zero_add,ne_eq,not_false_eq_true,true_and,Nat.one_ne_zero,Nat.succ_ne_self,Bool.false_eq_true,List.length,List.drop,List.take,if_true,if_false,reduceCtorEq,List.cons_ne_nil,Nat.le_refl,and_true,Nat.reduceLeDiff];refine kJ rfl rfl rfl rfl (by simp only [dOK];try decide) (aT rfl (by simp only [dOK];try decide) ?_);simp only [l6,qM,t30,aF,AE.ev,aG,aC,au,aJ,aO,St.put,aB,AE.look,aI,reduceIte,Nat.reduceEqDiff,aj,aH,aL,aW,aU,aN.agg,List.getElem?_cons,Nat.reduceSub,Nat.reduceAdd,Nat.add_zero,Nat.zero_add,ne_eq,not_false_eq_true,true_and,Nat.one_ne_zero,Nat.succ_ne_self,Bool.false_eq_true,List.length,List.drop,List.take,if_true,if_false,reduceCtorEq,List.cons_ne_nil,Nat.le_refl,and_true,Nat.reduceLeDiff];refine kJ rfl rfl rfl rfl (by simp only [dOK];try decide) (qH rfl (by simp only [dOK];try decide) ?_);simp only [h38,ci,dH,iO,fnA,gX,iL,List.map,List.append_nil,List.nil_append,List.cons_append,aF,AE.ev,aG,aC,au,aJ,aO,St.put,aB,AE.look,aI,reduceIte,Nat.reduceEqDiff,aj,aH,aL,aW,aU,aN.agg,List.getElem?_cons,Nat.reduceSub,Nat.reduceAdd,Nat.add_zero,Nat.zero_add,ne_eq,not_false_eq_true,true_and,Nat.one_ne_zero,Nat.succ_ne_self,Bool.false_eq_true,List.length,List.drop,List.take,if_true,if_false,reduceCtorEq,List.cons_ne_nil,Nat.le_refl,and_true,Nat.reduceLeDiff];refine⟨_,y,_,true,rfl,.cons (.d true _) .nil,sy,λg5=> ?_⟩;refine kJ rfl rfl rfl rfl (by simp only [dOK];try decide) (aT rfl (by simp only [dOK];try decide) ?_);simp only [unA,AE.cb,aF,AE.ev,aG,aC,au,aJ,aO,St.put,aB,AE.look,aI,reduceIte,Nat.reduceEqDiff,aj,aH,aL,aW,aU,aN.agg,List.getElem?_cons,Nat.reduceSub,Nat.reduceAdd,Nat.add_zero,Nat.zero_add,ne_eq,not_false_eq_true,true_and,Nat.one_ne_zero,Nat.succ_ne_self,Bool.false_eq_true,List.length,List.drop,List.take,if_true,if_false,reduceCtorEq,List.cons_ne_nil,Nat.le_refl,and_true,Nat.reduceLeDiff];cases c5:bp (F.bH y (t.map gU).length)
  .simp only [Bool.not_false];refine bC rfl (aT rfl (by simp only [dOK];try decide) ?_);simp only [gF,gP,forall_const,false_implies,AE.cb,aF,AE.ev,aG,aC,au,aJ,aO,St.put,aB,AE.look,aI,reduceIte,Nat.reduceEqDiff,aj,aH,aL,aW,aU,aN.agg,List.getElem?_cons,Nat.reduceSub,Nat.reduceAdd,Nat.add_zero,Nat.zero_add,ne_eq,not_false_eq_true,true_and,Nat.one_ne_zero,Nat.succ_ne_self,Bool.false_eq_true,List.length,List.drop,List.take,if_true,if_false,reduceCtorEq,List.cons_ne_nil,Nat.le_refl,and_true,Nat.reduceLeDiff];simp only [aP];refine hKK _ ⟨rfl,rfl,rfl,rfl,rfl,rfl,rfl,rfl,rfl,?_,?_,?_,?_,?_,λl hl=> ?_,_,rfl,λhb=> ?_,λhb=> ?_⟩
   .simp only [aF,AE.ev,aG,aC,au,aJ,aO,St.put,aB,AE.look,aI,reduceIte,Nat.reduceEqDiff,aj,aH,aL,aW,aU,aN.agg,List.getElem?_cons,Nat.reduceSub,Nat.reduceAdd,Nat.add_zero,Nat.zero_add,ne_eq,not_false_eq_true,true_and,Nat.one_ne_zero,Nat.succ_ne_self,Bool.false_eq_true,List.length,List.drop,List.take,if_true,if_false,reduceCtorEq,List.cons_ne_nil,Nat.le_refl,and_true,Nat.reduceLeDiff]
   .simp only [aF,AE.ev,aG,aC,au,aJ,aO,St.put,aB,AE.look,aI,reduceIte,Nat.reduceEqDiff,aj,aH,aL,aW,aU,aN.agg,List.getElem?_cons,Nat.reduceSub,Nat.reduceAdd,Nat.add_zero,Nat.zero_add,ne_eq,not_false_eq_true,true_and,Nat.one_ne_zero,Nat.succ_ne_self,Bool.false_eq_true,List.length,List.drop,List.take,if_true,if_false,reduceCtorEq,List.cons_ne_nil,Nat.le_refl,and_true,Nat.reduceLeDiff]
   .simp only [aF,AE.ev,aG,aC,au,aJ,aO,St.put,aB,AE.look,aI,reduceIte,Nat.reduceEqDiff,aj,aH,aL,aW,aU,aN.agg,List.getElem?_cons,Nat.reduceSub,Nat.reduceAdd,Nat.add_zero,Nat.zero_add,ne_eq,not_false_eq_true,true_and,Nat.one_ne_zero,Nat.succ_ne_self,Bool.false_eq_true,List.length,List.drop,List.take,if_true,if_false,reduceCtorEq,List.cons_ne_nil,Nat.le_refl,and_true,Nat.reduceLeDiff]
   .simp only [aF,AE.ev,aG,aC,au,aJ,aO,St.put,aB,AE.look,aI,reduceIte,Nat.reduceEqDiff,aj,aH,aL,aW,aU,aN.agg,List.getElem?_cons,Nat.reduceSub,Nat.reduceAdd,Nat.add_zero,Nat.zero_add,ne_eq,not_false_eq_true,true_and,Nat.one_ne_zero,Nat.succ_ne_self,Bool.false_eq_true,List.length,List.drop,List.take,if_true,if_false,reduceCtorEq,List.cons_ne_nil,Nat.le_refl,and_true,Nat.reduceLeDiff]
   .simp only [aF,AE.ev,aG,aC,au,aJ,aO,St.put,aB,AE.look,aI,reduceIte,Nat.reduceEqDiff,aj,aH,aL,aW,aU,aN.agg,List.getElem?_cons,Nat.reduceSub,Nat.reduceAdd,Nat.add_zero,Nat.zero_add,ne_eq,not_false_eq_true,true_and,Nat.one_ne_zero,Nat.succ_ne_self,Bool.false_eq_true,List.length,List.drop,List.take,if_true,if_false,reduceCtorEq,List.cons_ne_nil,Nat.le_refl,and_true,Nat.reduceLeDiff]
   .have a:∀q,nm n q≠l:=λq=>by unfold nm;omega
    rw [ak _ _ (a _),ak _ _ (a _),ak _ _ (a _),ak _ _ (a _),ak _ _ (a _)]
   .exact BJ t op x y (by simp only [c5,Bool.and_false,Bool.false_and])
   .exact absurd hb (by decide)
  simp only [Bool.not_true];refine bC rfl (aT rfl (by simp only [dOK];try decide) ?_);simp only [gF,gP,forall_const,false_implies,AE.cb,aF,AE.ev,aG,aC,au,aJ,aO,St.put,aB,AE.look,aI,reduceIte,Nat.reduceEqDiff,aj,aH,aL,aW,aU,aN.agg,List.getElem?_cons,Nat.reduceSub,Nat.reduceAdd,Nat.add_zero,Nat.zero_add,ne_eq,not_false_eq_true,true_and,Nat.one_ne_zero,Nat.succ_ne_self,Bool.false_eq_true,List.length,List.drop,List.take,if_true,if_false,reduceCtorEq,List.cons_ne_nil,Nat.le_refl,and_true,Nat.reduceLeDiff];simp only [aP];refine hKK _ ⟨rfl,rfl,rfl,rfl,rfl,rfl,rfl,rfl,rfl,?_,?_,?_,?_,?_,λl hl=> ?_,_,rfl,λhb=> ?_,λhb=> ?_⟩
  .simp only [aF,AE.ev,aG,aC,au,aJ,aO,St.put,aB,AE.look,aI,reduceIte,Nat.reduceEqDiff,aj,aH,aL,aW,aU,aN.agg,List.getElem?_cons,Nat.reduceSub,Nat.reduceAdd,Nat.add_zero,Nat.zero_add,ne_eq,not_false_eq_true,true_and,Nat.one_ne_zero,Nat.succ_ne_self,Bool.false_eq_true,List.length,List.drop,List.take,if_true,if_false,reduceCtorEq,List.cons_ne_nil,Nat.le_refl,and_true,Nat.reduceLeDiff]
  .simp only [aF,AE.ev,aG,aC,au,aJ,aO,St.put,aB,AE.look,aI,reduceIte,Nat.reduceEqDiff,aj,aH,aL,aW,aU,aN.agg,List.getElem?_cons,Nat.reduceSub,Nat.reduceAdd,Nat.add_zero,Nat.zero_add,ne_eq,not_false_eq_true,true_and,Nat.one_ne_zero,Nat.succ_ne_self,Bool.false_eq_true,List.length,List.drop,List.take,if_true,if_false,reduceCtorEq,List.cons_ne_nil,Nat.le_refl,and_true,Nat.reduceLeDiff]
  .simp only [aF,AE.ev,aG,aC,au,aJ,aO,St.put,aB,AE.look,aI,reduceIte,Nat.reduceEqDiff,aj,aH,aL,aW,aU,aN.agg,List.getElem?_cons,Nat.reduceSub,Nat.reduceAdd,Nat.add_zero,Nat.zero_add,ne_eq,not_false_eq_true,true_and,Nat.one_ne_zero,Nat.succ_ne_self,Bool.false_eq_true,List.length,List.drop,List.take,if_true,if_false,reduceCtorEq,List.cons_ne_nil,Nat.le_refl,and_true,Nat.reduceLeDiff]
  .simp only [aF,AE.ev,aG,aC,au,aJ,aO,St.put,aB,AE.look,aI,reduceIte,Nat.reduceEqDiff,aj,aH,aL,aW,aU,aN.agg,List.getElem?_cons,Nat.reduceSub,Nat.reduceAdd,Nat.add_zero,Nat.zero_add,ne_eq,not_false_eq_true,true_and,Nat.one_ne_zero,Nat.succ_ne_self,Bool.false_eq_true,List.length,List.drop,List.take,if_true,if_false,reduceCtorEq,List.cons_ne_nil,Nat.le_refl,and_true,Nat.reduceLeDiff]
  .simp only [aF,AE.ev,aG,aC,au,aJ,aO,St.put,aB,AE.look,aI,reduceIte,Nat.reduceEqDiff,aj,aH,aL,aW,aU,aN.agg,List.getElem?_cons,Nat.reduceSub,Nat.reduceAdd,Nat.add_zero,Nat.zero_add,ne_eq,not_false_eq_true,true_and,Nat.one_ne_zero,Nat.succ_ne_self,Bool.false_eq_true,List.length,List.drop,List.take,if_true,if_false,reduceCtorEq,List.cons_ne_nil,Nat.le_refl,and_true,Nat.reduceLeDiff]
  .have a:∀q,nm n q≠l:=λq=>by unfold nm;omega
   rw [ak _ _ (a _),ak _ _ (a _),ak _ _ (a _),ak _ _ (a _),ak _ _ (a _)]
  .exact absurd hb (by decide)
  .exact abS t op x y (by simp only [c0,c1,c2,c3,c4,c5,Bool.and_self])
 subst hP;obtain⟨tt,hh,nn,kk,mm⟩:=s;obtain⟨q1,q2,q3,q4,q5,q6,q7,q8,q9,w0,w1,w2,w3,w4,fr,b,e46,eb1,eb2⟩:=hs;dsimp only at q1 q2 q3 q4 q5 q6 q7 q8 q9 w0 w1 w2 w3 w4 fr e46;subst q1 q2 q3;have nn3:nm nn 3≠nm nn 4:=by unfold nm;omega
 have lo:∀q l,l<nn->nm nn q≠l:=λq l hl=>by unfold nm;omega
 refine dU (ig (jD e46) (λhb=> ?_) (λhb=> ?_))
 .rw [eb1 hb]at hK;refine bD ?_;refine bC rfl (aT rfl (by simp only [dOK];try decide) ?_);simp only [qN,oJ,t32,aF,AE.ev,aG,aC,au,aJ,aO,St.put,aB,AE.look,aI,reduceIte,Nat.reduceEqDiff,aj,aH,aL,aW,aU,aN.agg,List.getElem?_cons,Nat.reduceSub,Nat.reduceAdd,Nat.add_zero,Nat.zero_add,ne_eq,not_false_eq_true,true_and,Nat.one_ne_zero,Nat.succ_ne_self,Bool.false_eq_true,List.length,List.drop,List.take,if_true,if_false,reduceCtorEq,List.cons_ne_nil,Nat.le_refl,and_true,Nat.reduceLeDiff];refine⟨by simp [t30],?_⟩;refine bC rfl (aT rfl (by simp only [dOK];try decide) ?_);simp only [qN,oJ,t35,aF,AE.ev,aG,aC,au,aJ,aO,St.put,aB,AE.look,aI,reduceIte,Nat.reduceEqDiff,aj,aH,aL,aW,aU,aN.agg,List.getElem?_cons,Nat.reduceSub,Nat.reduceAdd,Nat.add_zero,Nat.zero_add,ne_eq,not_false_eq_true,true_and,Nat.one_ne_zero,Nat.succ_ne_self,Bool.false_eq_true,List.length,List.drop,List.take,if_true,if_false,reduceCtorEq,List.cons_ne_nil,Nat.le_refl,and_true,Nat.reduceLeDiff];refine⟨by decide,?_⟩;refine bC rfl (eD rfl (by simp only [dOK];try decide) ?_);simp only [t32,q8,w3,bL,dA,aR,splice,List.nil_append,List.append_nil,List.cons_append,aF,AE.ev,aG,aC,au,aJ,aO,St.put,aB,AE.look,aI,reduceIte,Nat.reduceEqDiff,aj,aH,aL,aW,aU,aN.agg,List.getElem?_cons,Nat.reduceSub,Nat.reduceAdd,Nat.add_zero,Nat.zero_add,ne_eq,not_false_eq_true,true_and,Nat.one_ne_zero,Nat.succ_ne_self,Bool.false_eq_true,List.length,List.drop,List.take,if_true,if_false,reduceCtorEq,List.cons_ne_nil,Nat.le_refl,and_true,Nat.reduceLeDiff];refine bC rfl (eD rfl (by simp only [dOK];try decide) ?_);simp only [t35,q9,w4,aP,bL,dA,aR,splice,List.nil_append,List.append_nil,List.cons_append,aF,AE.ev,aG,aC,au,aJ,aO,St.put,aB,AE.look,aI,reduceIte,Nat.reduceEqDiff,aj,aH,aL,aW,aU,aN.agg,List.getElem?_cons,Nat.reduceSub,Nat.reduceAdd,Nat.add_zero,Nat.zero_add,ne_eq,not_false_eq_true,true_and,Nat.one_ne_zero,Nat.succ_ne_self,Bool.false_eq_true,List.length,List.drop,List.take,if_true,if_false,reduceCtorEq,List.cons_ne_nil,Nat.le_refl,and_true,Nat.reduceLeDiff];refine qg ?_;simp only [Gu,uR,qP,one,q8,q9,w3,w4,t32,t35,aF,AE.ev,aG,aC,au,aJ,aO,St.put,aB,AE.look,aI,reduceIte,Nat.reduceEqDiff,aj,aH,aL,aW,aU,aN.agg,List.getElem?_cons,Nat.reduceSub,Nat.reduceAdd,Nat.add_zero,Nat.zero_add,ne_eq,not_false_eq_true,true_and,Nat.one_ne_zero,Nat.succ_ne_self,Bool.false_eq_true,List.length,List.drop,List.take,if_true,if_false,reduceCtorEq,List.cons_ne_nil,Nat.le_refl,and_true,Nat.reduceLeDiff];refine hK _ _ _ _ _ _ (.nil 4) (.nil 2) (λ_ h=>h.elim) ⟨λ_ h=>(h.elim id id).elim,λl hl=> ?_⟩;rw [ak _ _ (lo _ l hl),ak _ _ (lo _ l hl)];exact fr l hl
 rw [eb2 hb]at hK;have sh:=Md (op:=op) st sx sy;rw [eb2 hb]at sh;generalize hr:tDo t op x y=r at hK sh
 clear eb1 eb2 hb e46
 refine kQ (bD ?_);refine bC rfl (aT rfl (by simp only [dOK];try decide) ?_);simp only [t32,q5,w0,aF,AE.ev,aG,aC,au,aJ,aO,St.put,aB,AE.look,aI,reduceIte,Nat.reduceEqDiff,aj,aH,aL,aW,aU,aN.agg,List.getElem?_cons,Nat.reduceSub,Nat.reduceAdd,Nat.add_zero,Nat.zero_add,ne_eq,not_false_eq_true,true_and,Nat.one_ne_zero,Nat.succ_ne_self,Bool.false_eq_true,List.length,List.drop,List.take,if_true,if_false,reduceCtorEq,List.cons_ne_nil,Nat.le_refl,and_true,Nat.reduceLeDiff];refine bC rfl (aT rfl (by simp only [dOK];try decide) ?_);simp only [q4,aF,AE.ev,aG,aC,au,aJ,aO,St.put,aB,AE.look,aI,reduceIte,Nat.reduceEqDiff,aj,aH,aL,aW,aU,aN.agg,List.getElem?_cons,Nat.reduceSub,Nat.reduceAdd,Nat.add_zero,Nat.zero_add,ne_eq,not_false_eq_true,true_and,Nat.one_ne_zero,Nat.succ_ne_self,Bool.false_eq_true,List.length,List.drop,List.take,if_true,if_false,reduceCtorEq,List.cons_ne_nil,Nat.le_refl,and_true,Nat.reduceLeDiff];refine bC rfl (aT rfl (by simp only [dOK];try decide) ?_);simp only [t35,q6,w1,aF,AE.ev,aG,aC,au,aJ,aO,St.put,aB,AE.look,aI,reduceIte,Nat.reduceEqDiff,aj,aH,aL,aW,aU,aN.agg,List.getElem?_cons,Nat.reduceSub,Nat.reduceAdd,Nat.add_zero,Nat.zero_add,ne_eq,not_false_eq_true,true_and,Nat.one_ne_zero,Nat.succ_ne_self,Bool.false_eq_true,List.length,List.drop,List.take,if_true,if_false,reduceCtorEq,List.cons_ne_nil,Nat.le_refl,and_true,Nat.reduceLeDiff];refine bC rfl (aT rfl (by simp only [dOK];try decide) ?_);simp only [t35,q7,w2,aF,AE.ev,aG,aC,au,aJ,aO,St.put,aB,AE.look,aI,reduceIte,Nat.reduceEqDiff,aj,aH,aL,aW,aU,aN.agg,List.getElem?_cons,Nat.reduceSub,Nat.reduceAdd,Nat.add_zero,Nat.zero_add,ne_eq,not_false_eq_true,true_and,Nat.one_ne_zero,Nat.succ_ne_self,Bool.false_eq_true,List.length,List.drop,List.take,if_true,if_false,reduceCtorEq,List.cons_ne_nil,Nat.le_refl,and_true,Nat.reduceLeDiff];refine bC rfl (qH rfl (by simp only [dOK];try decide) ?_);simp only [h39,dH,iO,fnA,gX,iL,List.map,List.append_nil,List.nil_append,List.cons_append,aF,AE.ev,aG,aC,au,aJ,aO,St.put,aB,AE.look,aI,reduceIte,Nat.reduceEqDiff,aj,aH,aL,aW,aU,aN.agg,List.getElem?_cons,Nat.reduceSub,Nat.reduceAdd,Nat.add_zero,Nat.zero_add,ne_eq,not_false_eq_true,true_and,Nat.one_ne_zero,Nat.succ_ne_self,Bool.false_eq_true,List.length,List.drop,List.take,if_true,if_false,reduceCtorEq,List.cons_ne_nil,Nat.le_refl,and_true,Nat.reduceLeDiff];refine⟨t,op,f,x,y,rfl,st.1,sx,sy,λg b=> ?_⟩;rw [hr];refine bC rfl (aT rfl (by simp only [dOK];try decide) ?_);simp only [aF,AE.ev,aG,aC,au,aJ,aO,St.put,aB,AE.look,aI,reduceIte,Nat.reduceEqDiff,aj,aH,aL,aW,aU,aN.agg,List.getElem?_cons,Nat.reduceSub,Nat.reduceAdd,Nat.add_zero,Nat.zero_add,ne_eq,not_false_eq_true,true_and,Nat.one_ne_zero,Nat.succ_ne_self,Bool.false_eq_true,List.length,List.drop,List.take,if_true,if_false,reduceCtorEq,List.cons_ne_nil,Nat.le_refl,and_true,Nat.reduceLeDiff];refine bC rfl (aT rfl (by simp only [dOK];try decide) ?_);simp only [jO,List.getElem?_cons_zero,aF,AE.ev,aG,aC,au,aJ,aO,St.put,aB,AE.look,aI,reduceIte,Nat.reduceEqDiff,aj,aH,aL,aW,aU,aN.agg,List.getElem?_cons,Nat.reduceSub,Nat.reduceAdd,Nat.add_zero,Nat.zero_add,ne_eq,not_false_eq_true,true_and,Nat.one_ne_zero,Nat.succ_ne_self,Bool.false_eq_true,List.length,List.drop,List.take,if_true,if_false,reduceCtorEq,List.cons_ne_nil,Nat.le_refl,and_true,Nat.reduceLeDiff];refine bC rfl (aT rfl (by simp only [dOK];try decide) ?_);simp only [jO,List.getElem?_cons_succ,aF,AE.ev,aG,aC,au,aJ,aO,St.put,aB,AE.look,aI,reduceIte,Nat.reduceEqDiff,aj,aH,aL,aW,aU,aN.agg,List.getElem?_cons,Nat.reduceSub,Nat.reduceAdd,Nat.add_zero,Nat.zero_add,ne_eq,not_false_eq_true,true_and,Nat.one_ne_zero,Nat.succ_ne_self,Bool.false_eq_true,List.length,List.drop,List.take,if_true,if_false,reduceCtorEq,List.cons_ne_nil,Nat.le_refl,and_true,Nat.reduceLeDiff];refine bC rfl (aT rfl (by simp only [dOK];try decide) ?_);simp only [jO,List.getElem?_cons_succ,aF,AE.ev,aG,aC,au,aJ,aO,St.put,aB,AE.look,aI,reduceIte,Nat.reduceEqDiff,aj,aH,aL,aW,aU,aN.agg,List.getElem?_cons,Nat.reduceSub,Nat.reduceAdd,Nat.add_zero,Nat.zero_add,ne_eq,not_false_eq_true,true_and,Nat.one_ne_zero,Nat.succ_ne_self,Bool.false_eq_true,List.length,List.drop,List.take,if_true,if_false,reduceCtorEq,List.cons_ne_nil,Nat.le_refl,and_true,Nat.reduceLeDiff];refine bC rfl (eD rfl (by simp only [dOK];try decide) ?_);simp only [t32,bL,dA,aR,splice,List.nil_append,List.append_nil,List.cons_append,aF,AE.ev,aG,aC,au,aJ,aO,St.put,aB,AE.look,aI,reduceIte,Nat.reduceEqDiff,aj,aH,aL,aW,aU,aN.agg,List.getElem?_cons,Nat.reduceSub,Nat.reduceAdd,Nat.add_zero,Nat.zero_add,ne_eq,not_false_eq_true,true_and,Nat.one_ne_zero,Nat.succ_ne_self,Bool.false_eq_true,List.length,List.drop,List.take,if_true,if_false,reduceCtorEq,List.cons_ne_nil,Nat.le_refl,and_true,Nat.reduceLeDiff];refine bC rfl (eD rfl (by simp only [dOK];try decide) ?_);simp only [t35,bL,dA,aR,splice,List.nil_append,List.append_nil,List.cons_append,aF,AE.ev,aG,aC,au,aJ,aO,St.put,aB,AE.look,aI,reduceIte,Nat.reduceEqDiff,aj,aH,aL,aW,aU,aN.agg,List.getElem?_cons,Nat.reduceSub,Nat.reduceAdd,Nat.add_zero,Nat.zero_add,ne_eq,not_false_eq_true,true_and,Nat.one_ne_zero,Nat.succ_ne_self,Bool.false_eq_true,List.length,List.drop,List.take,if_true,if_false,reduceCtorEq,List.cons_ne_nil,Nat.le_refl,and_true,Nat.reduceLeDiff];refine bC rfl (eD rfl (by simp only [dOK];try decide) ?_);simp only [t32,bL,dA,aR,splice,List.nil_append,List.append_nil,List.cons_append,aF,AE.ev,aG,aC,au,aJ,aO,St.put,aB,AE.look,aI,reduceIte,Nat.reduceEqDiff,aj,aH,aL,aW,aU,aN.agg,List.getElem?_cons,Nat.reduceSub,Nat.reduceAdd,Nat.add_zero,Nat.zero_add,ne_eq,not_false_eq_true,true_and,Nat.one_ne_zero,Nat.succ_ne_self,Bool.false_eq_true,List.length,List.drop,List.take,if_true,if_false,reduceCtorEq,List.cons_ne_nil,Nat.le_refl,and_true,Nat.reduceLeDiff];refine bC rfl (eD rfl (by simp only [dOK];try decide) ?_);simp only [t35,bL,dA,aR,splice,List.nil_append,List.append_nil,List.cons_append,aF,AE.ev,aG,aC,au,aJ,aO,St.put,aB,AE.look,aI,reduceIte,Nat.reduceEqDiff,aj,aH,aL,aW,aU,aN.agg,List.getElem?_cons,Nat.reduceSub,Nat.reduceAdd,Nat.add_zero,Nat.zero_add,ne_eq,not_false_eq_true,true_and,Nat.one_ne_zero,Nat.succ_ne_self,Bool.false_eq_true,List.length,List.drop,List.take,if_true,if_false,reduceCtorEq,List.cons_ne_nil,Nat.le_refl,and_true,Nat.reduceLeDiff];refine bC rfl (aT rfl (by simp only [dOK];try decide) ?_);simp only [aP,aF,AE.ev,aG,aC,au,aJ,aO,St.put,aB,AE.look,aI,reduceIte,Nat.reduceEqDiff,aj,aH,aL,aW,aU,aN.agg,List.getElem?_cons,Nat.reduceSub,Nat.reduceAdd,Nat.add_zero,Nat.zero_add,ne_eq,not_false_eq_true,true_and,Nat.one_ne_zero,Nat.succ_ne_self,Bool.false_eq_true,List.length,List.drop,List.take,if_true,if_false,reduceCtorEq,List.cons_ne_nil,Nat.le_refl,and_true,Nat.reduceLeDiff];generalize hb:(_::_::_::_::hh:Heap)=h1;have e1:AE.look h1 (nm nn 5)=some (.box [.d true (mY r.1)]):=by rw [<-hb];simp only [aF,AE.ev,aG,aC,au,aJ,aO,St.put,aB,AE.look,aI,reduceIte,Nat.reduceEqDiff,aj,aH,aL,aW,aU,aN.agg,List.getElem?_cons,Nat.reduceSub,Nat.reduceAdd,Nat.add_zero,Nat.zero_add,ne_eq,not_false_eq_true,true_and,Nat.one_ne_zero,Nat.succ_ne_self,Bool.false_eq_true,List.length,List.drop,List.take,if_true,if_false,reduceCtorEq,List.cons_ne_nil,Nat.le_refl,and_true,Nat.reduceLeDiff]
 have e2:AE.look h1 (nm nn 6)=some (.box [.d true (bV r.2)]):=by rw [<-hb];simp only [aF,AE.ev,aG,aC,au,aJ,aO,St.put,aB,AE.look,aI,reduceIte,Nat.reduceEqDiff,aj,aH,aL,aW,aU,aN.agg,List.getElem?_cons,Nat.reduceSub,Nat.reduceAdd,Nat.add_zero,Nat.zero_add,ne_eq,not_false_eq_true,true_and,Nat.one_ne_zero,Nat.succ_ne_self,Bool.false_eq_true,List.length,List.drop,List.take,if_true,if_false,reduceCtorEq,List.cons_ne_nil,Nat.le_refl,and_true,Nat.reduceLeDiff]
 have a3:AE.look h1 (nm nn 3)=some (.box [.nil]):=by rw [<-hb];simp only [aF,AE.ev,aG,aC,au,aJ,aO,St.put,aB,AE.look,aI,reduceIte,Nat.reduceEqDiff,aj,aH,aL,aW,aU,aN.agg,List.getElem?_cons,Nat.reduceSub,Nat.reduceAdd,Nat.add_zero,Nat.zero_add,ne_eq,not_false_eq_true,true_and,Nat.one_ne_zero,Nat.succ_ne_self,Bool.false_eq_true,List.length,List.drop,List.take,if_true,if_false,reduceCtorEq,List.cons_ne_nil,Nat.le_refl,and_true,Nat.reduceLeDiff];exact w3
 have a4:AE.look h1 (nm nn 4)=some (.box [.nil]):=by rw [<-hb];simp only [aF,AE.ev,aG,aC,au,aJ,aO,St.put,aB,AE.look,aI,reduceIte,Nat.reduceEqDiff,aj,aH,aL,aW,aU,aN.agg,List.getElem?_cons,Nat.reduceSub,Nat.reduceAdd,Nat.add_zero,Nat.zero_add,ne_eq,not_false_eq_true,true_and,Nat.one_ne_zero,Nat.succ_ne_self,Bool.false_eq_true,List.length,List.drop,List.take,if_true,if_false,reduceCtorEq,List.cons_ne_nil,Nat.le_refl,and_true,Nat.reduceLeDiff];exact w4
 have a5:∀l,l<nn->AE.look h1 l=AE.look h l:=λl hl=>by
  rw [<-hb,ak _ _ (lo _ l hl),ak _ _ (lo _ l hl),ak _ _ (lo _ l hl),ak _ _ (lo _ l hl)];exact fr l hl
 clear hb w0 w1 w2 w3 w4 fr
 refine AO ⟨?_,?_⟩
 .unfold Static;rw [ht];kernel_rfl
 rw [ht];refine dW rfl rfl (by simp only [dOK];try decide) rfl ?_;simp only [e1,t32,cut,aF,AE.ev,aG,aC,au,aJ,aO,St.put,aB,AE.look,aI,reduceIte,Nat.reduceEqDiff,aj,aH,aL,aW,aU,aN.agg,List.getElem?_cons,Nat.reduceSub,Nat.reduceAdd,Nat.add_zero,Nat.zero_add,ne_eq,not_false_eq_true,true_and,Nat.one_ne_zero,Nat.succ_ne_self,Bool.false_eq_true,List.length,List.drop,List.take,if_true,if_false,reduceCtorEq,List.cons_ne_nil,Nat.le_refl,and_true,Nat.reduceLeDiff];refine dW rfl rfl (by simp only [dOK];try decide) rfl ?_;simp only [e2,t35,cut,aF,AE.ev,aG,aC,au,aJ,aO,St.put,aB,AE.look,aI,reduceIte,Nat.reduceEqDiff,aj,aH,aL,aW,aU,aN.agg,List.getElem?_cons,Nat.reduceSub,Nat.reduceAdd,Nat.add_zero,Nat.zero_add,ne_eq,not_false_eq_true,true_and,Nat.one_ne_zero,Nat.succ_ne_self,Bool.false_eq_true,List.length,List.drop,List.take,if_true,if_false,reduceCtorEq,List.cons_ne_nil,Nat.le_refl,and_true,Nat.reduceLeDiff];refine jE rfl rfl (by simp only [dOK];try decide) rfl (og rfl ?_);simp only [h40,cut,dH,iO,fnA,gX,iL,List.map,List.append_nil,List.nil_append,List.cons_append,aF,AE.ev,aG,aC,au,aJ,aO,St.put,aB,AE.look,aI,reduceIte,Nat.reduceEqDiff,aj,aH,aL,aW,aU,aN.agg,List.getElem?_cons,Nat.reduceSub,Nat.reduceAdd,Nat.add_zero,Nat.zero_add,ne_eq,not_false_eq_true,true_and,Nat.one_ne_zero,Nat.succ_ne_self,Bool.false_eq_true,List.length,List.drop,List.take,if_true,if_false,reduceCtorEq,List.cons_ne_nil,Nat.le_refl,and_true,Nat.reduceLeDiff];refine⟨_,r.1,rfl,.inl ⟨true,rfl⟩,(BI sh.1).1,(BI sh.1).2,λh2 j y0 N0 tr0 fr0=> ?_⟩;have b2:AE.look h2 (nm nn 6)=some (.box [.d true (bV r.2)]):=by rw [fr0.2 _ (by unfold nm;omega)];exact e2
 have b3:AE.look h2 (nm nn 3)=some (.box [.nil]):=by rw [fr0.2 _ (by unfold nm;omega)];exact a3
 have b4:AE.look h2 (nm nn 4)=some (.box [.nil]):=by rw [fr0.2 _ (by unfold nm;omega)];exact a4
 have b5:∀l,l<nn->AE.look h2 l=AE.look h l:=λl hl=>by rw [fr0.2 l (by unfold nm;omega)];exact a5 l hl
 simp only [mX,jH,fV,cut,b2,t35,aF,AE.ev,aG,aC,au,aJ,aO,St.put,aB,AE.look,aI,reduceIte,Nat.reduceEqDiff,aj,aH,aL,aW,aU,aN.agg,List.getElem?_cons,Nat.reduceSub,Nat.reduceAdd,Nat.add_zero,Nat.zero_add,ne_eq,not_false_eq_true,true_and,Nat.one_ne_zero,Nat.succ_ne_self,Bool.false_eq_true,List.length,List.drop,List.take,if_true,if_false,reduceCtorEq,List.cons_ne_nil,Nat.le_refl,and_true,Nat.reduceLeDiff];refine jE rfl rfl (by simp only [dOK];try decide) rfl (og rfl ?_);simp only [h41,cut,dH,iO,fnA,gX,iL,List.map,List.append_nil,List.nil_append,List.cons_append,aF,AE.ev,aG,aC,au,aJ,aO,St.put,aB,AE.look,aI,reduceIte,Nat.reduceEqDiff,aj,aH,aL,aW,aU,aN.agg,List.getElem?_cons,Nat.reduceSub,Nat.reduceAdd,Nat.add_zero,Nat.zero_add,ne_eq,not_false_eq_true,true_and,Nat.one_ne_zero,Nat.succ_ne_self,Bool.false_eq_true,List.length,List.drop,List.take,if_true,if_false,reduceCtorEq,List.cons_ne_nil,Nat.le_refl,and_true,Nat.reduceLeDiff];refine⟨_,r.2,rfl,.inl ⟨true,rfl⟩,(wJ sh.2).1,(wJ sh.2).2,λh3 j1 y1 N1 tr1 fr1=> ?_⟩;have c3:AE.look h3 (nm nn 3)=some (.box [.nil]):=by rw [fr1.2 _ (by unfold nm;omega)];exact b3
 have c4:AE.look h3 (nm nn 4)=some (.box [.nil]):=by rw [fr1.2 _ (by unfold nm;omega)];exact b4
 have c5:∀l,l<nn->AE.look h3 l=AE.look h l:=λl hl=>by rw [fr1.2 l (by unfold nm;omega)];exact b5 l hl
 have k0:∀l,N0 l->nm nn 7<=l/\l<nm nn (7+j):=λl hl=>by have:=fr0.1 l hl;unfold nm at*;omega
 have k1:∀l,N1 l->nm nn (7+j)<=l/\l<nm nn (7+j+j1):=λl hl=>by have:=fr1.1 l hl;unfold nm at*;omega
 have ajY:bG h3 y0 (mY r.1) N0:=tr0.frame λl hl=>fr1.2 l (by have:=(k0 l hl).2;unfold nm at*;omega)
 simp only [mX,jH,fV,cut,aF,AE.ev,aG,aC,au,aJ,aO,St.put,aB,AE.look,aI,reduceIte,Nat.reduceEqDiff,aj,aH,aL,aW,aU,aN.agg,List.getElem?_cons,Nat.reduceSub,Nat.reduceAdd,Nat.add_zero,Nat.zero_add,ne_eq,not_false_eq_true,true_and,Nat.one_ne_zero,Nat.succ_ne_self,Bool.false_eq_true,List.length,List.drop,List.take,if_true,if_false,reduceCtorEq,List.cons_ne_nil,Nat.le_refl,and_true,Nat.reduceLeDiff];refine jE rfl rfl (by simp only [dOK];try decide) rfl (rT rfl ?_);simp only [t32,q8,c3,cut,bL,dA,aR,splice,mX,jH,fV,List.nil_append,List.append_nil,List.cons_append,aF,AE.ev,aG,aC,au,aJ,aO,St.put,aB,AE.look,aI,reduceIte,Nat.reduceEqDiff,aj,aH,aL,aW,aU,aN.agg,List.getElem?_cons,Nat.reduceSub,Nat.reduceAdd,Nat.add_zero,Nat.zero_add,ne_eq,not_false_eq_true,true_and,Nat.one_ne_zero,Nat.succ_ne_self,Bool.false_eq_true,List.length,List.drop,List.take,if_true,if_false,reduceCtorEq,List.cons_ne_nil,Nat.le_refl,and_true,Nat.reduceLeDiff];refine jE rfl rfl (by simp only [dOK];try decide) rfl (rT rfl ?_);simp only [t35,q9,c4,cut,bL,dA,aR,splice,mX,jH,fV,List.nil_append,List.append_nil,List.cons_append,aF,AE.ev,aG,aC,au,aJ,aO,St.put,aB,AE.look,aI,reduceIte,Nat.reduceEqDiff,aj,aH,aL,aW,aU,aN.agg,List.getElem?_cons,Nat.reduceSub,Nat.reduceAdd,Nat.add_zero,Nat.zero_add,ne_eq,not_false_eq_true,true_and,Nat.one_ne_zero,Nat.succ_ne_self,Bool.false_eq_true,List.length,List.drop,List.take,if_true,if_false,reduceCtorEq,List.cons_ne_nil,Nat.le_refl,and_true,Nat.reduceLeDiff];refine AP (qg ?_);simp only [Gu,uR,qP,one,q8,q9,c3,c4,t32,t35,aF,AE.ev,aG,aC,au,aJ,aO,St.put,aB,AE.look,aI,reduceIte,Nat.reduceEqDiff,aj,aH,aL,aW,aU,aN.agg,List.getElem?_cons,Nat.reduceSub,Nat.reduceAdd,Nat.add_zero,Nat.zero_add,ne_eq,not_false_eq_true,true_and,Nat.one_ne_zero,Nat.succ_ne_self,Bool.false_eq_true,List.length,List.drop,List.take,if_true,if_false,reduceCtorEq,List.cons_ne_nil,Nat.le_refl,and_true,Nat.reduceLeDiff];refine hK _ _ y0 y1 N0 N1 (ajY.frame λl hl=> ?_) (tr1.frame λl hl=> ?_) (λl h0 h1=> ?_) ⟨λl hl=> ?_,λl hl=> ?_⟩
 .have:=k0 l hl;rw [ak _ _ (by unfold nm at*;omega),ak _ _ (by unfold nm at*;omega)]
 .have:=k1 l hl;rw [ak _ _ (by unfold nm at*;omega),ak _ _ (by unfold nm at*;omega)]
 .have:=k0 l h0;have:=k1 l h1;omega
 .rcases hl with hl | hl
  .have:=k0 l hl;unfold nm at*;omega
  .have:=k1 l hl;unfold nm at*;omega
 .rw [ak _ _ (lo _ l hl),ak _ _ (lo _ l hl)];exact c5 l hl
def Z9(co:Co)(G:co.den->Prop):Trans:=λargs h n K=>∃(cs ds:List Cell) (a:co.den),args=[.agg cs,.agg ds]/\F2 (iX h) cs ((lx co a).map (.d true))/\F2 (iX h) ds ((lx co a).map (.d true))/\G a/\∀g,K (.c (.d g (.bool true))) h 0
def aac{f:FuncId}{co:Co}{G:co.den->Prop}{ct:Ct aV ⟨[.sv false co,.sv false co],[],[.c .bool],[]⟩}(h:bg E f (cu ct))(hp:∀x y,G x->ct.pre (x,y,())=true/\ct.fn (x,y,())=(bp (x=y),())):bg E f (Z9 co G):=
 jU (aec h hp) λargs hh n K=>by
  rintro⟨cs,ds,a,rfl,hc,hd,hG,hK⟩;exact⟨cs,ds,a,a,rfl,hc,hd,hG,λg=>by show K (.c (.d g (.bool (bp (a=a))))) hh 0;rw [dO rfl];exact hK g⟩
def agi(co:Co)(mk:Int->co.den->co.den)(c:co.den->Int)(B:co.den->Prop):Trans:=λargs h n K=>∃(cs:List Cell) (a:co.den) (k:Int) (f:Bool),args=[.agg cs,.c (.d f (.int .i64 k))]/\F2 (iX h) cs ((lx co (mk k a)).map (.d true))/\B a/\0<=k/\k+c a<=4000000000000000000/\∀g,K (.c (.d g (.int .i64 (k+c a)))) h 0
def ads{f:FuncId}{co:Co}{mk:Int->co.den->co.den}{c:co.den->Int}{B:co.den->Prop}(hm:∀k a,mk k (mk k a)=mk k a)(hc:∀k a,c (mk k a)=c a){ct:Ct aV ⟨[.sv false co,.c (.int .i64)],[],[.c (.int .i64)],[]⟩}(h:bg E f (cu ct))
  (hp:∀x k,B x->0<=k->k+c x<=4000000000000000000->ct.pre (mk k x,k,())=true/\ct.fn (mk k x,k,())=(k+c x,())):bg E f (agi co mk c B):=
 jU (wz h) λargs hh n K=>by
  rintro⟨cs,a,k,f,rfl,hl,hB,h0,h1,hK⟩;obtain⟨q1,q2⟩:=hp a k hB h0 h1;exact RB (x:=mk k a) hl q1 λg=>by rw [q2];exact hK g
def dI.two{h:Heap}{y0 y1:Cell}{d0 d1:D}{N0 N1:Nat->Prop}(t0:bG h y0 d0 N0)(t1:bG h y1 d1 N1)(d:∀l,N0 l->¬N1 l):dI h 2 [y0,y1] [d0,d1] (λj=>match j with | 0=>N0 | _=>N1):=by
 refine⟨rfl,λj hj=> ?_,λj j' x hj hj' hx hx'=> ?_⟩
 .match j,hj with
  | 0,_=>exact t0
  | 1,_=>exact t1
 .match j,j',hj,hj' with
  | 0,0,_,_=>rfl
  | 1,1,_,_=>rfl
  | 0,1,_,_=>exact(d x hx hx').elim
  | 1,0,_,_=>exact(d x hx' hx).elim
def Im{t:List Atom}{op:Int}{f:Bool}{x y:List aA}{cs c2 c3:List Cell}{h:Heap}{n:Nat}{K:PV->Heap->Nat->Prop}(h0:F2 (iX h) cs ([mY t].map (.d true)))(h2:F2 (iX h) c2 ([bV x].map (.d true)))(h3:F2 (iX h) c3 ([bV y].map (.d true)))(st:ShT t)(sx:F.Sh x)(sy:F.Sh y)
  (hK:∀h' j y0 y1 M,dI h' 2 [y0,y1] [mY (kM t op x y).1,bV (kM t op x y).2] M->(∀i x,i<2->M i x->n<=x/\x<n+j)->(∀l,l<n->AE.look h' l=AE.look h l)->K (.tup [.agg [y0],.agg [y1]]) h' j):
  Rq Dc [.agg cs,.c (.d f (.int .i64 op)),.agg c2,.agg c3] h n K:=by
 refine⟨[.agg [.d true (mY t)],.c (.d true (.int .i64 op)),.agg [.d true (bV x)],.agg [.d true (bV y)]],.cons (.agg h0) (.cons (.c (.d _ _)) (.cons (.agg h2) (.cons (.agg h3) .nil))),t,op,true,x,y,rfl,st,sx,sy,λh1 j y0 y1 N0 N1 t0 t1 d fr=> ?_⟩;refine⟨λl=>N0 l\/N1 l,λl hl=>⟨(fr.1 l hl).1,?_⟩,?_,λh2 a b=>hK h2 j y0 y1 _ (dI.two (t0.frame λl hl=>a l (.inl hl)) (t1.frame λl hl=>a l (.inr hl)) d) (λi l hi hl=> ?_) b⟩
 .rcases hl with hl | hl
  .exact t0.kf.2 l hl
  .exact t1.kf.2 l hl
 .intro v hv;rcases List.mem_cons.1 hv with rfl | hv
  .intro c hc;rw [List.mem_singleton.1 hc];exact t0.kf.1
  .rw [List.mem_singleton.1 hv];intro c hc;rw [List.mem_singleton.1 hc];exact t1.kf.1
 .match i,hi with
  | 0,_=>exact fr.1 l (.inl hl)
  | 1,_=>exact fr.1 l (.inr hl)
def QD{f g f2 f3:Bool}(ct:Ct aV ⟨[.sv false .tab,.c (.int .i64),.sv false .poly,.sv false .poly],[],[.agg [.own 0],.agg [.own 1]],[.rows true .atom,.rows true .mono]⟩)(t:List Atom)(op:Int)(x y:List aA):
 ∃cr,jS (std 0) [] _ ct [.sv f .tab t,.c (.d g (.int .i64 op)),.sv f2 .poly x,.sv f3 .poly y]=some cr/\cr.ck=[ct.pre (t,op,x,y,())]/\
  cr.k cr.y=some (.tup [.agg [.own 0],.agg [.own 1]],[.rows true .atom (ct.fn (t,op,x,y,())).1,.rows true .mono (ct.fn (t,op,x,y,())).2.1]):=⟨_,rfl,rfl,rfl⟩
def aad{ct:Ct aV ⟨[.sv false .tab,.c (.int .i64),.sv false .poly,.sv false .poly],[],[.agg [.own 0],.agg [.own 1]],[.rows true .atom,.rows true .mono]⟩}{t:List Atom}{op:Int}{f:Bool}{x y:List aA}{cs c2 c3:List Cell}{h:Heap}{n:Nat}{K:PV->Heap->Nat->Prop}{N:Nat->Prop}
  (h0:F2 (EB h N) cs ([mY t].map (.d true))) (h2:F2 (EB h N) c2 ([bV x].map (.d true))) (h3:F2 (EB h N) c3 ([bV y].map (.d true))) (hp:ct.pre (t,op,x,y,())=true) {r:List Atom×List aA} (hr:ct.fn (t,op,x,y,())=(r.1,r.2,()))
  (hK:∀f g,K (.tup [.agg [.d f (mY r.1)],.agg [.d g (bV r.2)]]) (mG (λl=>¬N l) h) 0):VY (cu ct) [.agg cs,.c (.d f (.int .i64 op)),.agg c2,.agg c3] h n K:=by
 obtain⟨cr,e1,e2,e3⟩:=QD (f:=true) (g:=true) (f2:=true) (f3:=true) ct t op x y;rw [hr]at e3;refine⟨[.agg [.d true (mY t)],.c (.d f (.int .i64 op)),.agg [.d true (bV x)],.agg [.d true (bV y)]],N,.cons (.agg h0) (.cons (.c (.d _ _)) (.cons (.agg h2) (.cons (.agg h3) .nil))),?_,?_⟩
 .intro a ha;simp only [List.mem_cons,List.not_mem_nil,or_false]at ha;rcases ha with rfl | rfl | rfl | rfl
  .intro c hc;rw [List.mem_singleton.1 hc];trivial
  .trivial
  .intro c hc;rw [List.mem_singleton.1 hc];trivial
  .intro c hc;rw [List.mem_singleton.1 hc];trivial
 .refine xW [.sv true .tab t,.c (.d true (.int .i64 op)),.sv true .poly x,.sv true .poly y] (.cons (vH (co:= .tab) (x:=t)) (.cons (.one (.c (.d rfl λ_=> .inr rfl))) (.cons (vH (co:= .poly) (x:=x)) (.cons (vH (co:= .poly) (x:=y)) .nil)))) e1 (λb hb=> ?_) e3 λrr h'' j hrr hh _=> ?_
  .rw [e2]at hb;rw [List.mem_singleton.1 hb];exact hp
  .cases hrr with
   | one a=>cases a with | agg a=>cases a
   | tup a=>
   cases a with | cons a1 a=>
   cases a with | cons a2 a=>
   cases a;cases a1 with | agg _ a1=>
   cases a2 with | agg _ a2=>
   cases a1 with | cons a1 a3=>
   cases a2 with | cons a2 a4=>
   cases a3;cases a4;cases a1 with | own b1=>
   cases a2 with | own b2=>
   obtain⟨o0,k0,k1⟩:=hh.old 0 _ rfl;obtain⟨o1,k2,k3⟩:=hh.old 1 _ rfl;cases k1 with | rows k1=>
   cases k3 with | rows k3=>
   obtain rfl:=k1 rfl;obtain rfl:=k3 rfl;have z0:=Option.some.inj b1;have z1:=Option.some.inj b2;obtain⟨rfl,rfl⟩:=Prod.mk.inj z0;obtain⟨rfl,rfl⟩:=Prod.mk.inj z1;have l0:(bJ .atom r.1).length=r.1.length:=List.length_map ..;have l1:(bJ .mono r.2).length=r.2.length:=List.length_map ..;refine⟨_,.two (h':=(0,.gone)::h'') (h'':=(1,.gone)::(0,.gone)::h'') (f:=true&&true) (g:=true&&true) (ds:=[mY r.1]) (fs:=[bV r.2]) ?_ ?_,?_,hK _ _⟩
   .simp only [jQ,uJ,k0,aJ,List.drop_zero];refine⟨trivial,by rw [l0];omega,trivial,?_,trivial⟩;rw [List.take_of_length_le (by rw [l0];exact Nat.le_refl _)];rfl
   .simp only [jQ,uJ,ak _ _ (show 0≠1 by decide),k2,aJ,List.drop_zero];refine⟨trivial,by rw [l1];omega,trivial,?_,trivial⟩;rw [List.take_of_length_le (by rw [l1];exact Nat.le_refl _)];rfl
   .intro v hv;simp only [List.mem_cons,List.not_mem_nil,or_false]at hv;rcases hv with rfl | rfl<;>(intro c hc;rw [List.mem_singleton.1 hc];trivial)
set_option maxRecDepth 100000
def Na{p:List aA}(h:F.Sh p):PL p:=⟨by have:=h.1;omega,λm hm=>by have:=h.2 m hm;show m.atoms.length<=_;omega⟩
def adt{t:List Atom}(h:ShT t):TL t:=⟨by have:=h.1;omega,λa ha=>⟨Na (h.2 a ha).1,Na (h.2 a ha).2⟩⟩
def SG(args:List PV):Prop:=∃(t:List Atom) (op:Int) (x y:List aA),args=[.agg [.d false (mY t)],.c (.d false (.int .i64 op)),.agg [.d false (bV x)],.agg [.d false (bV y)]]/\UT t/\UM x/\UM y
abbrev adu(t:List Atom)(k:Int):Prop:=UT t/\0<=k/\k<=1048576
abbrev aae(x:List aA)(k:Int):Prop:=UM x/\0<=k/\k<=1048576
def FK{G:gV}{ct:Ct aV ⟨[.sv false .tab,.c (.int .i64),.sv false .poly,.sv false .poly],[],[.agg [.own 0],.agg [.own 1]],[.rows true .atom,.rows true .mono]⟩}(htab:∀t op x y,ShT t->F.Sh x->F.Sh y->ct.pre (t,op,x,y,())=true/\ct.fn (t,op,x,y,())=((kM t op x y).1,(kM t op x y).2,()))
  (gf5:G 5=some (aea .tab adu λt k=>szL (cA t) k)) (gf6:G 6=some (aea .poly aae λx k=>szL (cM x) k)) (gf7:G 7=some (VY (cu ct))) (gf8:G 8=some (wM 1 TB)) (gf9:G 9=some (wM 1 PB)) (aiE:G 10=some (Rq Dc))
  (abU:G 11=some (Z9 .tab ShT)) (aaf:G 12=some (Z9 .poly F.Sh)) (aiF:G 13=some Z8) (agj:G 14=some QA) (aiG:G 15=some (agi .tab mkA ctA Any)) (aiH:G 16=some (agi .poly mkM ctM Any))
  {tbl:Nat->List eY} (q11:tbl 11=[(0,[4],[]),(2,[1],[]),(3,[6],[]),(5,[7],[]),(1,[38],[3,5]),(4,[41],[5]),(6,[43],[]),(7,[39,40,42,44],[]),(8,[45],[]),(9,[37],[]),(10,[37],[]),(11,[],[]),(12,[],[]),(13,[10,46],[]),(14,[11,47],[])])
  (q18:tbl 18=[(0,[12],[]),(1,[4],[]),(2,[73],[0]),(3,[72,74],[]),(4,[75],[])]) (q20:tbl 20=[(0,[13],[]),(1,[6],[]),(2,[78],[0]),(3,[77,79],[]),(4,[80],[])]) (q22:tbl 22=[(0,[14],[]),(1,[7],[]),(2,[83],[0]),(3,[82,84],[]),(4,[85],[])])
  (q42:tbl 42=[(0,[4],[]),(2,[1],[]),(3,[6],[]),(5,[7],[]),(1,[130],[3,5]),(4,[133],[5]),(6,[135],[]),(7,[131,132,134,136],[]),(8,[137],[]),(9,[129],[]),(10,[129],[]),(11,[],[]),(12,[],[]),(13,[20,138],[]),(14,[21,139],[])])
  {args:List PV} {h:Heap} {n:Nat} {K:PV->Heap->Nat->Prop} (hR:Zb SG args h n K): @gy E G (@drA ⟨[],[]⟩ E G tbl) Tryz.f3 (Tryz.f3.body.getD .skip) args h n K:=by
 letI:bI:=⟨[],[]⟩
 obtain⟨⟨t,op,x,y,rfl,ut,ux,uy⟩,rfl,rfl,hK⟩:=hR;unfold gy;dsimp only [Tryz.f3,Option.getD,slotsOf,List.length,Nat.reduceAdd,Nat.reduceSub];have H0:HS [] (nm 0 0) [] []:=HS.nil;refine bD ?_;refine OC H0 ⟨rfl,rfl,rfl⟩ (by decide) rfl (Nat.succ_ne_zero _) λh1 H1=> ?_
 refine OC H1 ⟨rfl,rfl,rfl⟩ (by decide) rfl (Nat.succ_ne_zero _) λh2 H2=> ?_
 refine OC H2 ⟨rfl,rfl,rfl⟩ (by decide) rfl (Nat.succ_ne_zero _) λh3 H3=> ?_
 refine rU ⟨rfl,rfl,rfl⟩ (by decide) rfl ?_;simp only [aP];refine bD ?_;refine rU ⟨rfl,rfl,rfl⟩ (by decide) rfl ?_;simp only [aP];refine bD ?_;refine dD H3 ⟨rfl,rfl,rfl⟩ (by decide) rfl (a:=2) rfl rfl rfl rfl ?_;refine dF ⟨rfl,rfl,rfl⟩ (by decide) rfl ?_;refine fM ⟨rfl,rfl,rfl⟩ (by decide) rfl rfl gf5 ⟨_,t,_,_,rfl,(.cons (.d _ _) .nil),⟨ut,by decide,by decide⟩,λg=> ?_⟩;refine oq ⟨rfl,rfl,rfl⟩ (by decide) rfl ?_;simp only [aP];refine bD ?_;refine dF ⟨rfl,rfl,rfl⟩ (by decide) rfl ?_;refine vI ⟨rfl,rfl,rfl⟩ (by decide) rfl ?_;simp only [aP];refine dU (ig (jD rfl) (λ_=>JA (n:=0) (by rfl) (by decide) rfl rfl (by exact λ_ h=>h) hK) (λhb=>kQ ?_));have n1:0<=szL (cA t) 1048576:=by have:=of_decide_eq_false hb;omega
 have z1:=(szZ (Sr t) (by decide) (by decide)).2 n1;refine bD ?_;refine dD H3 ⟨rfl,rfl,rfl⟩ (by decide) rfl (a:=1) rfl rfl rfl rfl ?_;refine dF ⟨rfl,rfl,rfl⟩ (by decide) rfl ?_;refine fM ⟨rfl,rfl,rfl⟩ (by decide) rfl rfl gf6 ⟨_,x,_,_,rfl,(.cons (.d _ _) .nil),⟨ux,n1,z1.2⟩,λg=> ?_⟩;refine oq ⟨rfl,rfl,rfl⟩ (by decide) rfl ?_;simp only [aP];refine bD ?_;refine dF ⟨rfl,rfl,rfl⟩ (by decide) rfl ?_;refine vI ⟨rfl,rfl,rfl⟩ (by decide) rfl ?_;simp only [aP];refine dU (ig (jD rfl) (λ_=>JA (n:=0) (by rfl) (by decide) rfl rfl (by exact λ_ h=>h) hK) (λhb=>kQ ?_));have n2:0<=szL (cM x) (szL (cA t) 1048576):=by have:=of_decide_eq_false hb;omega
 have z2:=(szZ (qm x) (n1) (z1.2)).2 n2;refine bD ?_;refine dD H3 ⟨rfl,rfl,rfl⟩ (by decide) rfl (a:=0) rfl rfl rfl rfl ?_;refine dF ⟨rfl,rfl,rfl⟩ (by decide) rfl ?_;refine fM ⟨rfl,rfl,rfl⟩ (by decide) rfl rfl gf6 ⟨_,y,_,_,rfl,(.cons (.d _ _) .nil),⟨uy,n2,z2.2⟩,λg=> ?_⟩;refine oq ⟨rfl,rfl,rfl⟩ (by decide) rfl ?_;simp only [aP];refine bD ?_;refine dF ⟨rfl,rfl,rfl⟩ (by decide) rfl ?_;refine vI ⟨rfl,rfl,rfl⟩ (by decide) rfl ?_;simp only [aP];refine dU (ig (jD rfl) (λ_=>JA (n:=0) (by rfl) (by decide) rfl rfl (by exact λ_ h=>h) hK) (λhb=>kQ ?_));have n3:0<=szL (cM y) (szL (cM x) (szL (cA t) 1048576)):=by have:=of_decide_eq_false hb;omega
 have z3:=(szZ (qm y) (n2) (z2.2)).2 n3;have b1:cA t<=1048576:=by have:=qm x;have:=qm y;omega
 have b2:cM x<=1048576:=by have:=Sr t;have:=qm y;omega
 have b3:cM y<=1048576:=by have:=Sr t;have:=qm x;omega
 have st:=afL b1;have sx:=Sv b2;have sy:=Sv b3;obtain⟨pt,ht⟩:=htab t op x y st sx sy;have sr:=Md (op:=op) st sx sy;have cr:=Za t op x y;generalize hr:kM t op x y=r at ht sr cr;have m1:=YZ t;have m2:=J5 x;have m3:=J5 y;have m4:=afM sr.2;have m5:=AQ t;have m6:=jF x;have m7:=jF y;have m8:=AQ r.1;have m9:=jF r.2;have tb:TB [mY t]:=⟨t,rfl,BI st⟩;have xb:PB [bV x]:=⟨x,rfl,wJ sx⟩;have yb:PB [bV y]:=⟨y,rfl,wJ sy⟩;refine AO ⟨?_,?_⟩
 .unfold Static;rw [q11];kernel_rfl
 rw [q11];refine jv H3 rfl rfl ⟨rfl,rfl,rfl⟩ (by decide) rfl (idx:=2) rfl rfl rfl rfl ?_;refine zC rfl rfl ⟨rfl,rfl,rfl⟩ (by decide) rfl ?_;refine jv H3 rfl rfl ⟨rfl,rfl,rfl⟩ (by decide) rfl (idx:=1) rfl rfl rfl rfl ?_;refine jv H3 rfl rfl ⟨rfl,rfl,rfl⟩ (by decide) rfl (idx:=0) rfl rfl rfl rfl ?_;refine kE rfl rfl ⟨rfl,rfl,rfl⟩ (by decide) rfl gf8 ⟨_,[mY t],rfl,rfl,rfl,tX,tb,λh4 j4 cs4 M4 tr4 r4 f4=> ?_⟩;obtain⟨a0,rfl⟩:=one_cell tr4.len;have H4:=H3.qI (d:=[mY t]) tr4 r4 f4;refine⟨(o8 H4 rfl ⟨rfl,rfl,rfl⟩ rfl (idx:=1) rfl rfl rfl rfl (o8 H4 rfl ⟨rfl,rfl,rfl⟩ rfl (idx:=0) rfl rfl rfl rfl mH)),?_⟩;refine kE rfl rfl ⟨rfl,rfl,rfl⟩ (by decide) rfl gf9 ⟨_,[bV x],rfl,rfl,rfl,tX,xb,λh5 j5 cs5 M5 tr5 r5 f5=> ?_⟩;obtain⟨a1,rfl⟩:=one_cell tr5.len;have H5:=H4.qI (d:=[bV x]) tr5 r5 f5;refine⟨(o8 H5 rfl ⟨rfl,rfl,rfl⟩ rfl (idx:=0) rfl rfl rfl rfl mH),?_⟩;refine kE rfl rfl ⟨rfl,rfl,rfl⟩ (by decide) rfl gf9 ⟨_,[bV y],rfl,rfl,rfl,tX,yb,λh6 j6 cs6 M6 tr6 r6 f6=> ?_⟩;obtain⟨a2,rfl⟩:=one_cell tr6.len;have H6:=H5.qI (d:=[bV y]) tr6 r6 f6;refine⟨mH,?_⟩;obtain⟨N,gv,HN⟩:=H6.give;refine Hq rfl rfl ⟨rfl,rfl,rfl⟩ (by decide) rfl rfl rfl rfl gf7 (aad (gv 2 _ _ rfl) (gv 1 _ _ rfl) (gv 0 _ _ rfl) pt ht λe0 e1=> ?_);refine⟨mH,?_⟩;have H7:=HN;refine zC rfl rfl ⟨rfl,rfl,rfl⟩ (by decide) rfl ?_;refine zD rfl rfl ⟨rfl,rfl,rfl⟩ (by decide) rfl rfl ?_;refine zD rfl rfl ⟨rfl,rfl,rfl⟩ (by decide) rfl rfl ?_;refine LZ H7 rfl rfl rfl rfl rfl rfl rfl rfl ⟨rfl,rfl,rfl⟩ ⟨rfl,rfl,rfl⟩ ⟨rfl,rfl,rfl⟩ ⟨rfl,rfl,rfl⟩ (by decide) (by decide) rfl rfl rfl rfl (by decide) rfl rfl rfl rfl rfl rfl (Nat.succ_ne_zero _) (Nat.succ_ne_zero _) λh8 H8=> ?_
 refine AP ?_;refine bD ?_;refine dD H8 ⟨rfl,rfl,rfl⟩ (by decide) rfl (a:=4) rfl rfl rfl rfl ?_;refine EJ ⟨rfl,rfl,rfl⟩ (by decide) rfl gf8 ⟨_,[mY t],rfl,rfl,rfl,tX,tb,λh9 j9 cs9 M9 tr9 r9 f9=> ?_⟩;obtain⟨x0,rfl⟩:=one_cell tr9.len;have H9:=H8.qI (d:=[mY t]) tr9 r9 f9;refine OA H9 ⟨rfl,rfl,rfl⟩ ⟨rfl,rfl,rfl⟩ (by decide) rfl (by decide) rfl rfl rfl (List.cons_ne_nil _ _) λh10 H10=> ?_
 simp only [aP];refine bD ?_;refine dD H10 ⟨rfl,rfl,rfl⟩ (by decide) rfl (a:=4) rfl rfl rfl rfl ?_;refine EJ ⟨rfl,rfl,rfl⟩ (by decide) rfl gf9 ⟨_,[bV x],rfl,rfl,rfl,tX,xb,λh11 j11 akb M11 aiI r11 f11=> ?_⟩;obtain⟨x2,rfl⟩:=one_cell aiI.len;have H11:=H10.qI (d:=[bV x]) aiI r11 f11;refine OA H11 ⟨rfl,rfl,rfl⟩ ⟨rfl,rfl,rfl⟩ (by decide) rfl (by decide) rfl rfl rfl (List.cons_ne_nil _ _) λh12 H12=> ?_
 simp only [aP];refine bD ?_;refine dD H12 ⟨rfl,rfl,rfl⟩ (by decide) rfl (a:=4) rfl rfl rfl rfl ?_;refine EJ ⟨rfl,rfl,rfl⟩ (by decide) rfl gf9 ⟨_,[bV y],rfl,rfl,rfl,tX,yb,λh13 j13 akc M13 aiJ r13 f13=> ?_⟩;obtain⟨x3,rfl⟩:=one_cell aiJ.len;have H13:=H12.qI (d:=[bV y]) aiJ r13 f13;refine OA H13 ⟨rfl,rfl,rfl⟩ ⟨rfl,rfl,rfl⟩ (by decide) rfl (by decide) rfl rfl rfl (List.cons_ne_nil _ _) λh14 H14=> ?_
 simp only [aP];refine bD ?_;refine dD H14 ⟨rfl,rfl,rfl⟩ (by decide) rfl (a:=2) rfl rfl rfl rfl ?_;refine dF ⟨rfl,rfl,rfl⟩ (by decide) rfl ?_;refine dD H14 ⟨rfl,rfl,rfl⟩ (by decide) rfl (a:=1) rfl rfl rfl rfl ?_;refine dD H14 ⟨rfl,rfl,rfl⟩ (by decide) rfl (a:=0) rfl rfl rfl rfl ?_;refine Wn ⟨rfl,rfl,rfl⟩ (by decide) rfl rfl rfl rfl aiE (Im (t:=t) (x:=x) (y:=y) (H14.o7 (i:=2) rfl) (H14.o7 (i:=1) rfl) (H14.o7 (i:=0) rfl) st sx sy λh15 j15 g0 g1 M15 aiK r15 f15=> ?_);rw [hr]at aiK;have H15:=(H14.qI (cs:=[g0]++ [g1]) (d:=[mY r.1]++ [bV r.2]) aiK r15 f15).split rfl;refine dF ⟨rfl,rfl,rfl⟩ (by decide) rfl ?_;refine RG ⟨rfl,rfl,rfl⟩ (by decide) rfl rfl ?_;refine RG ⟨rfl,rfl,rfl⟩ (by decide) rfl rfl ?_;refine aaT H15 ⟨rfl,rfl,rfl⟩ ⟨rfl,rfl,rfl⟩ ⟨rfl,rfl,rfl⟩ ⟨rfl,rfl,rfl⟩ (by decide) (by decide) rfl rfl (by decide) rfl rfl rfl rfl rfl rfl (Nat.succ_ne_zero _) (Nat.succ_ne_zero _) λh16 H16=> ?_
 simp only [aP];refine bD ?_;refine dD H16 ⟨rfl,rfl,rfl⟩ (by decide) rfl (a:=1) rfl rfl rfl rfl ?_;refine dD H16 ⟨rfl,rfl,rfl⟩ (by decide) rfl (a:=6) rfl rfl rfl rfl ?_;refine fM ⟨rfl,rfl,rfl⟩ (by decide) rfl rfl abU ⟨_,_,r.1,rfl,(H16.o7 (i:=0) rfl),(.cons (.d _ _) .nil),sr.1,λg=> ?_⟩;refine A8 ⟨rfl,rfl,rfl⟩ (by decide) rfl ?_;refine dF ⟨rfl,rfl,rfl⟩ (by decide) rfl ?_;refine wO rfl rfl rfl (by simp only [dOK];decide) ?_;refine dD H16 ⟨rfl,rfl,rfl⟩ (by decide) rfl (a:=0) rfl rfl rfl rfl ?_;refine wO rfl rfl rfl (by simp only [dOK];decide) ?_;refine dD H16 ⟨rfl,rfl,rfl⟩ (by decide) rfl (a:=5) rfl rfl rfl rfl ?_;refine wO rfl rfl rfl (by simp only [dOK];decide) ?_;refine fM ⟨rfl,rfl,rfl⟩ (by decide) rfl rfl aaf ⟨_,_,r.2,rfl,(H16.o7 (i:=1) rfl),(.cons (.d _ _) .nil),sr.2,λg=> ?_⟩;refine wO rfl rfl rfl (by simp only [dOK];decide) ?_;refine A8 ⟨rfl,rfl,rfl⟩ (by decide) rfl ?_;refine zB ⟨rfl,rfl,rfl⟩ (by decide) rfl rfl ?_;simp only [aP];refine dU (ig (jD rfl) (λhb=>absurd hb (by decide)) (λ_=>kQ ?_));refine AO ⟨?_,?_⟩
 .unfold Static;rw [q18];kernel_rfl
 rw [q18];refine jv H16 rfl rfl ⟨rfl,rfl,rfl⟩ (by decide) rfl (idx:=4) rfl rfl rfl rfl ?_;refine jv H16 rfl rfl ⟨rfl,rfl,rfl⟩ (by decide) rfl (idx:=9) rfl rfl rfl rfl ?_;refine kE rfl rfl ⟨rfl,rfl,rfl⟩ (by decide) rfl gf8 ⟨_,[mY t],rfl,rfl,rfl,tX,tb,λh17 j17 akd M17 aiL r17 f17=> ?_⟩;obtain⟨u18,rfl⟩:=one_cell aiL.len;have H17:=H16.qI (d:=[mY t]) aiL r17 f17;refine⟨(o8 H17 rfl ⟨rfl,rfl,rfl⟩ rfl (idx:=4) rfl rfl rfl rfl mH),?_⟩;refine A9 rfl rfl ⟨rfl,rfl,rfl⟩ (by decide) rfl rfl abU ⟨_,_,t,rfl,(H17.o7 (i:=5) rfl),(H17.o7 (i:=0) rfl),st,λg=>⟨mH,?_⟩⟩;refine JB rfl rfl ⟨rfl,rfl,rfl⟩ (by decide) rfl ?_;refine AP ?_;refine dU (ig (jD rfl) (λhb=>absurd hb (by decide)) (λ_=>kQ ?_));refine AO ⟨?_,?_⟩
 .unfold Static;rw [q20];kernel_rfl
 rw [q20];refine jv H17 rfl rfl ⟨rfl,rfl,rfl⟩ (by decide) rfl (idx:=3) rfl rfl rfl rfl ?_;refine jv H17 rfl rfl ⟨rfl,rfl,rfl⟩ (by decide) rfl (idx:=8) rfl rfl rfl rfl ?_;refine kE rfl rfl ⟨rfl,rfl,rfl⟩ (by decide) rfl gf9 ⟨_,[bV x],rfl,rfl,rfl,tX,xb,λh18 j18 ake M18 aiM r18 f18=> ?_⟩;obtain⟨u20,rfl⟩:=one_cell aiM.len;have H18:=H17.qI (d:=[bV x]) aiM r18 f18;refine⟨(o8 H18 rfl ⟨rfl,rfl,rfl⟩ rfl (idx:=3) rfl rfl rfl rfl mH),?_⟩;refine A9 rfl rfl ⟨rfl,rfl,rfl⟩ (by decide) rfl rfl aaf ⟨_,_,x,rfl,(H18.o7 (i:=5) rfl),(H18.o7 (i:=0) rfl),sx,λg=>⟨mH,?_⟩⟩;refine JB rfl rfl ⟨rfl,rfl,rfl⟩ (by decide) rfl ?_;refine AP ?_;refine dU (ig (jD rfl) (λhb=>absurd hb (by decide)) (λ_=>kQ ?_));refine AO ⟨?_,?_⟩
 .unfold Static;rw [q22];kernel_rfl
 rw [q22];refine jv H18 rfl rfl ⟨rfl,rfl,rfl⟩ (by decide) rfl (idx:=2) rfl rfl rfl rfl ?_;refine jv H18 rfl rfl ⟨rfl,rfl,rfl⟩ (by decide) rfl (idx:=7) rfl rfl rfl rfl ?_;refine kE rfl rfl ⟨rfl,rfl,rfl⟩ (by decide) rfl gf9 ⟨_,[bV y],rfl,rfl,rfl,tX,yb,λh19 j19 akf M19 aiN r19 f19=> ?_⟩;obtain⟨u22,rfl⟩:=one_cell aiN.len;have H19:=H18.qI (d:=[bV y]) aiN r19 f19;refine⟨(o8 H19 rfl ⟨rfl,rfl,rfl⟩ rfl (idx:=2) rfl rfl rfl rfl mH),?_⟩;refine A9 rfl rfl ⟨rfl,rfl,rfl⟩ (by decide) rfl rfl aaf ⟨_,_,y,rfl,(H19.o7 (i:=5) rfl),(H19.o7 (i:=0) rfl),sy,λg=>⟨mH,?_⟩⟩;refine JB rfl rfl ⟨rfl,rfl,rfl⟩ (by decide) rfl ?_;refine AP ?_;refine dU (ig (jD rfl) (λhb=>absurd hb (by decide)) (λ_=>kQ ?_));refine bD ?_;refine rU ⟨rfl,rfl,rfl⟩ (by decide) rfl ?_;simp only [aP];refine bD ?_;refine dD H19 ⟨rfl,rfl,rfl⟩ (by decide) rfl (a:=4) rfl rfl rfl rfl ?_;refine dF ⟨rfl,rfl,rfl⟩ (by decide) rfl ?_;obtain⟨M20,t20,r20,f20⟩:=H19.LY (i:=7) rfl;refine fM ⟨rfl,rfl,rfl⟩ (by decide) rfl rfl aiF ⟨_,t,_,_,M20,rfl,t20,r20,(adt st),by decide,ah,λh20 g j20 t' f'=> ?_⟩;have H20:=f20 h20 j20 [mY (mkA 1 t)] rfl t' f';refine oq ⟨rfl,rfl,rfl⟩ (by decide) rfl ?_;simp only [aP];refine bD ?_;refine dD H20 ⟨rfl,rfl,rfl⟩ (by decide) rfl (a:=3) rfl rfl rfl rfl ?_;refine dF ⟨rfl,rfl,rfl⟩ (by decide) rfl ?_;obtain⟨M21,t21,r21,f21⟩:=H20.LY (i:=6) rfl;refine fM ⟨rfl,rfl,rfl⟩ (by decide) rfl rfl agj ⟨_,x,_,_,M21,rfl,t21,r21,(Na sx),ah,ah,λh21 g j21 t' f'=> ?_⟩;have H21:=f21 h21 j21 [bV (mkM (1+ctA t) x)] rfl t' f';refine oq ⟨rfl,rfl,rfl⟩ (by decide) rfl ?_;simp only [aP];refine bD ?_;refine dD H21 ⟨rfl,rfl,rfl⟩ (by decide) rfl (a:=2) rfl rfl rfl rfl ?_;refine dF ⟨rfl,rfl,rfl⟩ (by decide) rfl ?_;obtain⟨M22,t22,r22,f22⟩:=H21.LY (i:=5) rfl;refine fM ⟨rfl,rfl,rfl⟩ (by decide) rfl rfl agj ⟨_,y,_,_,M22,rfl,t22,r22,(Na sy),ah,ah,λh22 g j22 t' f'=> ?_⟩;have H22:=f22 h22 j22 [bV (mkM (1+ctA t+ctM x) y)] rfl t' f';refine oq ⟨rfl,rfl,rfl⟩ (by decide) rfl ?_;simp only [aP];refine bD ?_;refine dF ⟨rfl,rfl,rfl⟩ (by decide) rfl ?_;refine vI ⟨rfl,rfl,rfl⟩ (by decide) rfl ?_;rw [show decide (1+ctA t+ctM x+ctM y<0)=false from decide_eq_false ah];refine dF ⟨rfl,rfl,rfl⟩ (by decide) rfl ?_;refine wO rfl rfl rfl (by simp only [dOK];decide) ?_;refine dD H22 ⟨rfl,rfl,rfl⟩ (by decide) rfl (a:=1) rfl rfl rfl rfl ?_;refine wO rfl rfl rfl (by simp only [dOK];decide) ?_;refine dD H22 ⟨rfl,rfl,rfl⟩ (by decide) rfl (a:=6) rfl rfl rfl rfl ?_;refine wO rfl rfl rfl (by simp only [dOK];decide) ?_;refine fM ⟨rfl,rfl,rfl⟩ (by decide) rfl rfl abU ⟨_,_,r.1,rfl,(H22.o7 (i:=3) rfl),(.cons (.d _ _) .nil),sr.1,λg=> ?_⟩;refine wO rfl rfl rfl (by simp only [dOK];decide) ?_;refine A8 ⟨rfl,rfl,rfl⟩ (by decide) rfl ?_;refine zB ⟨rfl,rfl,rfl⟩ (by decide) rfl rfl ?_;refine dF ⟨rfl,rfl,rfl⟩ (by decide) rfl ?_;refine wO rfl rfl rfl (by simp only [dOK];decide) ?_;refine dD H22 ⟨rfl,rfl,rfl⟩ (by decide) rfl (a:=0) rfl rfl rfl rfl ?_;refine wO rfl rfl rfl (by simp only [dOK];decide) ?_;refine dD H22 ⟨rfl,rfl,rfl⟩ (by decide) rfl (a:=5) rfl rfl rfl rfl ?_;refine wO rfl rfl rfl (by simp only [dOK];decide) ?_;refine fM ⟨rfl,rfl,rfl⟩ (by decide) rfl rfl aaf ⟨_,_,r.2,rfl,(H22.o7 (i:=4) rfl),(.cons (.d _ _) .nil),sr.2,λg=> ?_⟩;refine wO rfl rfl rfl (by simp only [dOK];decide) ?_;refine A8 ⟨rfl,rfl,rfl⟩ (by decide) rfl ?_;refine zB ⟨rfl,rfl,rfl⟩ (by decide) rfl rfl ?_;simp only [aP];refine dU (ig (jD rfl) (λhb=>absurd hb (by decide)) (λ_=>kQ ?_));refine bD ?_;refine rU ⟨rfl,rfl,rfl⟩ (by decide) rfl ?_;simp only [aP];refine bD ?_;refine dD H22 ⟨rfl,rfl,rfl⟩ (by decide) rfl (a:=1) rfl rfl rfl rfl ?_;refine dF ⟨rfl,rfl,rfl⟩ (by decide) rfl ?_;obtain⟨M23,t23,r23,f23⟩:=H22.LY (i:=3) rfl;refine fM ⟨rfl,rfl,rfl⟩ (by decide) rfl rfl aiF ⟨_,r.1,_,_,M23,rfl,t23,r23,(adt sr.1),by decide,ah,λh23 g j23 t' f'=> ?_⟩;have H23:=f23 h23 j23 [mY (mkA 1 r.1)] rfl t' f';refine oq ⟨rfl,rfl,rfl⟩ (by decide) rfl ?_;simp only [aP];refine bD ?_;refine dD H23 ⟨rfl,rfl,rfl⟩ (by decide) rfl (a:=0) rfl rfl rfl rfl ?_;refine dF ⟨rfl,rfl,rfl⟩ (by decide) rfl ?_;obtain⟨M24,t24,r24,f24⟩:=H23.LY (i:=4) rfl;refine fM ⟨rfl,rfl,rfl⟩ (by decide) rfl rfl agj ⟨_,r.2,_,_,M24,rfl,t24,r24,(Na sr.2),ah,ah,λh24 g j24 t' f'=> ?_⟩;have H24:=f24 h24 j24 [bV (mkM (1+ctA r.1) r.2)] rfl t' f';refine oq ⟨rfl,rfl,rfl⟩ (by decide) rfl ?_;simp only [aP];refine bD ?_;refine rU ⟨rfl,rfl,rfl⟩ (by decide) rfl ?_;simp only [aP];refine bD ?_;refine dD H24 ⟨rfl,rfl,rfl⟩ (by decide) rfl (a:=1) rfl rfl rfl rfl ?_;refine dF ⟨rfl,rfl,rfl⟩ (by decide) rfl ?_;refine fM ⟨rfl,rfl,rfl⟩ (by decide) rfl rfl aiG ⟨_,r.1,_,_,rfl,(H24.o7 (i:=3) rfl),trivial,by decide,ah,λg=> ?_⟩;refine oq ⟨rfl,rfl,rfl⟩ (by decide) rfl ?_;simp only [aP];refine bD ?_;refine dF ⟨rfl,rfl,rfl⟩ (by decide) rfl ?_;refine vI ⟨rfl,rfl,rfl⟩ (by decide) rfl ?_;simp only [aP];refine dU (ig (jD rfl) (λhb=>absurd (of_decide_eq_true hb) ah) (λ_=>kQ ?_));refine bD ?_;refine dD H24 ⟨rfl,rfl,rfl⟩ (by decide) rfl (a:=0) rfl rfl rfl rfl ?_;refine dF ⟨rfl,rfl,rfl⟩ (by decide) rfl ?_;refine fM ⟨rfl,rfl,rfl⟩ (by decide) rfl rfl aiH ⟨_,r.2,_,_,rfl,(H24.o7 (i:=4) rfl),trivial,ah,ah,λg=> ?_⟩;refine oq ⟨rfl,rfl,rfl⟩ (by decide) rfl ?_;simp only [aP];refine bD ?_;refine dF ⟨rfl,rfl,rfl⟩ (by decide) rfl ?_;refine vI ⟨rfl,rfl,rfl⟩ (by decide) rfl ?_;simp only [aP];refine dU (ig (jD rfl) (λhb=>absurd (of_decide_eq_true hb) ah) (λ_=>kQ ?_));refine bD ?_;refine dF ⟨rfl,rfl,rfl⟩ (by decide) rfl ?_;refine dF ⟨rfl,rfl,rfl⟩ (by decide) rfl ?_;refine ace ⟨rfl,rfl,rfl⟩ (by decide) rfl rfl ?_;simp only [aP];refine dU (ig (jD rfl) (λhb=>absurd hb (by simp)) (λ_=>kQ ?_));refine AO ⟨?_,?_⟩
 .unfold Static;rw [q42];kernel_rfl
 rw [q42];refine jv H24 rfl rfl ⟨rfl,rfl,rfl⟩ (by decide) rfl (idx:=9) rfl rfl rfl rfl ?_;refine zC rfl rfl ⟨rfl,rfl,rfl⟩ (by decide) rfl ?_;refine jv H24 rfl rfl ⟨rfl,rfl,rfl⟩ (by decide) rfl (idx:=8) rfl rfl rfl rfl ?_;refine jv H24 rfl rfl ⟨rfl,rfl,rfl⟩ (by decide) rfl (idx:=7) rfl rfl rfl rfl ?_;refine kE rfl rfl ⟨rfl,rfl,rfl⟩ (by decide) rfl gf8 ⟨_,[mY t],rfl,rfl,rfl,tX,tb,λh25 j25 akg M25 aiO r25 f25=> ?_⟩;obtain⟨b0,rfl⟩:=one_cell aiO.len;have H25:=H24.qI (d:=[mY t]) aiO r25 f25;refine⟨(o8 H25 rfl ⟨rfl,rfl,rfl⟩ rfl (idx:=8) rfl rfl rfl rfl (o8 H25 rfl ⟨rfl,rfl,rfl⟩ rfl (idx:=7) rfl rfl rfl rfl mH)),?_⟩;refine kE rfl rfl ⟨rfl,rfl,rfl⟩ (by decide) rfl gf9 ⟨_,[bV x],rfl,rfl,rfl,tX,xb,λh26 j26 akh M26 aiP r26 f26=> ?_⟩;obtain⟨b1,rfl⟩:=one_cell aiP.len;have H26:=H25.qI (d:=[bV x]) aiP r26 f26;refine⟨(o8 H26 rfl ⟨rfl,rfl,rfl⟩ rfl (idx:=7) rfl rfl rfl rfl mH),?_⟩;refine kE rfl rfl ⟨rfl,rfl,rfl⟩ (by decide) rfl gf9 ⟨_,[bV y],rfl,rfl,rfl,tX,yb,λh27 j27 aki M27 aiQ r27 f27=> ?_⟩;obtain⟨b2,rfl⟩:=one_cell aiQ.len;have H27:=H26.qI (d:=[bV y]) aiQ r27 f27;refine⟨mH,?_⟩;refine Hq rfl rfl ⟨rfl,rfl,rfl⟩ (by decide) rfl rfl rfl rfl aiE (Im (t:=t) (x:=x) (y:=y) (H27.o7 (i:=2) rfl) (H27.o7 (i:=1) rfl) (H27.o7 (i:=0) rfl) st sx sy λh28 j28 k0 k1 M28 aiR r28 f28=> ?_);rw [hr]at aiR;have H28:=(H27.qI (cs:=[k0]++ [k1]) (d:=[mY r.1]++ [bV r.2]) aiR r28 f28).split rfl;refine⟨mH,?_⟩;refine zC rfl rfl ⟨rfl,rfl,rfl⟩ (by decide) rfl ?_;refine zD rfl rfl ⟨rfl,rfl,rfl⟩ (by decide) rfl rfl ?_;refine zD rfl rfl ⟨rfl,rfl,rfl⟩ (by decide) rfl rfl ?_;refine LZ H28 rfl rfl rfl rfl rfl rfl rfl rfl ⟨rfl,rfl,rfl⟩ ⟨rfl,rfl,rfl⟩ ⟨rfl,rfl,rfl⟩ ⟨rfl,rfl,rfl⟩ (by decide) (by decide) rfl rfl rfl rfl (by decide) rfl rfl rfl rfl rfl rfl (Nat.succ_ne_zero _) (Nat.succ_ne_zero _) λh29 H29=> ?_
 refine AP ?_;refine bD ?_;refine dD H29 ⟨rfl,rfl,rfl⟩ (by decide) rfl (a:=1) rfl rfl rfl rfl ?_;refine dD H29 ⟨rfl,rfl,rfl⟩ (by decide) rfl (a:=8) rfl rfl rfl rfl ?_;refine fM ⟨rfl,rfl,rfl⟩ (by decide) rfl rfl abU ⟨_,_,r.1,rfl,(H29.o7 (i:=0) rfl),(.cons (.d _ _) .nil),sr.1,λg=> ?_⟩;refine A8 ⟨rfl,rfl,rfl⟩ (by decide) rfl ?_;refine dF ⟨rfl,rfl,rfl⟩ (by decide) rfl ?_;refine wO rfl rfl rfl (by simp only [dOK];decide) ?_;refine dD H29 ⟨rfl,rfl,rfl⟩ (by decide) rfl (a:=0) rfl rfl rfl rfl ?_;refine wO rfl rfl rfl (by simp only [dOK];decide) ?_;refine dD H29 ⟨rfl,rfl,rfl⟩ (by decide) rfl (a:=7) rfl rfl rfl rfl ?_;refine wO rfl rfl rfl (by simp only [dOK];decide) ?_;refine fM ⟨rfl,rfl,rfl⟩ (by decide) rfl rfl aaf ⟨_,_,r.2,rfl,(H29.o7 (i:=1) rfl),(.cons (.d _ _) .nil),sr.2,λg=> ?_⟩;refine wO rfl rfl rfl (by simp only [dOK];decide) ?_;refine A8 ⟨rfl,rfl,rfl⟩ (by decide) rfl ?_;refine zB ⟨rfl,rfl,rfl⟩ (by decide) rfl rfl ?_;simp only [aP];refine dU (ig (jD rfl) (λhb=>absurd hb (by decide)) (λ_=>kQ ?_));refine bD ?_;refine rU ⟨rfl,rfl,rfl⟩ (by decide) rfl ?_;simp only [aP];refine bD ?_;refine dD H29 ⟨rfl,rfl,rfl⟩ (by decide) rfl (a:=3) rfl rfl rfl rfl ?_;refine dF ⟨rfl,rfl,rfl⟩ (by decide) rfl ?_;refine fM ⟨rfl,rfl,rfl⟩ (by decide) rfl rfl aiG ⟨_,r.1,_,_,rfl,(H29.o7 (i:=8) rfl),trivial,by decide,ah,λg=> ?_⟩;refine oq ⟨rfl,rfl,rfl⟩ (by decide) rfl ?_;simp only [aP];refine bD ?_;refine dF ⟨rfl,rfl,rfl⟩ (by decide) rfl ?_;refine vI ⟨rfl,rfl,rfl⟩ (by decide) rfl ?_;simp only [aP];refine dU (ig (jD rfl) (λhb=>absurd (of_decide_eq_true hb) ah) (λ_=>kQ ?_));refine bD ?_;refine dD H29 ⟨rfl,rfl,rfl⟩ (by decide) rfl (a:=2) rfl rfl rfl rfl ?_;refine dF ⟨rfl,rfl,rfl⟩ (by decide) rfl ?_;refine fM ⟨rfl,rfl,rfl⟩ (by decide) rfl rfl aiH ⟨_,r.2,_,_,rfl,(H29.o7 (i:=9) rfl),trivial,ah,ah,λg=> ?_⟩;refine oq ⟨rfl,rfl,rfl⟩ (by decide) rfl ?_;simp only [aP];refine bD ?_;refine dF ⟨rfl,rfl,rfl⟩ (by decide) rfl ?_;refine vI ⟨rfl,rfl,rfl⟩ (by decide) rfl ?_;simp only [aP];refine dU (ig (jD rfl) (λhb=>absurd (of_decide_eq_true hb) ah) (λ_=>kQ ?_));refine bD ?_;refine dF ⟨rfl,rfl,rfl⟩ (by decide) rfl ?_;refine dF ⟨rfl,rfl,rfl⟩ (by decide) rfl ?_;refine ace ⟨rfl,rfl,rfl⟩ (by decide) rfl rfl ?_;simp only [aP];refine dU (ig (jD rfl) (λhb=>absurd hb (by simp)) (λ_=>kQ ?_));exact JA (n:=0) (by rfl) (by decide) rfl rfl (by exact λ_ h=>h) hK
set_option maxRecDepth 100000
def gl(l:List (FuncId×Trans)):gV:=λg=>match l.find? (λp=>p.1==g)with | some p=>some p.2 | none=>none
def adw{l:List (FuncId×Trans)}(h:∀p∈l,bg E p.1 p.2):l8 E (gl l):=λf R hf=>by
 unfold gl at hf;split at hf
 .rename_i p hp;cases hf;have:=h p (List.mem_of_find?_eq_some hp);have e:p.1=f:=by simpa using List.find?_some hp
  rw [e]at this;exact this
 .cases hf
def om{f:FuncId}{fn:Func}{R:Trans}{l:List (FuncId×Trans)}(hl:∀p∈l,bg E p.1 p.2)(k:bI)(tbl:Nat->List eY)(hf:E.P.funcs[f]? =some fn)(hbody:∀args h n K,R args h n K->gy E (gl l) (@drA k E (gl l) tbl) fn (fn.body.getD .skip) args h n K)
  (hb:fn.body=some (fn.body.getD .skip):=by rfl) (hn:(fn.name== "runtime.NumGoroutine")=false:=by kernel_rfl):bg E f R:=
 VQ hE (adw hl) (@UW k E hE (gl l) (adw hl) hm tbl) hf hb (enters_of hf hn hb) hbody
def l0:∀p∈([]:List (FuncId×Trans)),bg E p.1 p.2:=λp hp=>by cases hp
def lc{f:FuncId}{R:Trans}{l:List (FuncId×Trans)}(h:bg E f R)(hl:∀p∈l,bg E p.1 p.2):∀p∈(f,R)::l,bg E p.1 p.2:=λp hp=>by
 rcases List.mem_cons.1 hp with rfl | hp
 .exact h
 .exact hl p hp
abbrev k0:bI:=⟨[],[]⟩
def nt:Nat->List eY:=λ_=> []
def Um:bg E 134 (Cz 1 (NB .i64)):=om l0 k0 nt Tryz.func134 λ_ _ _ _ hR=>Z7 hR
def Kn:bg E 91 (wM 2 OB):=om (lc Um l0) k0 nt Tryz.func91 λ_ _ _ _ hR=>MX rfl hR
def Gh:bg E 34 (Cz 2 (ToB false 2 OB)):=om (lc Kn l0) k0 nt Tryz.func34 λ_ _ _ _ hR=>Kj rfl hR
def zZ:bg E 9 (wM 1 PB):=om (lc Gh l0) k0 nt Tryz.func9 λ_ _ _ _ hR=>MZ rfl hR
def Ko:bg E 90 (wM 4 AB):=om (lc zZ l0) k0 nt Tryz.func90 λ_ _ _ _ hR=>M0 rfl hR
def Gi:bg E 33 (Cz 4 (ToB false 4 AB)):=om (lc Ko l0) k0 nt Tryz.func33 λ_ _ _ _ hR=>Kk rfl hR
def Nb:bg E 8 (wM 1 TB):=om (lc Gi l0) k0 nt Tryz.func8 λ_ _ _ _ hR=>Qy rfl hR
def Nc:bg E 108 Qz:=om l0 k0 nt Tryz.func108 λ_ _ _ _ hR=>QB hR
def uj:bg E 45 Db:=om (lc Nc l0) k0 nt Tryz.func45 λ_ _ _ _ hR=>FH rfl hR
def FN:bg E 14 QA:=om (lc uj l0) k0 nt Tryz.func14 λ_ _ _ _ hR=>Gg rfl hR
def CS:bg E 44 Kl:=om (lc uj l0) k0 nt Tryz.func44 λ_ _ _ _ hR=>FI rfl hR
def Gj:bg E 13 Z8:=om (lc CS l0) k0 nt Tryz.func13 λ_ _ _ _ hR=>Km rfl hR
def Kq:bg E 105 vQ:=om l0 k0 nt Tryz.func105 λ_ _ _ _ hR=>M7 hR
def Aa:bg E 41 qL:=om (lc Kq l0) ⟨[20],[]⟩ (λ_=> [(0,([3],[])),(1,([13],[])),(2,([5],[])),(3,([15],[])),(4,([5],[])),(5,([17],[])),(6,([18],[1,3])),(7,([16,19],[])),(8,([20],[1])),(9,([14,21],[])),(10,([3],[])),(11,([22,23],[]))]) Tryz.func41 λ_ _ _ _ hR=>M8 rfl rfl hR
def Ng:bg E 40 yx:=om (lc Aa l0) ⟨[25],[]⟩ (λ_=> [(0,([3],[])),(1,([13],[])),(2,([5],[])),(3,([15],[])),(4,([5],[])),(5,([17],[])),(6,([5],[])),(7,([19],[])),(9,([5],[])),(10,([22],[])),(8,([20],[1,3,5,10])),(11,([23],[1,3,5])),(12,([16,18,21,24],[])),(13,([25],[1])),(14,([14,26],[])),(15,([3],[])),(16,([27,28],[]))]) Tryz.func40 λ_ _ _ _ hR=>QC rfl rfl hR
def abV(ct:Ct aV ⟨[.sv true .tab,.c (.int .i64),.sv true .poly,.sv true .poly],[],[.sv true .tab,.sv true .poly,.c .bool],[]⟩)(t:List Atom)(op:Int)(x y:List aA):
 ∃cr,jS (std 0) [] _ ct [.sv true .tab t,.c (.d true (.int .i64 op)),.sv true .poly x,.sv true .poly y]=some cr/\cr.ck=[ct.pre (t,op,x,y,())]/\
  cr.k cr.y=some (.tup [.sv true .tab (ct.fn (t,op,x,y,())).1,.sv true .poly (ct.fn (t,op,x,y,())).2.1,.c (.d true (.bool (ct.fn (t,op,x,y,())).2.2.1))],[]):=⟨_,rfl,rfl,rfl⟩
def aiS:bg E 39 aiD:=jU (VW ZY.ok) λargs h n K=>by
 rintro⟨t,op,f,x,y,rfl,ht,hx,hy,hK⟩;obtain⟨p,q1,q2,_⟩:=BA t op x y ht hx hy;obtain⟨cr,e1,e2,e3⟩:=abV ZY.c t op x y;rw [q1,q2]at e3;refine⟨λa ha=> ?_,xW [.sv true .tab t,.c (.d true (.int .i64 op)),.sv true .poly x,.sv true .poly y] (.cons (vH (co:= .tab) (x:=t)) (.cons (.one (.c (.d rfl λ_=> .inr rfl))) (.cons (vH (co:= .poly) (x:=x)) (.cons (vH (co:= .poly) (x:=y)) .nil)))) e1 (λb hb=> ?_) e3 λrr h'' j hrr _ _=> ?_⟩
 .simp only [List.mem_cons,List.not_mem_nil,or_false]at ha;rcases ha with rfl | rfl | rfl | rfl<;>first | trivial | (intro c hc;rw [List.mem_singleton.1 hc];trivial)
 .rw [e2]at hb;rw [List.mem_singleton.1 hb];exact p
 .cases hrr with
  | one a=>cases a with | agg a=>cases a
  | tup a=>
  cases a with | cons a1 a=>
  cases a with | cons a2 a=>
  cases a with | cons a3 a=>
  cases a;cases a1 with | agg _ a1=>
  cases a2 with | agg _ a2=>
  cases a1 with | cons a1 c1=>
  cases a2 with | cons a2 c2=>
  cases c1;cases c2;cases a1 with | d d1 f1=>
  cases a2 with | d d2 f2=>
  cases a3 with
  | c a3=>
   cases a3 with | d d3 f3=>
   subst d1 d2 d3;have g1:=f1 rfl;have g2:=f2 rfl;rcases g1 with rfl | g1
   .rcases g2 with rfl | g2
    .refine⟨_,.same,λv hv=> ?_,hK _ _⟩;simp only [List.mem_cons,List.not_mem_nil,or_false]at hv;rcases hv with rfl | rfl | rfl<;>first | trivial | (intro c hc;rw [List.mem_singleton.1 hc];trivial)
    .cases g2
   .cases g1
  | agg a=>cases a
def aag:bg E 10 (Rq Dc):=VX (om (lc (acd acZ.ok Kh)<| lc (ag2 Zy.ok Cq)<| lc (acd Cr.ok jh)<| lc (aeb SB.ok λx k h=>oG x k h)<| lc aiS<| lc Ng<| lc Aa l0) k0 (LH (@VO k0 Tryz.f10)) Tryz.func10
 λ_ _ _ _ hR=>abT rfl rfl rfl rfl rfl rfl rfl (by kernel_rfl) hR)
def vR:bg E 3 (Zb SG):=
 om (lc (Wm (G:=adu) acQ.ok λx k h=>CF x k h.1 h.2.1 h.2.2)<| lc (Wm (G:=aae) Zd.ok λx k h=>rZ x k h.1 h.2.1 h.2.2)<| lc (VZ Zx.ok)<| lc Nb<| lc zZ<| lc aag<|
  lc (aac adl.ok CO)<| lc (aac Z0.ok su)<| lc Gj<| lc FN<|
  lc (ads (co:= .tab) (mk:=mkA) (c:=ctA) (B:=Any) (λk a=>Ou k k a) Jp adp.ok λx k _ h0 h1=>by rw [<-Jp k x];exact zY (mkA k x) k h0 (by rw [Jp];exact h1) (Ou k k x).symm)<|
  lc (ads (co:= .poly) (mk:=mkM) (c:=ctM) (B:=Any) (λk a=>Jq k k a) AU adq.ok λx k _ h0 h1=>by rw [<-AU k x];exact yu (mkM k x) k h0 (by rw [AU];exact h1) (Jq k k x).symm) l0) k0 (LH (@VO k0 Tryz.f3)) Tryz.func3
  λ_ _ _ _ hR=>FK Ke rfl rfl rfl rfl rfl rfl rfl rfl rfl rfl rfl rfl (by kernel_rfl) (by kernel_rfl) (by kernel_rfl) (by kernel_rfl) (by kernel_rfl) hR
end Go.TX.Seat
