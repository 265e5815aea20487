/- Part 5 of a proof: what the last part needs. No condition. -/
import Derived.Test.YthiiicchooeapaaGreatZd
import Derived.ChangeSlices
import Derived.ChangeSame
import Derived.JoinedOf
import Derived.JoinedAt
import Derived.Handed
import Derived.Below
import Derived.Carry
import Derived.OpenShut
import Derived.ChangeKeysEq
import Derived.Deep.Slices
import Derived.Deep.Strs
import Derived.Test.YthiiicchooeapaaGreatY
set_option maxHeartbeats 1000000
set_option linter.all false
set_option linter.unusedSectionVars false
set_option linter.unusedVariables false
set_option linter.unusedSimpArgs false
namespace Go.TX.F
open Go Go.AE Go.TX
def Wo(n:Int):Prop:=0<=n/\n<=65535
def Wos(l:List Int):Prop:=∀n∈l,Wo n
structure MOK(m:jk):Prop where
 r4:m.regs.length=4
 rw:Wos m.regs
 m64:m.mem.length=64
 mw:Wos m.mem
 pc:Wo m.pc
 sv:Wo m.save
 iw:Wos m.ins
 ow:Wos m.outs
 ha:0<=m.halt/\m.halt<=4
 ct:0<=m.count/\m.count<=1000000
def al9(r a b:Int):Bool:=inB a 0 65535&&inB b 0 65535&&decide (r=1/\a=b\/r=2/\a<b)
structure MS where
 m:jk
 vals:List Int
 left:Bool
def vx(s:MS)(o:IOp):Int:=if hX o then((s.vals).getD (o.x).toNat default)else 0
def vy(s:MS)(o:IOp):Int:=if hY o then((s.vals).getD (o.y).toNat default)else 0
def mV(s:MS)(o:IOp):Int:=if o.kind=1 then o.k else if o.kind=2 then((s.m.regs).getD (o.k).toNat default)else if o.kind=3 then wdo o.k (vx s o) (vy s o)else if o.kind=4 then((s.m.mem).getD (vx s o).toNat default)else if o.kind=6 then s.m.ins.getD 0 default else 0
def mM(s:MS)(o:IOp):jk:=if o.kind=5 then {s.m with mem:=s.m.mem.set (vx s o).toNat (vy s o)}else if o.kind=6 then {s.m with ins:=s.m.ins.drop 1}else if o.kind=7 then {s.m with outs:=s.m.outs++ [vx s o]}else if o.kind=8 then {s.m with regs:=s.m.regs.set o.k.toNat (vx s o)}else s.m
def leave(m:jk)(n:Int)(h:Int):jk:={m with halt:=h,pc:=m.pc+n,count:=m.count+n}
def aav(b:Blk)(s:MS)(o:IOp):MS:=
 if s.left=true then s
 else if(o.kind=4\/o.kind=5)/\64<=vx s o then⟨leave s.m o.at_ 3,s.vals,true⟩
 else if o.kind=5/\b.pc+o.at_+1<=vx s o/\vx s o<=b.pc+b.len-1 then⟨leave (mM s o) (o.at_+1) (mM s o).halt,s.vals,true⟩
 else⟨mM s o,s.vals++ [mV s o],false⟩
def ama:jk:=⟨[],0,[],0,false,false,0,[],[],0⟩
def Gf(i:Ins):Prop:=(0<=i.op/\i.op<=15)/\(0<=i.d/\i.d<=3)/\(0<=i.a/\i.a<=3)/\0<=i.k/\
 (i.op=0->i.d=0/\i.a=0/\i.k<=3)/\(i.op=1->i.a=0/\i.k<=255)/\(i.op=2->i.k=0)/\(3<=i.op/\i.op<=7->i.k<=3)/\(i.op=8->i.k<=15)/\(9<=i.op/\i.op<=12->i.k<=255)/\(i.op=13->i.d=0/\i.k=0)/\(14<=i.op->i.a=0/\i.k=0)
def Hu(w:Int):Ins:=⟨w/4096,w/1024%4,w/256%4,w%256⟩
structure aea(pc:Int)(l:List Ins):Prop where
 ln:1<=l.length/\l.length<=8
 pc:0<=pc/\pc<=64-l.length
 ok:∀i:Nat,i<l.length->Gf (l.getD i default)/\(l.getD i default).op≠0/\(11<=(l.getD i default).op/\(l.getD i default).op<=13->i+1=l.length)
def ahk(n b:Int)(i:Ins):List IOp:=
 if i.op=1 then [⟨1,0,0,i.k,0⟩,⟨8,b,0,i.d,0⟩]
 else if i.op=2 then [⟨2,0,0,i.a,0⟩,⟨8,b,0,i.d,0⟩]
 else if i.op=8 then [⟨2,0,0,i.a,0⟩,⟨1,0,0,2^i.k.toNat,0⟩,⟨3,b,b+1,3,0⟩,⟨8,b+2,0,i.d,0⟩]
 else if i.op=9 then [⟨2,0,0,i.a,0⟩,⟨1,0,0,i.k,0⟩,⟨3,b,b+1,1,0⟩,⟨4,b+2,0,0,n⟩,⟨8,b+3,0,i.d,0⟩]
 else if i.op=10 then [⟨2,0,0,i.a,0⟩,⟨1,0,0,i.k,0⟩,⟨3,b,b+1,1,0⟩,⟨2,0,0,i.d,0⟩,⟨5,b+2,b+3,0,n⟩]
 else if i.op=14 then [⟨2,0,0,i.d,0⟩,⟨7,b,0,0,n⟩]
 else if i.op=15 then [⟨6,0,0,0,n⟩,⟨8,b,0,i.d,0⟩]
 else if i.op=11\/i.op=12 then [⟨2,0,0,i.d,0⟩,⟨2,0,0,i.a,0⟩]
 else if i.op=13 then [⟨2,0,0,i.a,0⟩]
 else [⟨2,0,0,i.a,0⟩,⟨2,0,0,i.k,0⟩,⟨3,b,b+1,i.op-2,0⟩,⟨8,b+2,0,i.d,0⟩]
def amb(n:Int)(b:Blk)(i:Ins):Blk:=
 if i.op=11\/i.op=12 then {b with ops:=b.ops++ahk n b.ops.length i,fin:=i.op-8,x:=b.ops.length,y:=b.ops.length+1,k:=i.k}
 else if i.op=13 then {b with ops:=b.ops++ahk n b.ops.length i,fin:=2,x:=b.ops.length,k:=0}
 else {b with ops:=b.ops++ahk n b.ops.length i}
def aj9:Int->Blk->List Ins->Blk
 | _,b,[]=>b
 | n,b,i::r=>aj9 (n+1) (amb n b i) r
def amc(pc:Int)(l:List Ins):Blk:=⟨pc,l.length,[],1,0,0,pc+l.length⟩
noncomputable def lower (pc:Int) (l:List Ins):Blk:=if bp (aea pc l)=true then aj9 0 (amc pc l) l else al0
def adr(m:jk)(i:Ins):Int:=(((m.regs).getD (i.a).toNat default)+i.k)%65536
def eff(m:jk)(i:Ins):jk:=
 if i.op=1 then {m with regs:=m.regs.set i.d.toNat i.k}
 else if i.op=2 then {m with regs:=m.regs.set i.d.toNat ((m.regs).getD (i.a).toNat default)}
 else if i.op=8 then {m with regs:=m.regs.set i.d.toNat (((m.regs).getD (i.a).toNat default)*2^i.k.toNat%65536)}
 else if i.op=9 then {m with regs:=m.regs.set i.d.toNat ((m.mem).getD (adr m i).toNat default)}
 else if i.op=10 then {m with mem:=m.mem.set (adr m i).toNat ((m.regs).getD (i.d).toNat default)}
 else if i.op=14 then {m with outs:=m.outs++ [((m.regs).getD (i.d).toNat default)]}
 else if i.op=15 then {m with regs:=m.regs.set i.d.toNat (m.ins.getD 0 default),ins:=m.ins.drop 1}
 else if i.op=0 then(if i.k=0 then {m with halt:=1}else if i.k=1 then {m with G9:=true}else {m with G9:=decide (i.k=2)})
 else if 11<=i.op then m
 else {m with regs:=m.regs.set i.d.toNat (wdo (i.op-2) ((m.regs).getD (i.a).toNat default) ((m.regs).getD (i.k).toNat default))}
def nxt(m:jk)(i:Ins):Int:=
 if i.op=0/\i.k=1 then m.save
 else if(i.op=11\/i.op=12)/\al9 (i.op-10) ((m.regs).getD (i.d).toNat default) ((m.regs).getD (i.a).toNat default)=true then i.k
 else if i.op=13 then((m.regs).getD (i.a).toNat default)
 else(m.pc+1)%65536
def exec(m:jk)(i:Ins):jk:=if(i.op=9\/i.op=10)/\64<=adr m i then {m with halt:=3}else {eff m i with pc:=nxt m i,count:=m.count+1}
noncomputable def stepM (m:jk) (irq:Bool):jk:=
 let w:=m.waits || irq
 let m1:jk:=if w=true/\m.G9=true then {m with waits:=false,G9:=false,save:=m.pc,pc:=48}else {m with waits:=w}
 if 64<=m1.pc then {m1 with halt:=4}
 else if bp (Gf (Hu ((m1.mem).getD (m1.pc).toNat default)))=false then {m1 with halt:=2}
 else exec m1 (Hu ((m1.mem).getD (m1.pc).toNat default))
section
variable (B:Blk) (m:jk) (v:List Int)
theorem st2(k:Int):aav B ⟨m,v,false⟩ ⟨2,0,0,k,0⟩=⟨m,v++ [((m.regs).getD (k).toNat default)],false⟩:=by simp [aav,mM,mV]
end
end Go.TX.F
namespace Go.TX.F
open Go Go.AE Go.TX
def SM(b:Blk)(m0:jk)(i:Nat):MS:=(b.ops.take i).foldl (aav b) ⟨m0,[],false⟩
structure RJ(b:Blk)(m0:jk)(i:Nat)(S:MS):Prop where
 e:S=SM b m0 i
 lf:S.left=false
 ln:S.vals.length=i
 wv:Wos S.vals
 ok:MOK S.m
 li:S.m.ins.length<1000000000
 lo:S.m.outs.length<=m0.outs.length+i
def RT(b:Blk)(m0:jk)(y:List IOp×Int×Int×Int×Int×Bool×Bool×Int×List Int×Int×List Int×List Int×Blk×List Int×List Int×Unit):Prop:=
 ∃(i:Nat) (S:MS),i<=b.ops.length/\RJ b m0 i S/\y=(b.ops,(b.ops.length:Int),(i:Int),S.m.pc,S.m.save,S.m.G9,S.m.waits,S.m.halt,S.m.ins,S.m.count,S.m.regs,S.m.mem,b,S.vals++List.replicate (b.ops.length-i) 0,S.m.outs,())
section
variable {ops:List IOp} {len i x y k n:Int}
end
end Go.TX.F
namespace Go.TX.F
open Go Go.AE Go.TX
abbrev upd(m:jk)(u v:Int):jk:={m with count:=u,pc:=v}
def fm(i:Ins):Bool:=if i.op=0 then decide (i.d=0)&&decide (i.a=0)&&decide (i.k<=3)else if i.op=1 then decide (i.a=0)else if i.op=2 then decide (i.k=0)else if 3<=i.op/\i.op<=7 then decide (i.k<4)else if i.op=8 then decide (i.k<16)else if i.op=13 then decide (i.d=0)&&decide (i.k=0)else if i.op=14\/i.op=15 then decide (i.a=0)&&decide (i.k=0)else true
noncomputable def akb (q:List Int):Nat->jk->jk
 | 0,m=>m
 | k+1,m=>if m.halt=0/\m.count<1000000 then akb q k (stepM m (bp (m.count∈q)))else m
noncomputable def J6 (q:List Int) (n:Int) (m:jk):jk:=if bp (MOK m/\n<=400)=true then akb q n.toNat m else ama
structure PS where
 m:jk
 L:List Int
 I:List Int
 left:Bool
section
variable (T:List Atom) (r0:List Int) (pc len:Int)
def pv(s:PS):List Int:=tv r0 s.L s.I T
end
end Go.TX.F
namespace Go.TX.F
open Go Go.AE Go.TX
def There(w mem:List Int)(pc:Int):Prop:=∀k:Int,0<=k->k<w.length->pc+k<mem.length/\((mem).getD (pc+k).toNat default)=((w).getD (k).toNat default)
noncomputable def N9 (mem:List Int) (x:Cac):Bool:=bp (0<=x.blk.pc/\There x.words mem x.blk.pc)
noncomputable def ac8:List Int->List Ins
 | []=> []
 | w::r=>if bp (Wo w/\Gf (Hu w))=true then Hu w::ac8 r else []
def aaw(x:Cac):Prop:=(ac8 x.words).length=x.words.length/\aea x.blk.pc (ac8 x.words)/\chk (lower x.blk.pc (ac8 x.words)) x.blk=true
def ahm(l:List Cac)(mem:List Int):Prop:=l.length<=4/\(∀j:Int,0<=j->j<l.length->aaw ((l).getD (j).toNat default)/\There (((l).getD (j).toNat default)).words mem (((l).getD (j).toNat default)).blk.pc)/\∀i j:Int,0<=i->i<j->j<l.length->(((l).getD (i).toNat default)).blk.pc≠(((l).getD (j).toNat default)).blk.pc
def akc(e:Eng):Prop:=MOK e.lK/\ahm e.cache e.lK.mem/\aat e.M0
abbrev e12(e:Eng):List Int×Int×Int×Bool×Bool×Int×List Int×List Int×Int×List Cer×List Int×List Cac×Unit:=(e.lK.regs,e.lK.pc,e.lK.save,e.lK.G9,e.lK.waits,e.lK.halt,e.lK.ins,e.lK.outs,e.lK.count,e.M0,e.lK.mem,e.cache,())
def lvS(m:jk)(b:Blk)(n h:Int):jk:={m with pc:=b.pc+n,count:=m.count+n,halt:=h}
def evR(m:jk)(b:Blk)(o:IOp)(x y:Int):jk×Int×Bool:=
 if o.kind=7 then({m with outs:=m.outs++ [x]},0,false)
 else if o.kind=6 then({m with ins:=m.ins.drop 1},m.ins.getD 0 0,false)
 else if 64<=x then(lvS m b o.at_ 3,0,true)
 else if o.kind=4 then(m,((m.mem).getD (x).toNat default),false)
 else if b.pc+o.at_<x/\x<b.pc+b.len then(lvS {m with mem:=m.mem.set x.toNat y} b (o.at_+1) 0,0,true)
 else({m with mem:=m.mem.set x.toNat y},0,false)
noncomputable def jJ (mem:List Int):Nat->Int->List Ins
 | 0,_=> []
 | n+1,p=>if bp (p<64/\(Wo ((mem).getD (p).toNat default)/\Gf (Hu ((mem).getD (p).toNat default)))/\(Hu ((mem).getD (p).toNat default)).op≠0)=true then(if bp (11<=(Hu ((mem).getD (p).toNat default)).op/\(Hu ((mem).getD (p).toNat default)).op<=13)=true then [Hu ((mem).getD (p).toNat default)]else Hu ((mem).getD (p).toNat default)::jJ mem n (p+1))else []
def zY(mem:List Int):∀(n:Nat) (p:Int),(jJ mem n p).length<=n/\(0< (jJ mem n p).length->p+(jJ mem n p).length<=64)/\
  ∀i:Nat,i< (jJ mem n p).length->Gf ((jJ mem n p).getD i default)/\((jJ mem n p).getD i default).op≠0/\(11<=((jJ mem n p).getD i default).op/\((jJ mem n p).getD i default).op<=13->i+1=(jJ mem n p).length)
 | 0,_=>⟨Nat.le_refl _,λh=>absurd h (by simp [jJ]),λi hi=>absurd hi (by simp [jJ])⟩
 | n+1,p=>by
  obtain⟨r1,r2,r3⟩:=zY mem n (p+1);unfold jJ;split
  .rename_i g;obtain⟨g1,⟨g2,g3⟩,g4⟩:=bD.1 g;split
   all_goals grind
  simp_all
abbrev yS(b:Blk)(i:Int)(S:MS):Int×Blk×Int×Int×Bool×Bool×Int×Int×Int×Int×Bool×Bool×Int×List Int×Int×List Int×List Int×List Int×List Int×Unit:=(i,b,0,0,false,false,0,0,S.m.pc,S.m.save,S.m.G9,S.m.waits,S.m.halt,S.m.ins,S.m.count,S.vals,S.m.regs,S.m.mem,S.m.outs,())
abbrev e13(y:Eng×Bool):List Int×Int×Int×Bool×Bool×Int×List Int×List Int×Int×Bool×List Cer×List Int×List Cac×Unit:=(y.1.lK.regs,y.1.lK.pc,y.1.lK.save,y.1.lK.G9,y.1.lK.waits,y.1.lK.halt,y.1.lK.ins,y.1.lK.outs,y.1.lK.count,y.2,y.1.M0,y.1.lK.mem,y.1.cache,())
structure KpE(l:List Cac)(cs:List Cer):Prop where
 n:l.length<=4
 r:∀x∈l,aaw x
 u:l.Pairwise λa b=>a.blk.pc≠b.blk.pc
 p:aat cs
def akd{l:List Cac}{cs:List Cer}(h:KpE l cs){m:jk}(hm:MOK m):akc ⟨m,l.filter (N9 m.mem),cs⟩:=by
 refine⟨hm,⟨Nat.le_trans (List.length_filter_le _ _) h.n,λj j0 j1=> ?_,λi j i0 ij j1=> ?_⟩,h.p⟩
 .rw [getD_lt (show j.toNat< (l.filter (N9 m.mem)).length by dsimp only at j1;omega)];have k:=List.mem_filter.1 (List.getElem_mem (show j.toNat< (l.filter (N9 m.mem)).length by dsimp only at j1;omega));exact⟨h.r _ k.1,(bD.1 (show bp _=true from k.2)).2⟩
 .dsimp only at j1 ⊢;rw [getD_lt (show i.toNat< (l.filter (N9 m.mem)).length by omega),getD_lt (show j.toNat< (l.filter (N9 m.mem)).length by omega)];exact List.pairwise_iff_getElem.1 (h.u.filter _) _ _ _ _ ah
def ake(l:List Int)(m:Int)(h:l.length<9223372036854775808)(h0:0<=m)(h1:m<=1048576):YF.F () (l,m,()) (λy=>y=(szL l.length m,())):=by
 dsimp only [YF,gm];simp (disch:=omega) only [RR];unfold szL;refine⟨λg=>by rw [if_pos g],λg=>by rw [if_neg ah]⟩
def akf(a b:List Int)(hlen:a.length<1000000000):Zx.F () (a,b,()) (λy=>y=(bp (a=b),())):=by
 dsimp only [Zx,gm];simp (disch:=omega) only [RR];refine⟨λh=> ?_,λh=> ?_⟩
 .rw [bU (λe=>h (by rw [e]))]
 have hl:a.length=b.length:=by omega
 refine aG (λ(y:List Int×List Int×Int×Unit)=>y.1=a/\y.2.1=b/\0<=y.2.2.1/\y.2.2.1<=a.length/\All y.2.2.1 (λi=>a.getD i.toNat default=b.getD i.toNat default)) (λy=>(a.length-y.2.2.1).toNat) ⟨rfl,rfl,by simp,by simp,All.zero⟩ ?_;rintro⟨(l1:List Int),(l2:List Int),(i:Int),⟨⟩⟩ hI;dsimp only at hI ⊢;obtain⟨rfl,rfl,h1,h2,h3⟩:=hI;simp (disch:=omega) only [RR,bD,iP];refine⟨λh4=>⟨ah,ah,ah,ah,λh5=> ?_,λh5=>⟨⟨ah,ah,h3.snoc h5⟩,ah⟩⟩,λh4=> ?_⟩
 .rw [bU];intro e;rw [e]at h5;exact h5 rfl
 .rw [eO (wX hl (h3.le ah))]
abbrev ame(pp:List Int×Int×Unit->Bool)(ff:List Int×Int×Unit->Int×Unit):Prop:=∀l m,l.length<9223372036854775808->0<=m->m<=1048576->pp (l,m,())=true/\ff (l,m,())=(szL l.length m,())
def WZ{m:jk}{C:List Cer}(h:MOK m)(hC:aat C):akc ⟨m,[],C⟩:=akd (l:=[]) ⟨by decide,λx hx=>(by cases hx),List.Pairwise.nil,hC⟩ h
def sm{α:Type}(c:α->Int):List α->Int
 | []=>0
 | x::l=>c x+sm c l
def aax{α:Type}{c:α->Int}(l:List α){i:Nat}(h:l.length<=i):sm c (l.drop i)=0:=by rw [List.drop_eq_nil_of_le h];rfl
def Uv{α:Type}[Inhabited α]{c:α->Int}(l:List α){i:Nat}(h:i<l.length):sm c (l.drop i)=c (l.getD i default)+sm c (l.drop (i+1)):=by
 rw [List.drop_eq_getElem_cons h,getD_lt h];rfl
def Dh{α:Type}{c:α->Int}(h:∀x,0<=c x):∀l:List α,0<=sm c l
 | []=>Int.le_refl 0
 | x::l=>by have:=h x;have:=Dh h l;unfold sm;omega
def aay{α:Type}{c:α->Int}(h:∀x,0<=c x):∀(l:List α),∀x∈l,c x<=sm c l
 | y::l,x,hx=>by
  have h1:=h y;have h2:=Dh h l;unfold sm;rcases List.mem_cons.1 hx with rfl | hx
  .omega
  .have:=aay h l x hx;omega
def cO(m:ak):Int:=m.atoms.length
def cM(p:List ak):Int:=p.length+sm cO p
def cT(a:Atom):Int:=cM a.x+cM a.y
def cA(t:List Atom):Int:=t.length+sm cT t
def Oa(m:ak):0<=cO m:=Int.natCast_nonneg _
def Aq(p:List ak):0<=cM p:=by have:=Dh Oa p;unfold cM;omega
def Ob(a:Atom):0<=cT a:=by have:=Aq a.x;have:=Aq a.y;unfold cT;omega
def aaz(t:List Atom):0<=cA t:=by have:=Dh Ob t;unfold cA;omega
def szZ{a:Int}{m:Int}(ha:0<=a)(hm:0<=m)(h:m<=1048576):(szL a m<0->szL a m= -1/\m<a)/\(0<=szL a m->szL a m=m-a/\szL a m<=1048576):=by
 unfold szL;split<;>exact⟨λ_=>by omega,λ_=>by omega⟩
def szA{a b m:Int}(h:0<=szL a m):szL (a+b) m=szL b (szL a m):=by
 have e:¬m-a<0:=λg=>by unfold szL at h;rw [if_pos g]at h;omega
 have e2:szL a m=m-a:=by unfold szL;rw [if_neg e]
 rw [e2];unfold szL;rw [show m- (a+b)=m-a-b by omega]
def szB{a b m:Int}(h:szL a m<0)(hb:0<=b)(hm:0<=m):szL (a+b) m= -1:=by
 unfold szL at h ⊢;split at h
 .rw [if_pos ah]
 .omega
def sz0{m:Int}(h:0<=m):szL 0 m=m:=by unfold szL;rw [if_neg ah];omega
abbrev UM(p:List ak):Prop:=p.length<9223372036854775808/\∀m∈p,m.atoms.length<9223372036854775808
abbrev UA(a:Atom):Prop:=UM a.x/\UM a.y
abbrev UT(t:List Atom):Prop:=t.length<9223372036854775808/\∀a∈t,UA a
def akg{p1 f1}(U1:ame p1 f1)(a:ak)(m:Int)(h:a.atoms.length<9223372036854775808)(h0:0<=m)(h1:m<=1048576):YG.F (p1,f1,()) (a,m,()) (λy=>y=(szL (cO a) m,())):=by
 dsimp only [YG,gm];simp (disch:=omega) only [RR,U1 _ m h h0 h1];unfold cO;exact⟨λg=>by rw [(aau h1).1 g],λ_=>rfl⟩
def akh{p1:ak×Int×Unit->Bool}{f1:ak×Int×Unit->Int×Unit}(U1:∀a m,a.atoms.length<9223372036854775808->0<=m->m<=1048576->p1 (a,m,())=true/\f1 (a,m,())=(szL (cO a) m,()))(l:List ak)(m:Int)(h:UM l)(h0:0<=m)(h1:m<=1048576):YH.F (p1,f1,()) (l,m,()) (λy=>y=(szL (cM l) m,())):=by
 obtain⟨hl,hq⟩:=h;dsimp only [YH,gm];simp (disch:=omega) only [RR];have nn:=Dh Oa;refine⟨λg=> ?_,λg=> ?_⟩
 .unfold szL cM;rw [if_pos (by have:=nn l;omega)]
 have e0:szL (cM l) m=szL (sm cO l) (m-l.length):=by unfold cM;rw [szA (by unfold szL;rw [if_neg ah];omega)];congr 1;unfold szL;rw [if_neg ah]
 rw [e0];refine aG (λ(y:List ak×Int×Int×Unit)=>y.1=l/\0<=y.2.1/\y.2.1<=1048576/\0<=y.2.2.1/\y.2.2.1<=l.length/\szL (sm cO l) (m-l.length)=szL (sm cO (l.drop y.2.2.1.toNat)) y.2.1) (λy=>(l.length-y.2.2.1).toNat) ⟨rfl,by dsimp only;omega,by dsimp only;omega,by simp,by simp,rfl⟩ ?_;rintro⟨(l:List ak),(k:Int),(i:Int),⟨⟩⟩ hI;dsimp only at hI ⊢;obtain⟨rfl,k1,k2,i1,i2,e⟩:=hI;rw [e];by_cases c:i<l.length
 .have A:(((l).getD (i).toNat default)).atoms.length<9223372036854775808:=hq _ (dN i1 c);have s:=szZ (Oa (((l).getD (i).toNat default))) k1 k2;rw [Uv l ah];simp (disch:=omega) only [RR,c,U1 _ k A k1 k2];refine⟨i1,λg=>by rw [szB g (nn _) k1],λg=>⟨⟨ah,by have:=s.2 ah;omega,ah,ah,?_⟩,ah⟩⟩;rw [szA ah,show(i+1).toNat=i.toNat+1 by omega]
 .simp (disch:=omega) only [RR,c,aax l (show l.length<=i.toNat by omega),sz0]
abbrev aki(pp:List ak×Int×Unit->Bool)(ff:List ak×Int×Unit->Int×Unit):Prop:=∀l m,UM l->0<=m->m<=1048576->pp (l,m,())=true/\ff (l,m,())=(szL (cM l) m,())
def akj{p1 f1}(U1:aki p1 f1)(l:List ak)(m:Int)(h:UM l)(h0:0<=m)(h1:m<=1048576):YI.F (p1,f1,()) (l,m,()) (λy=>y=(szL (cM l) m,())):=by
 dsimp only [YI,gm];simp (disch:=omega) only [RR,U1 _ m h h0 h1];exact λg=>by rw [((szZ (Aq l) h0 h1).1 g).1]
def akk{p1 f1}(U1:aki p1 f1)(a:Atom)(m:Int)(h:UA a)(h0:0<=m)(h1:m<=1048576):YJ.F (p1,f1,()) (a,m,()) (λy=>y=(szL (cT a) m,())):=by
 have s1:=szZ (Aq a.x) h0 h1;have n2:=Aq a.y;dsimp only [YJ,gm];simp (disch:=omega) only [RR,U1 _ m h.1 h0 h1];unfold cT;refine⟨λg=>by rw [szB g n2 h0],λg=> ?_⟩;obtain⟨u1,u2⟩:=s1.2 ah;have g':0<=szL (cM a.x) m:=by omega
 have s2:=szZ n2 g' u2;simp (disch:=omega) only [RR,U1 _ _ h.2 g' u2];rw [szA g'];exact⟨λg=>by rw [(s2.1 g).1],λ_=>rfl⟩
def akl{p1:Atom×Int×Unit->Bool}{f1:Atom×Int×Unit->Int×Unit}(U1:∀a m,UA a->0<=m->m<=1048576->p1 (a,m,())=true/\f1 (a,m,())=(szL (cT a) m,()))(l:List Atom)(m:Int)(h:UT l)(h0:0<=m)(h1:m<=1048576):YK.F (p1,f1,()) (l,m,()) (λy=>y=(szL (cA l) m,())):=by
 obtain⟨hl,hq⟩:=h;dsimp only [YK,gm];simp (disch:=omega) only [RR];have nn:=Dh Ob;refine⟨λg=> ?_,λg=> ?_⟩
 .unfold szL cA;rw [if_pos (by have:=nn l;omega)]
 have e0:szL (cA l) m=szL (sm cT l) (m-l.length):=by unfold cA;rw [szA (by unfold szL;rw [if_neg ah];omega)];congr 1;unfold szL;rw [if_neg ah]
 rw [e0];refine aG (λ(y:List Atom×Int×Int×Unit)=>y.1=l/\0<=y.2.1/\y.2.1<=1048576/\0<=y.2.2.1/\y.2.2.1<=l.length/\szL (sm cT l) (m-l.length)=szL (sm cT (l.drop y.2.2.1.toNat)) y.2.1) (λy=>(l.length-y.2.2.1).toNat) ⟨rfl,by dsimp only;omega,by dsimp only;omega,by simp,by simp,rfl⟩ ?_;rintro⟨(l:List Atom),(k:Int),(i:Int),⟨⟩⟩ hI;dsimp only at hI ⊢;obtain⟨rfl,k1,k2,i1,i2,e⟩:=hI;rw [e];by_cases c:i<l.length
 .have A:UA (((l).getD (i).toNat default)):=hq _ (dN i1 c);have s:=szZ (Ob (((l).getD (i).toNat default))) k1 k2;rw [Uv l ah];simp (disch:=omega) only [RR,c,U1 _ k A k1 k2];refine⟨i1,λg=>by rw [szB g (nn _) k1],λg=>⟨⟨ah,by have:=s.2 ah;omega,ah,ah,?_⟩,ah⟩⟩;rw [szA ah,show(i+1).toNat=i.toNat+1 by omega]
 .simp (disch:=omega) only [RR,c,aax l (show l.length<=i.toNat by omega),sz0]
def akm{p1:List Atom×Int×Unit->Bool}{f1:List Atom×Int×Unit->Int×Unit}(U1:∀l m,UT l->0<=m->m<=1048576->p1 (l,m,())=true/\f1 (l,m,())=(szL (cA l) m,()))(l:List Atom)(m:Int)(h:UT l)(h0:0<=m)(h1:m<=1048576):YL.F (p1,f1,()) (l,m,()) (λy=>y=(szL (cA l) m,())):=by
 dsimp only [YL,gm];simp (disch:=omega) only [RR,U1 _ m h h0 h1];exact λg=>by rw [((szZ (aaz l) h0 h1).1 g).1]
def akn{p1 f1}(U1:Y32 p1 f1)(a b:ak)(h:a.atoms.length<1000000000):Zy.F (p1,f1,()) (a,b,()) (λy=>y=(bp (a=b),())):=by
 dsimp only [Zy,gm];simp (disch:=omega) only [RR,U1 _ b.atoms h,bD,iP];refine⟨λe=> ?_,λe=>⟨λf=> ?_,λf=> ?_⟩⟩
 .rw [bU (λg=>e (by rw [g]))]
 .rw [bU (λg=>f (by rw [g]))]
 .rw [eO (by cases a;cases b;dsimp only at e f;rw [e,f])]
def ako{p1:ak×ak×Unit->Bool}{f1:ak×ak×Unit->Bool×Unit}(U1:∀a b,a.atoms.length<1000000000->p1 (a,b,())=true/\f1 (a,b,())=(bp (a=b),()))(a b:List ak)(hD:Sh a):Zz.F (p1,f1,()) (a,b,()) (λy=>y=(bp (a=b),())):=by
 have hlen:=hD.1;dsimp only [Zz,gm];simp (disch:=omega) only [RR];refine⟨λh=> ?_,λh=> ?_⟩
 .rw [bU (λe=>h (by rw [e]))]
 have hl:a.length=b.length:=by omega
 refine aG (λ(y:List ak×List ak×Int×Unit)=>y.1=a/\y.2.1=b/\0<=y.2.2.1/\y.2.2.1<=a.length/\All y.2.2.1 (λi=>a.getD i.toNat default=b.getD i.toNat default)) (λy=>(a.length-y.2.2.1).toNat) ⟨rfl,rfl,by simp,by simp,All.zero⟩ ?_;rintro⟨(l1:List ak),(l2:List ak),(i:Int),⟨⟩⟩ hI;dsimp only at hI ⊢;obtain⟨rfl,rfl,h1,h2,h3⟩:=hI;have A:=hD.at i.toNat;simp (disch:=omega) only [RR,U1 _ (((l2).getD (i).toNat default)) A,bD,iP];refine⟨λh4=>⟨ah,ah,ah,ah,λh5=> ?_,λh5=>⟨⟨ah,ah,h3.snoc h5⟩,ah⟩⟩,λh4=> ?_⟩
 .rw [bU];intro e;rw [e]at h5;exact h5 rfl
 .rw [eO (wX hl (h3.le ah))]
def akp{p1 f1}(U1:Y33 p1 f1)(a b:List ak)(hD:Sh a):ZA.F (p1,f1,()) (a,b,()) (λy=>y=(bp (a=b),())):=by
 dsimp only [ZA,gm];simp (disch:=omega) only [RR,U1 a b hD,bD,iP];refine⟨λh=>by rw [bU h],λh=>by rw [eO h]⟩
def akq{p1 f1}(U1:Y33 p1 f1)(a b:Atom)(h:ShA a):ZB.F (p1,f1,()) (a,b,()) (λy=>y=(bp (a=b),())):=by
 dsimp only [ZB,gm];simp (disch:=omega) only [RR,U1 _ b.x h.1,U1 _ b.y h.2,bD,iP];refine⟨λe=> ?_,λe=>⟨λf=> ?_,λf=>⟨λg=> ?_,λg=>⟨λk=> ?_,λk=> ?_⟩⟩⟩⟩
 .rw [bU (λg=>e (by rw [g]))]
 .rw [bU (λg=>f (by rw [g]))]
 .rw [bU (λk=>g (by rw [k]))]
 .rw [bU (λg=>k (by rw [g]))]
 .rw [eO (by cases a;cases b;dsimp only at e f g k;rw [e,f,g,k])]
def akr{p1:Atom×Atom×Unit->Bool}{f1:Atom×Atom×Unit->Bool×Unit}(U1:∀a b,ShA a->p1 (a,b,())=true/\f1 (a,b,())=(bp (a=b),()))(a b:List Atom)(hD:ShT a):ZE.F (p1,f1,()) (a,b,()) (λy=>y=(bp (a=b),())):=by
 have hlen:=hD.1;dsimp only [ZE,gm];simp (disch:=omega) only [RR];refine⟨λh=> ?_,λh=> ?_⟩
 .rw [bU (λe=>h (by rw [e]))]
 have hl:a.length=b.length:=by omega
 refine aG (λ(y:List Atom×List Atom×Int×Unit)=>y.1=a/\y.2.1=b/\0<=y.2.2.1/\y.2.2.1<=a.length/\All y.2.2.1 (λi=>a.getD i.toNat default=b.getD i.toNat default)) (λy=>(a.length-y.2.2.1).toNat) ⟨rfl,rfl,by simp,by simp,All.zero⟩ ?_;rintro⟨(l1:List Atom),(l2:List Atom),(i:Int),⟨⟩⟩ hI;dsimp only at hI ⊢;obtain⟨rfl,rfl,h1,h2,h3⟩:=hI;have A:=hD.at i.toNat;simp (disch:=omega) only [RR,U1 _ (((l2).getD (i).toNat default)) A,bD,iP];refine⟨λh4=>⟨ah,ah,ah,ah,λh5=> ?_,λh5=>⟨⟨ah,ah,h3.snoc h5⟩,ah⟩⟩,λh4=> ?_⟩
 .rw [bU];intro e;rw [e]at h5;exact h5 rfl
 .rw [eO (wX hl (h3.le ah))]
def aks{p1 f1}(U1:Y48 p1 f1)(a b:List Atom)(hD:ShT a):ZF.F (p1,f1,()) (a,b,()) (λy=>y=(bp (a=b),())):=by
 dsimp only [ZF,gm];simp (disch:=omega) only [RR,U1 a b hD,bD,iP];refine⟨λh=>by rw [bU h],λh=>by rw [eO h]⟩
def akt(l:List Int)(k:Int)(h0:0<=k)(h1:k+ctI l<=4000000000000000000)(hm:l=mkI k l):ZG.F () (l,k,()) (λy=>y=(k+ctI l,())):=by
 unfold ctI at h1 ⊢;dsimp only [ZG,gm];simp (disch:=omega) only [RR];refine aG (λ(y:List Int×Int×Int×Unit)=>y.1=l/\y.2.1=k+y.2.2.1/\0<=y.2.2.1/\y.2.2.1<=l.length) (λy=>(l.length-y.2.2.1).toNat) ⟨rfl,by dsimp only;omega,by simp,by simp⟩ ?_;rintro⟨(l:List Int),(q:Int),(i:Int),⟨⟩⟩ hI;dsimp only at hI ⊢;obtain⟨rfl,rfl,i1,i2⟩:=hI;by_cases c:i<l.length
 .have e:=Qe k l i.toNat ah;rw [<-hm]at e;have e':((l).getD (i).toNat default)=k+i:=by rw [e];omega
  simp (disch:=omega) only [RR,c,e'];omega
 .simp (disch:=omega) only [RR,c];rw [show i=l.length by omega]
def aku{p1:List Int×Int×Unit->Bool}{f1:List Int×Int×Unit->Int×Unit}(U1:∀l k,0<=k->k+ctI l<=4000000000000000000->l=mkI k l->p1 (l,k,())=true/\f1 (l,k,())=(k+ctI l,()))(l:List ak)(k:Int)(h0:0<=k)(h1:k+ctM l<=4000000000000000000)(hm:l=mkM k l):ZH.F (p1,f1,()) (l,k,()) (λy=>y=(k+ctM l,())):=by
 dsimp only [ZH,gm];simp (disch:=omega) only [RR];have hl:=TM l;refine aG (λ(y:List ak×Int×Int×Unit)=>y.1=l/\y.2.1=k+nQ l y.2.2.1.toNat/\0<=y.2.2.1/\y.2.2.1<=l.length) (λy=>(l.length-y.2.2.1).toNat) ⟨rfl,by simp [Jj],by simp,by simp⟩ ?_;rintro⟨(l:List ak),(q:Int),(i:Int),⟨⟩⟩ hI;dsimp only at hI ⊢;obtain⟨rfl,rfl,i1,i2⟩:=hI;by_cases c:i<l.length
 .have hi:i.toNat<l.length:=by omega
  have e:=Kw k l i.toNat hi;rw [<-hm,List.getElem?_eq_getElem hi,Option.some.injEq]at e;have g:((l).getD (i).toNat default)=l[i.toNat]:=getD_lt hi;have s:=BL l i.toNat hi;have b:=Kz l (i.toNat+1) ah;have n1:=Ky l i.toNat;have n2:=FE (l[i.toNat]).atoms;rw [<-g]at e s n2;have e1:(((l).getD (i).toNat default)).bL=k+nQ l i.toNat:=by rw [e]
  have e2:(((l).getD (i).toNat default)).atoms=mkI (k+nQ l i.toNat+1) (((l).getD (i).toNat default)).atoms:=by
   have:=congrArg ak.atoms e;exact this
  obtain⟨hp,hf⟩:=U1 (((l).getD (i).toNat default)).atoms (k+nQ l i.toNat+1) ah ah e2;simp (disch:=omega) only [RR,c,e1,hp,hf];rw [show(i+1).toNat=i.toNat+1 by omega];omega
 .simp (disch:=omega) only [RR,c];rw [show i.toNat=l.length by omega,FJ]
abbrev aaA(pp:List ak×Int×Unit->Bool)(ff:List ak×Int×Unit->Int×Unit):Prop:=∀l k,0<=k->k+ctM l<=4000000000000000000->l=mkM k l->pp (l,k,())=true/\ff (l,k,())=(k+ctM l,())
def akv{p1 f1}(U1:aaA p1 f1)(l:List ak)(k:Int)(h0:0<=k)(h1:k+ctM l<=4000000000000000000)(hm:l=mkM k l):ZK.F (p1,f1,()) (l,k,()) (λy=>y=(k+ctM l,())):=by
 have:=dV l;dsimp only [ZK,gm];simp (disch:=omega) only [RR,U1 l k h0 h1 hm];omega
def akw{p1 f1}(U1:aaA p1 f1)(l:List Atom)(k:Int)(h0:0<=k)(h1:k+ctA l<=4000000000000000000)(hm:l=mkA k l):ZI.F (p1,f1,()) (l,k,()) (λy=>y=(k+ctA l,())):=by
 dsimp only [ZI,gm];simp (disch:=omega) only [RR];have hl:=TN l;refine aG (λ(y:List Atom×Int×Int×Unit)=>y.1=l/\y.2.1=k+kJ l y.2.2.1.toNat/\0<=y.2.2.1/\y.2.2.1<=l.length) (λy=>(l.length-y.2.2.1).toNat) ⟨rfl,by simp [Jk],by simp,by simp⟩ ?_;rintro⟨(l:List Atom),(q:Int),(i:Int),⟨⟩⟩ hI;dsimp only at hI ⊢;obtain⟨rfl,rfl,i1,i2⟩:=hI;by_cases c:i<l.length
 .have hi:i.toNat<l.length:=by omega
  have e:=KA k l i.toNat hi;rw [<-hm,List.getElem?_eq_getElem hi,Option.some.injEq]at e;have g:((l).getD (i).toNat default)=l[i.toNat]:=getD_lt hi;have s:=BM l i.toNat hi;have b:=KD l (i.toNat+1) ah;have n1:=KC l i.toNat;have n2:=dV (l[i.toNat]).x;have n3:=dV (l[i.toNat]).y;rw [<-g]at e s n2 n3;have e0:(((l).getD (i).toNat default)).kind=k+kJ l i.toNat:=by rw [e]
  have e1:(((l).getD (i).toNat default)).k=k+kJ l i.toNat+1:=by rw [e]
  have e2:(((l).getD (i).toNat default)).x=mkM (k+kJ l i.toNat+2) (((l).getD (i).toNat default)).x:=congrArg Atom.x e;have e3:(((l).getD (i).toNat default)).y=mkM (k+kJ l i.toNat+2+ctM (((l).getD (i).toNat default)).x) (((l).getD (i).toNat default)).y:=congrArg Atom.y e;have a1:k+kJ l i.toNat+1+1=k+kJ l i.toNat+2:=by omega
  obtain⟨hp,hf⟩:=U1 (((l).getD (i).toNat default)).x (k+kJ l i.toNat+2) ah ah e2;obtain⟨hp',hf'⟩:=U1 (((l).getD (i).toNat default)).y (k+kJ l i.toNat+2+ctM (((l).getD (i).toNat default)).x) ah ah e3;simp (disch:=omega) only [RR,c,e0,e1,a1,hp,hf,hp',hf'];rw [show(i+1).toNat=i.toNat+1 by omega];omega
 .simp (disch:=omega) only [RR,c];rw [show i.toNat=l.length by omega,FK]
def akx{p1:List Atom×Int×Unit->Bool}{f1:List Atom×Int×Unit->Int×Unit}(U1:∀l k,0<=k->k+ctA l<=4000000000000000000->l=mkA k l->p1 (l,k,())=true/\f1 (l,k,())=(k+ctA l,()))(l:List Atom)(k:Int)(h0:0<=k)(h1:k+ctA l<=4000000000000000000)(hm:l=mkA k l):ZJ.F (p1,f1,()) (l,k,()) (λy=>y=(k+ctA l,())):=by
 have:=FH l;dsimp only [ZJ,gm];simp (disch:=omega) only [RR,U1 l k h0 h1 hm];omega
def aky{p1 f1}(U1:Y33 p1 f1)(a b:List (List ak))(hD:ShP a):ZV.F (p1,f1,()) (a,b,()) (λy=>y=(bp (a=b),())):=by
 have hlen:=hD.1;dsimp only [ZV,gm];simp (disch:=omega) only [RR];refine⟨λh=> ?_,λh=> ?_⟩
 .rw [bU (λe=>h (by rw [e]))]
 have hl:a.length=b.length:=by omega
 refine aG (λ(y:List (List ak)×List (List ak)×Int×Unit)=>y.1=a/\y.2.1=b/\0<=y.2.2.1/\y.2.2.1<=a.length/\All y.2.2.1 (λi=>a.getD i.toNat default=b.getD i.toNat default)) (λy=>(a.length-y.2.2.1).toNat) ⟨rfl,rfl,by simp,by simp,All.zero⟩ ?_;rintro⟨(l1:List (List ak)),(l2:List (List ak)),(i:Int),⟨⟩⟩ hI;dsimp only at hI ⊢;obtain⟨rfl,rfl,h1,h2,h3⟩:=hI;by_cases c:i<l1.length
 .have A:Sh (((l1).getD (i).toNat default)):=hD.2 _ (dN h1 c);simp (disch:=omega) only [RR,U1 _ (((l2).getD (i).toNat default)) A,bD,iP];refine⟨λh4=>⟨ah,ah,ah,ah,λh5=> ?_,λh5=>⟨⟨ah,ah,h3.snoc h5⟩,ah⟩⟩,λh4=>by omega⟩;rw [bU];intro e;rw [e]at h5;exact h5 rfl
 .simp (disch:=omega) only [RR,c];rw [eO (wX hl (h3.le ah))]
def akz{p1 f1 p2 f2}(U1:Y33 p1 f1)(U2:Y88 p2 f2)(a b:Ev)(h:ShE a):ZW.F (p1,f1,p2,f2,()) (a,b,()) (λy=>y=(bp (a=b),())):=by
 dsimp only [ZW,gm];simp (disch:=omega) only [RR,RB,U1 _ b.x h.1,U1 _ b.y h.2.1,U2 _ b.regs h.2.2,bD,iP];refine⟨λe=> ?_,λe=>⟨λf=> ?_,λf=>⟨λg=> ?_,λg=>⟨λk=> ?_,λk=>⟨λq=> ?_,λq=> ?_⟩⟩⟩⟩⟩
 .rw [bU (λg=>e (by rw [g]))]
 .rw [bU (λg=>f (by rw [g]))]
 .rw [bU (λk=>g (by rw [k]))]
 .rw [bU (λg=>k (by rw [g]))]
 .rw [bU (λg=>q (by rw [g]))]
 .rw [eO (by cases a;cases b;dsimp only at e f g k q;rw [e,f,g,k,q])]
def akA{p1 f1}(U1:Y93 p1 f1)(a b:List Ev)(hD:Lp a):ZX.F (p1,f1,()) (a,b,()) (λy=>y=(bp (a=b),())):=by
 have hlen:=hD.1;dsimp only [ZX,gm];simp (disch:=omega) only [RR];refine⟨λh=> ?_,λh=> ?_⟩
 .rw [bU (λe=>h (by rw [e]))]
 have hl:a.length=b.length:=by omega
 refine aG (λ(y:List Ev×List Ev×Int×Unit)=>y.1=a/\y.2.1=b/\0<=y.2.2.1/\y.2.2.1<=a.length/\All y.2.2.1 (λi=>a.getD i.toNat default=b.getD i.toNat default)) (λy=>(a.length-y.2.2.1).toNat) ⟨rfl,rfl,by simp,by simp,All.zero⟩ ?_;rintro⟨(l1:List Ev),(l2:List Ev),(i:Int),⟨⟩⟩ hI;dsimp only at hI ⊢;obtain⟨rfl,rfl,h1,h2,h3⟩:=hI;by_cases c:i<l1.length
 .have A:ShE (((l1).getD (i).toNat default)):=hD.2 _ (dN h1 c);simp (disch:=omega) only [RR,U1 _ (((l2).getD (i).toNat default)) A,bD,iP];refine⟨λh4=>⟨ah,ah,ah,ah,λh5=> ?_,λh5=>⟨⟨ah,ah,h3.snoc h5⟩,ah⟩⟩,λh4=>by omega⟩;rw [bU];intro e;rw [e]at h5;exact h5 rfl
 .simp (disch:=omega) only [RR,c];rw [eO (wX hl (h3.le ah))]
def akB{p2 f2 p3 f3}{p1:List Ev×List Ev×Unit->Bool}{f1:List Ev×List Ev×Unit->Bool×Unit}(U1:∀a b,Lp a->p1 (a,b,())=true/\f1 (a,b,())=(bp (a=b),()))(U2:Y33 p2 f2)(U3:Y88 p3 f3)(a b:Sym)(h:ShY a):ZY.F (p1,f1,p2,f2,p3,f3,()) (a,b,()) (λy=>y=(bp (a=b),())):=by
 dsimp only [ZY,gm];simp (disch:=omega) only [RR,RB,U2 _ b.x h.x,U2 _ b.y h.y,U1 _ b.events h.e,U3 _ b.regs h.r,bD,iP];refine⟨λe=> ?_,λe=>⟨λf=> ?_,λf=>⟨λg=> ?_,λg=>⟨λk=> ?_,λk=>⟨λq=> ?_,λq=>⟨λr=> ?_,λr=> ?_⟩⟩⟩⟩⟩⟩
 .rw [bU (λg=>e (by rw [g]))]
 .rw [bU (λg=>f (by rw [g]))]
 .rw [bU (λk=>g (by rw [k]))]
 .rw [bU (λg=>k (by rw [g]))]
 .rw [bU (λg=>q (by rw [g]))]
 .rw [bU (λg=>r (by rw [g]))]
 .rw [eO (by cases a;cases b;dsimp only at e f g k q r;rw [e,f,g,k,q,r])]
def akC{p1 f1}(U1:aaA p1 f1)(l:List (List ak))(k:Int)(h0:0<=k)(hl:l.length<1000000000)(h1:k+ctP l<=4000000000000000000)(hm:l=mkP k l):Z6.F (p1,f1,()) (l,k,()) (λy=>y=(k+ctP l,())):=by
 dsimp only [Z6,gm];simp (disch:=omega) only [RR];refine aG (λ(y:List (List ak)×Int×Int×Unit)=>y.1=l/\y.2.1=k+pF l y.2.2.1.toNat/\0<=y.2.2.1/\y.2.2.1<=l.length) (λy=>(l.length-y.2.2.1).toNat) ⟨rfl,by simp [Jl],by simp,by simp⟩ ?_;rintro⟨(l:List (List ak)),(q:Int),(i:Int),⟨⟩⟩ hI;dsimp only at hI ⊢;obtain⟨rfl,rfl,i1,i2⟩:=hI;by_cases c:i<l.length
 .have hi:i.toNat<l.length:=by omega
  have e:=KJ k l i.toNat hi;rw [<-hm,List.getElem?_eq_getElem hi,Option.some.injEq]at e;have g:((l).getD (i).toNat default)=l[i.toNat]:=getD_lt hi;have s:=BO l i.toNat hi;have b:=KI l (i.toNat+1) ah;have n1:=KH l i.toNat;have n2:=dV l[i.toNat];rw [<-g]at e s n2;obtain⟨hp,hf⟩:=U1 (((l).getD (i).toNat default)) (k+pF l i.toNat) ah ah e;simp (disch:=omega) only [RR,c,hp,hf];rw [show(i+1).toNat=i.toNat+1 by omega];omega
 .simp (disch:=omega) only [RR,c];rw [show i.toNat=l.length by omega,FP]
abbrev akD(pp:List (List ak)×Int×Unit->Bool)(ff:List (List ak)×Int×Unit->Int×Unit):Prop:=∀l k,0<=k->l.length<1000000000->k+ctP l<=4000000000000000000->l=mkP k l->pp (l,k,())=true/\ff (l,k,())=(k+ctP l,())
def akE{p1 f1 p2 f2}(U1:aaA p1 f1)(U2:akD p2 f2)(l:List Ev)(k:Int)(h0:0<=k)(hs:Lp l)(h1:k+ctE l<=4000000000000000000)(hm:l=mkE k l):Z7.F (p1,f1,p2,f2,()) (l,k,()) (λy=>y=(k+ctE l,())):=by
 have hp1:=λz1 z2 z3 z4 z5=>(U1 z1 z2 z3 z4 z5).1
 have hf1:=λz1 z2 z3 z4 z5=>(U1 z1 z2 z3 z4 z5).2
 have hp2:=λz1 z2 z3 z4 z5 z6=>(U2 z1 z2 z3 z4 z5 z6).1
 have hf2:=λz1 z2 z3 z4 z5 z6=>(U2 z1 z2 z3 z4 z5 z6).2
 have hl:=hs.1;dsimp only [Z7,gm];simp (disch:=omega) only [RR];refine aG (λ(y:List Ev×Int×Int×Unit)=>y.1=l/\y.2.1=k+jd l y.2.2.1.toNat/\0<=y.2.2.1/\y.2.2.1<=l.length) (λy=>(l.length-y.2.2.1).toNat) ⟨rfl,by simp [Jm],by simp,by simp⟩ ?_;rintro⟨(l:List Ev),(q:Int),(i:Int),⟨⟩⟩ hI;dsimp only at hI ⊢;obtain⟨rfl,rfl,i1,i2⟩:=hI;by_cases c:i<l.length
 .have hi:i.toNat<l.length:=by omega
  have A:(((l).getD (i).toNat default)).regs.length<1000000000:=(hs.2 _ (dN i1 c)).2.2.1;have e:=KN k l i.toNat hi;rw [<-hm,List.getElem?_eq_getElem hi,Option.some.injEq]at e;have g:((l).getD (i).toNat default)=l[i.toNat]:=getD_lt hi;have s:=BP l i.toNat hi;have b:=KM l (i.toNat+1) ah;have n1:=KL l i.toNat;have n2:=dV (l[i.toNat]).x;have n3:=dV (l[i.toNat]).y;have n4:=rE (l[i.toNat]).regs;rw [<-g]at e s n2 n3 n4;have e0:(((l).getD (i).toNat default)).kind=k+jd l i.toNat:=by rw [e]
  have e1:(((l).getD (i).toNat default)).at_=k+jd l i.toNat+1:=by rw [e]
  have e2:(((l).getD (i).toNat default)).x=mkM (k+jd l i.toNat+2) (((l).getD (i).toNat default)).x:=congrArg Ev.x e;have e3:(((l).getD (i).toNat default)).y=mkM (k+jd l i.toNat+2+ctM (((l).getD (i).toNat default)).x) (((l).getD (i).toNat default)).y:=congrArg Ev.y e;have e4:(((l).getD (i).toNat default)).regs=mkP (k+jd l i.toNat+2+ctM (((l).getD (i).toNat default)).x+ctM (((l).getD (i).toNat default)).y) (((l).getD (i).toNat default)).regs:=congrArg Ev.regs e;have a1:k+jd l i.toNat+1+1=k+jd l i.toNat+2:=by omega
  have hp:=hp1 (((l).getD (i).toNat default)).x (k+jd l i.toNat+2) ah ah e2;have hf:=hf1 (((l).getD (i).toNat default)).x (k+jd l i.toNat+2) ah ah e2;have hp':=hp1 (((l).getD (i).toNat default)).y (k+jd l i.toNat+2+ctM (((l).getD (i).toNat default)).x) ah ah e3;have hf':=hf1 (((l).getD (i).toNat default)).y (k+jd l i.toNat+2+ctM (((l).getD (i).toNat default)).x) ah ah e3;have hp3:=hp2 (((l).getD (i).toNat default)).regs (k+jd l i.toNat+2+ctM (((l).getD (i).toNat default)).x+ctM (((l).getD (i).toNat default)).y) ah A ah e4;have hf3:=hf2 (((l).getD (i).toNat default)).regs (k+jd l i.toNat+2+ctM (((l).getD (i).toNat default)).x+ctM (((l).getD (i).toNat default)).y) ah A ah e4;simp (disch:=omega) only [RR,RB,c,e0,e1,a1,hp,hf,hp',hf',hp3,hf3];rw [show(i+1).toNat=i.toNat+1 by omega];omega
 .simp (disch:=omega) only [RR,c];rw [show i.toNat=l.length by omega,FQ]
def akF{p2 f2 p3 f3}{p1:List Ev×Int×Unit->Bool}{f1:List Ev×Int×Unit->Int×Unit}(U1:∀l k,0<=k->Lp l->k+ctE l<=4000000000000000000->l=mkE k l->p1 (l,k,())=true/\f1 (l,k,())=(k+ctE l,()))(U2:aaA p2 f2)(U3:akD p3 f3)(s:Sym)(k:Int)(h0:0<=k)(hs:ShY s)(h1:k+ctS s<=4000000000000000000)(hm:s=mkS k s):Z8.F (p1,f1,p2,f2,p3,f3,()) (s,k,()) (λy=>y=(k+ctS s,())):=by
 have n1:=BN s.events;have n2:=rE s.regs;have n3:=dV s.x;have n4:=dV s.y;unfold ctS at h1 ⊢;have e1:s.events=mkE k s.events:=congrArg Sym.events hm;have e2:s.regs=mkP (k+ctE s.events) s.regs:=congrArg Sym.regs hm;have e3:s.x=mkM (k+ctE s.events+ctP s.regs) s.x:=congrArg Sym.x hm;have e4:s.y=mkM (k+ctE s.events+ctP s.regs+ctM s.x) s.y:=congrArg Sym.y hm;dsimp only [Z8,gm];simp (disch:=omega) only [RR,RB,U1 s.events k h0 hs.e ah e1,U3 s.regs (k+ctE s.events) ah hs.r.1 ah e2,U2 s.x (k+ctE s.events+ctP s.regs) ah ah e3,U2 s.y (k+ctE s.events+ctP s.regs+ctM s.x) ah ah e4];refine⟨λ_=>by omega,λ_=>⟨λ_=>by omega,λ_=>⟨λ_=>by omega,λ_=>⟨λ_=>by omega,λ_=> ?_⟩⟩⟩⟩;simp only [Int.add_assoc]
def aaB:∀p:List ak,ctM p=cM p
 | []=>rfl
 | m::r=>by
  have:=aaB r;unfold cM at this ⊢;simp only [ctM,sm,List.length_cons,this];unfold cO ctI
  push_cast;omega
def aaC:∀t:List Atom,ctA t<=2*cA t
 | []=>by simp [ctA,cA,sm]
 | a::r=>by
  have:=aaC r;have h1:=Aq a.x;have h2:=Aq a.y;unfold cA at this ⊢;simp only [ctA,sm,List.length_cons,cT,aaB]
  push_cast;omega
theorem aeb{p:List ak}(h:cM p<=1048576):Sh p:=by
 have h1:=Dh Oa p;unfold cM at h;refine⟨ah,λm hm=> ?_⟩;have h2:=aay Oa p m hm;have h3:cO m=m.atoms.length:=rfl;omega
theorem ahn{t:List Atom}(h:cA t<=1048576):ShT t:=by
 have h1:=Dh Ob t;unfold cA at h;refine⟨ah,λa ha=> ?_⟩;have h2:=aay Ob t a ha;have h3:=Aq a.x;have h4:=Aq a.y;have h5:cT a=cM a.x+cM a.y:=rfl;exact⟨aeb ah,aeb ah⟩
end Go.TX.F
namespace Go.TX
open Go Go.AE
def enters_of{P:Program}{f:FuncId}{fn:Func}{c:Code}(hf:P.funcs[f]? =some fn)(hname:(fn.name== "runtime.NumGoroutine")=false)(hb:fn.body=some c):Enters P f:=by
 intro args w;have h1:fn.name≠ "runtime.NumGoroutine" :=by simpa using hname
 simp [callFunc,hf,h1,hb,mark]
def Uw(P:Program):Nat->List Field->Bool
 | _,[]=>true
 | k,f::fs=> !(f.name== "_")&&f.offset==k&& (match P.underlying f.type with | some (.int _)=>true | _=>false)&&Uw P (k+1) fs
def Ux{P:Program}(w:World)(d:Nat)(xs ys:List Int)(hl:xs.length=ys.length):∀(fs:List Field) (k:Nat),Uw P k fs=true->k+fs.length=xs.length->
  (Op.eqFields (d+1) (xs.map (Value.int .i64)).toArray (ys.map (Value.int .i64)).toArray fs).run P w= .ok (xs.drop k==ys.drop k) w
 | [],k,_,h2=>by
  rw [List.drop_eq_nil_of_le (show xs.length<=k by simp only [List.length_nil]at h2;omega),List.drop_eq_nil_of_le (show ys.length<=k by simp only [List.length_nil]at h2;omega)];simp [Op.eqFields]
 | f::fs,k,h1,h2=>by
  simp only [List.length_cons]at h2;simp only [Uw,Bool.and_eq_true,Bool.not_eq_true',beq_eq_false_iff_ne,beq_iff_eq]at h1;obtain⟨⟨⟨n1,n2⟩,n3⟩,n4⟩:=h1;have hk:k<xs.length:=by omega
  have hk':k<ys.length:=by omega
  obtain⟨kd,hu⟩:∃kd,P.underlying f.type=some (.int kd):=by
   cases hu:P.underlying f.type with
   | none=>rw [hu]at n3;cases n3
   | some z=>cases z<;>(first | exact⟨_,rfl⟩ | (rw [hu]at n3;cases n3))
  have pk:P.plainKey f.type=true:=by unfold Program.plainKey;rw [hu]
  have p1:=run_part_plain w pk (xs:=(xs.map (Value.int .i64)).toArray) (off:=f.offset) (v:= .int .i64 xs[k]) (by rw [n2];simp [hk]);have p2:=run_part_plain w pk (xs:=(ys.map (Value.int .i64)).toArray) (off:=f.offset) (v:= .int .i64 ys[k]) (by rw [n2];simp [hk']);have ih:=Ux w d xs ys hl fs (k+1) n4 ah;simp only [Op.eqFields,if_pos n1,Sem.run_bind,p1,p2,Result.andThen_ok,run_equalIn_int w d f.type .i64 kd _ _ hu];have e:(xs.drop k==ys.drop k)=((xs[k]==ys[k])&& (xs.drop (k+1)==ys.drop (k+1))):=by rw [List.drop_eq_getElem_cons hk,List.drop_eq_getElem_cons hk'];rfl
  rw [e];by_cases c:(xs[k]==ys[k])=true
  .rw [c];simp only [Bool.not_true,Bool.false_eq_true,if_false,ih,Bool.true_and]
  .have c2:(xs[k]==ys[k])=false:=by simpa using c
   rw [c2];simp only [Bool.not_false,if_true,Sem.run_pure,Bool.false_and]
def aho{P:Program}{t:TypeId}{n:Nat}(hu:P.underlying t=some (.struct (P.fieldsOf t)))(hs:P.stoodInHeld t=false)(hg:P.eqGuardType P.depth t=false)(hf:Uw P 0 (P.fieldsOf t).toList=true)(hn:(P.fieldsOf t).size=n)(xs ys:List Int)(hx:xs.length=n)(hy:ys.length=n)(w:World):
  (Op.equal t (.agg (xs.map (Value.int .i64)).toArray) (.agg (ys.map (Value.int .i64)).toArray)).run P w= .ok (xs==ys) w/\
  (eqGuard .eql t (.tmp 0) (.tmp 0) (.agg (xs.map (Value.int .i64)).toArray) (.agg (ys.map (Value.int .i64)).toArray)).run P w= .ok () w:=by
 refine⟨?_,run_eqGuard_agg w _ _ _ _ _ _ hg⟩;show(Op.equalIn (9999+1) t _ _).run P w=_;rw [run_equalIn_struct w 9999 t _ _ hu hs,Ux w 9998 xs ys ah _ 0 hf (by rw [Array.length_toList];omega)];rfl
noncomputable def never (s:Sig):Ct aJ s:={pre:=λ_=>false,fn:=λ_=>Classical.choice (vX _)}
def mX{E:Tab}{f:FuncId}{s:Sig}(h:Enters E.P f):aK E f (bT (never s)) where
 enters:=h
 calls:=by
  rintro args hh n K ⟨m,vs,h2,h3,h4,h5,cr,h6,h7,h8⟩;exfalso;unfold kg at h6;split at h6
  .split at h6
   .split at h6
    .split at h6
     .cases h6;have:=h7 false (List.mem_append_right _ (List.mem_singleton.2 rfl));cases this
     .cases h6
    .cases h6
   .cases h6
  .cases h6
def entry(W:World):Ctx:={K:=λ_ b=>b<W.heap.size,ν:=λ_=>none,n:=0}
def RU(W:World):bC (entry W) W []:=
 ⟨λl o h=>(by cases h),λl o l' o' b h=>(by cases h),λf b ⟨l,o,h,_⟩=>(by cases h),λf b h=>h,λb h=>h⟩
def Oc{W W':World}{c':Ctx}{h':Heap}(g:Grow (entry W) W [] c' W' h'):RowKit.Below W.heap.size W W':=
 ⟨g.os,g.tape,g.output,g.size,λk hk=>g.kept k hk λ⟨l,o,h,_⟩=>by cases h⟩
end Go.TX
namespace Go.TX
open Go Go.AE Go.ChangeShapes Go.WideShapes Go.ChangeAt
inductive DS:Sh->D->Prop
 | int (k:IntKind) (n:Int):DS (.int k) (.int k n)
 | ops (xs:List IOp):xs.length<9223372036854775808->DS (.rows .iop) (.rows 5 (aW .iop xs))
section
variable {H:Type} (enc:TypeId×Value->H) (P:Program) (W:World)
abbrev tr(fuel:Nat)(t:TypeId)(cs:List Value):Option (DataW H×List MemPlace):=DataW.trod enc P W 0 (λ_=>true) true fuel t cs
abbrev inW(W:World)(p:List MemPlace):Prop:=∀x∈p,x.block<W.heap.size
def CO(s:Sh)(t:TypeId):Prop:=∀fuel cs x,tr enc P W fuel t cs=some x->inW W x.2->∃v d,cs=[v]/\dJ (λb=>b<W.heap.size) W v d/\DS s d
def EO(c:Co)(G:c.den->Prop)(t:TypeId):Prop:=∀fuel cs x,tr enc P W fuel t cs=some x->inW W x.2->∃z:c.den,F2 (dJ (λb=>b<W.heap.size) W) cs (c.row z)/\G z
variable {enc P W}
theorem ahp{k:IntKind}{t:TypeId}(ht:P.underlying t=some (.int k)):CO enc P W (.int k) t:=by
 intro fuel cs x h _;obtain⟨n,rfl,rfl,_⟩:=DataW.trod_int ht h;exact⟨_,_,rfl,.int k n,.int k n⟩
theorem ahq{α β:Type}{R:α->β->Prop}{l:List α}{m:List β}(h:F2 R l m){j:Nat}(a:α)(b:β)(hj:j<m.length):R (l.getD j a) (m.getD j b):=by
 obtain⟨x,h1,h2⟩:=F2.get h (List.getElem?_eq_getElem hj);rw [List.getD_eq_getElem?_getD,h1,List.getD_eq_getElem?_getD,List.getElem?_eq_getElem hj];exact h2
theorem Cj{c:Co}{G:c.den->Prop}{t e:TypeId}(ht:P.underlying t=some (.slice e))(hc:P.cellsOf e=c.size)(hs:0<c.size)(hE:EO enc P W c G e){fuel:Nat}{cs:List Value}{x:DataW H×List MemPlace}
  (h:tr enc P W fuel t cs=some x) (hp:inW W x.2):∃v xs,cs=[v]/\dJ (λb=>b<W.heap.size) W v (.rows c.size (aW c xs))/\xs.length<9223372036854775808/\∀z∈xs,G z:=by
 rcases Deep.open_slice ht h with⟨rfl,rfl⟩ | ⟨a,len,cap,m,n,D,Pl,rfl,_,hl,hm,hmm,rfl,hx⟩
 .exact⟨_,[],rfl,.none _ _ _,Nat.zero_lt_of_ne_zero (by decide),λ_ h=>by cases h⟩
 have em:m=cap:=by simpa using hmm
 have each:∀i,i<len->∃q:List Value×c.den,W.cells? 0 (a.add (i*c.size)) c.size=some q.1/\F2 (dJ (λb=>b<W.heap.size) W) q.1 (c.row q.2)/\G q.2:=λi hi=>by
  obtain⟨cs',h1,h2⟩:=hx i ah;obtain⟨z,z1,z2⟩:=hE n cs' _ h2 (λp hp'=>hp p (List.mem_append_right _ (List.mem_flatMap.2 ⟨i,List.mem_range.2 ah,hp'⟩)));exact⟨(cs',z),by rw [<-hc];exact h1,z1,z2⟩
 obtain⟨q,hq⟩:=Deep.choose_lt each;have ml:(maxLen:Nat)=9223372036854775807:=by decide
 refine⟨_,(List.range len).map λi=>(q i).2,rfl,?_,by rw [List.length_map,List.length_range];omega,λz hz=> ?_⟩
 .by_cases h0:len=0
  .subst h0;exact .none _ _ _
  obtain⟨b,off,spot⟩:=a;have cell:∀i j,i<len->j<c.size->W.cell? (((⟨b,off,spot⟩:Addr).add (i*c.size)).add j)=(q i).1[j]? :=λi j hi hj=>(World.cells?_some (hq i hi).1).2.2 j hj
  have ql:∀i,i<len->(q i).1.length=c.size:=λi hi=>(World.cells?_some (hq i hi).1).2.1
  have hspot:spot=none:=by
   have:=cell 0 0 ah hs;rw [List.getElem?_eq_getElem (by rw [ql 0 ah];exact hs)]at this;simpa [Addr.add]using World.cell?_spot this
  subst hspot;have hbW:b<W.heap.size:=hp (.cell b (off+0)) (List.mem_append_left _ (MemPlace.mem_row.2 ⟨0,by rw [hc];exact Nat.mul_pos ah hs,rfl⟩));have len':(aW c ((List.range len).map λi=>(q i).2)).length=len:=by rw [aW,List.length_map,List.length_map,List.length_range]
  have hget:∀i,i<len->(aW c ((List.range len).map λi=>(q i).2)).getD i []=c.row (q i).2:=λi hi=>by
   rw [List.getD_eq_getElem?_getD,aW,List.map_map,List.getElem?_map,List.getElem?_range hi];rfl
  refine .rows b off cap c.size len _ (λi j=>(q i).1.getD j undef) hbW len'.symm hl (λi j hi hj=> ?_) (λi hi=> ?_) (λi j hi hj=> ?_)
  .rw [len']at hi;have:=cell i j hi hj;rw [add_plain,add_plain]at this;rw [this,List.getD_eq_getElem?_getD,List.getElem?_eq_getElem (by rw [ql i hi];exact hj)];rfl
  .rw [len']at hi;rw [hget i hi];exact tO c _
  .rw [len']at hi;unfold gd;rw [hget i hi];exact ahq (hq i hi).2.1 _ _ (by rw [tO];exact hj)
 .obtain⟨i,hi,rfl⟩:=List.mem_map.1 hz;exact(hq i (List.mem_range.1 hi)).2.2
def fsB(P:Program)(tR:Option TypeId):Nat->List Field->List Sh->Bool
 | _,[],[]=>true
 | k,f::fs,s::S=>f.offset==k&&P.cellsOf f.type==1&& (match s with | .int q=>(match P.underlying f.type with | some (.int q')=>decide (q'=q) | _=>false) | .rows .iop=>some f.type==tR | _=>false)&&fsB P tR (k+1) fs S
 | _,_,_=>false
theorem aaD{tR:Option TypeId}{k:Nat}{f:Field}{fs:List Field}{s:Sh}{S:List Sh}(h:fsB P tR k (f::fs) (s::S)=true)(hR:∀t,tR=some t->CO enc P W (.rows .iop) t):
  f.offset=k/\P.cellsOf f.type=1/\CO enc P W s f.type/\fsB P tR (k+1) fs S=true:=by
 simp only [fsB,Bool.and_eq_true,beq_iff_eq]at h;obtain⟨⟨⟨h1,h2⟩,h3⟩,h4⟩:=h;refine⟨h1,h2,?_,h4⟩;cases s with
 | int q=>
  dsimp only at h3;split at h3
  .rename_i q' hu;have e:q'=q:=by simpa using h3
   subst e;exact ahp hu
  .cases h3
 | rows c=>
  cases c<;>dsimp only at h3<;>first | (cases h3;done) | skip
  rw [beq_iff_eq]at h3;exact hR _ h3.symm
 | bool=>cases h3
 | str=>cases h3
theorem Uy{tR:Option TypeId}(hR:∀t,tR=some t->CO enc P W (.rows .iop) t){cs:List Value}{n:Nat}:∀(fs:List Field) (S:List Sh) (k:Nat) (xs:List (DataW H×List MemPlace)),fsB P tR k fs S=true->xs.length=fs.length->
  (∀(i:Nat) (f:Field),fs[i]? =some f->tr enc P W n f.type ((cs.drop f.offset).take (P.cellsOf f.type))=xs[i]?)->inW W (xs.flatMap (·.2))->cs.length=k+fs.length->
  ∃ds,F2 (dJ (λb=>b<W.heap.size) W) (cs.drop k) ds/\F2 DS S ds
 | [],S,k,xs,h1,_,_,_,h5=>by
  cases S with
  | nil=>exact⟨[],by rw [List.drop_eq_nil_of_le (by simp at h5;omega)];exact .nil,.nil⟩
  | cons s S=>cases h1
 | f::fs,[],k,xs,h1,_,_,_,_=>by cases h1
 | f::fs,s::S,k,[],_,h2,_,_,_=>by cases h2
 | f::fs,s::S,k,y::xs,h1,h2,h3,h4,h5=>by
  obtain⟨a1,a2,a3,a4⟩:=aaD h1 hR;have b:=h3 0 f rfl;rw [a1,a2]at b;obtain⟨v,d,e,r1,r2⟩:=a3 n _ y b (λp hp=>h4 p (List.mem_flatMap.2 ⟨y,List.mem_cons_self ..,hp⟩));simp only [List.length_cons]at h5 h2;obtain⟨ds,i1,i2⟩:=Uy hR fs S (k+1) xs a4 ah (λi g hg=>h3 (i+1) g hg) (λp hp=>h4 p (by rw [List.flatMap_cons];exact List.mem_append_right _ hp)) ah;have hk:k<cs.length:=by omega
  rw [List.drop_eq_getElem_cons hk]at e ⊢;rw [List.take_succ_cons,List.take_zero]at e;cases e;exact⟨d::ds,.cons r1 i1,.cons r2 i2⟩
theorem Uz{t:TypeId}{tR:Option TypeId}{fs:Array Field}{S:List Sh}(ht:P.underlying t=some (.struct fs))(hn:P.cellsOf t=fs.toList.length)(hf:fsB P tR 0 fs.toList S=true)(hR:∀t,tR=some t->CO enc P W (.rows .iop) t){fuel:Nat}{cs:List Value}{x:DataW H×List MemPlace}
  (h:tr enc P W fuel t cs=some x) (hp:inW W x.2):∃ds,F2 (dJ (λb=>b<W.heap.size) W) cs ds/\F2 DS S ds:=by
 obtain⟨xs,n,_,rfl,hl,hlen,hf'⟩:=DataW.trod_struct ht h;exact Uy hR fs.toList S 0 xs hf (by rw [hlen,Array.length_toList]) (λi f hi=>hf' i f (by rw [<-Array.getElem?_toList];exact hi)) hp ah
theorem f2c{α β:Type}{R:α->β->Prop}{a:α}{l:List α}{m:List β}(h:F2 R (a::l) m):∃b m',m=b::m'/\R a b/\F2 R l m':=by cases h with | cons h1 h2=>exact⟨_,_,rfl,h1,h2⟩
theorem f2n{α β:Type}{R:α->β->Prop}{m:List β}(h:F2 R [] m):m=[]:=by cases h;rfl
theorem dsi{d:D}(h:DS .i d):∃n,d= .int .i64 n:=by cases h;exact⟨_,rfl⟩
theorem dso{d:D}(h:DS (.rows .iop) d):∃xs:List IOp,d= .rows 5 (aW .iop xs)/\xs.length<9223372036854775808:=by cases h with | ops xs h=>exact⟨xs,rfl,h⟩
theorem ahr{t:TypeId}{fs:Array Field}(ht:P.underlying t=some (.struct fs))(hn:P.cellsOf t=fs.toList.length)(hf:fsB P none 0 fs.toList [.i,.i,.i,.i,.i]=true):EO enc P W .iop (λ_=>True) t:=by
 intro fuel cs x h hp;obtain⟨ds,h1,h2⟩:=Uz ht hn hf (λ_ h=>by cases h) h hp;obtain⟨d0,m0,rfl,e0,h2⟩:=f2c h2;obtain⟨d1,m1,rfl,e1,h2⟩:=f2c h2;obtain⟨d2,m2,rfl,e2,h2⟩:=f2c h2;obtain⟨d3,m3,rfl,e3,h2⟩:=f2c h2;obtain⟨d4,m4,rfl,e4,h2⟩:=f2c h2;obtain rfl:=f2n h2;obtain⟨n0,rfl⟩:=dsi e0;obtain⟨n1,rfl⟩:=dsi e1;obtain⟨n2,rfl⟩:=dsi e2;obtain⟨n3,rfl⟩:=dsi e3;obtain⟨n4,rfl⟩:=dsi e4;exact⟨⟨n0,n1,n2,n3,n4⟩,h1,trivial⟩
theorem ahs{tR t:TypeId}{fs:Array Field}(hr:P.underlying tR=some (.slice t))(ht:P.underlying t=some (.struct fs))(hn:P.cellsOf t=fs.toList.length)(h5:fs.toList.length=5)(hf:fsB P none 0 fs.toList [.i,.i,.i,.i,.i]=true):CO enc P W (.rows .iop) tR:=by
 intro fuel cs x h hp;obtain⟨v,xs,e,r,l,_⟩:=Cj (c:= .iop) hr (hn.trans h5) (by decide) (ahr ht hn hf) h hp;exact⟨v,_,e,r,.ops xs l⟩
abbrev BG(b:Blk):Prop:=b.ops.length<9223372036854775808
theorem aht{t tR:TypeId}{fs:Array Field}(ht:P.underlying t=some (.struct fs))(hn:P.cellsOf t=fs.toList.length)(hf:fsB P (some tR) 0 fs.toList WI=true)(hR:CO enc P W (.rows .iop) tR):EO enc P W .blk BG t:=by
 intro fuel cs x h hp;obtain⟨ds,h1,h2⟩:=Uz ht hn hf (λ_ h=>by cases h;exact hR) h hp;obtain⟨d0,m0,rfl,e0,h2⟩:=f2c h2;obtain⟨d1,m1,rfl,e1,h2⟩:=f2c h2;obtain⟨d2,m2,rfl,e2,h2⟩:=f2c h2;obtain⟨d3,m3,rfl,e3,h2⟩:=f2c h2;obtain⟨d4,m4,rfl,e4,h2⟩:=f2c h2;obtain⟨d5,m5,rfl,e5,h2⟩:=f2c h2;obtain⟨d6,m6,rfl,e6,h2⟩:=f2c h2;obtain rfl:=f2n h2;obtain⟨n0,rfl⟩:=dsi e0;obtain⟨n1,rfl⟩:=dsi e1;obtain⟨xs,rfl,l⟩:=dso e2;obtain⟨n3,rfl⟩:=dsi e3;obtain⟨n4,rfl⟩:=dsi e4;obtain⟨n5,rfl⟩:=dsi e5;obtain⟨n6,rfl⟩:=dsi e6;exact⟨⟨n0,n1,xs,n3,n4,n5,n6⟩,h1,l⟩
end
theorem UC{c:Ctx}{W:World}(hK:c.K false=λb=>b<W.heap.size){co:Co}{x:co.den}{cs:List Value}(h:F2 (dJ (λb=>b<W.heap.size) W) cs (co.row x)):bg c W (.agg cs.toArray) (.agg ((co.row x).map (.d false))):=by
 refine .agg _ _ ?_;rw [<-hK]at h;generalize co.row x=ds at h
 induction h with
 | nil=>exact .nil
 | cons h1 _ ih=>exact .cons (.d false _ _ h1) ih
end Go.TX
namespace Go.TX
open Go Go.AE Go.ChangeShapes Go.WideShapes Go.ChangeAt
section
variable {H:Type} {enc:TypeId×Value->H} {P:Program} {W:World}
theorem ahu{t:TypeId}(ht:P.underlying t=some (.int .i64)):EO enc P W .i64 (λ_=>True) t:=by
 intro fuel cs x h _;obtain⟨n,rfl,rfl,_⟩:=DataW.trod_int ht h;exact⟨n,.cons (.int .i64 n) .nil,trivial⟩
def CP(enc:TypeId×Value->H)(P:Program)(W:World)(t:TypeId)(g:D->Prop):Prop:=∀fuel cs x,tr enc P W fuel t cs=some x->inW W x.2->∃v d,cs=[v]/\dJ (λb=>b<W.heap.size) W v d/\g d
def gI(d:D):Prop:=∃n,d= .int .i64 n
def gL(d:D):Prop:=∃xs:List Int,d= .rows 1 (aW .i64 xs)/\xs.length<9223372036854775808
theorem ahv{t:TypeId}(ht:P.underlying t=some (.int .i64)):CP enc P W t gI:=by
 intro fuel cs x h _;obtain⟨n,rfl,rfl,_⟩:=DataW.trod_int ht h;exact⟨_,_,rfl,.int .i64 n,n,rfl⟩
theorem amf{t e:TypeId}(ht:P.underlying t=some (.slice e))(he:P.underlying e=some (.int .i64))(hc:P.cellsOf e=1):CP enc P W t gL:=by
 intro fuel cs x h hp;obtain⟨v,xs,e,r,l,_⟩:=Cj (c:= .i64) ht hc (by decide) (ahu he) h hp;exact⟨v,_,e,r,xs,rfl,l⟩
def FL(enc:TypeId×Value->H)(P:Program)(W:World):Nat->List Field->List (D->Prop)->Prop
 | _,[],[]=>True
 | k,f::fs,g::gs=>f.offset=k/\P.cellsOf f.type=1/\CP enc P W f.type g/\FL enc P W (k+1) fs gs
 | _,_,_=>False
theorem FL.cons{k:Nat}{f:Field}{fs:List Field}{g:D->Prop}{gs:List (D->Prop)}(h1:f.offset=k)(h2:P.cellsOf f.type=1)(h3:CP enc P W f.type g)(h4:FL enc P W (k+1) fs gs):FL enc P W k (f::fs) (g::gs):=⟨h1,h2,h3,h4⟩
theorem FL.nil{k:Nat}:FL enc P W k [] []:=trivial
theorem xg{cs:List Value}{n:Nat}:∀(fs:List Field) (S:List (D->Prop)) (k:Nat) (xs:List (DataW H×List MemPlace)),FL enc P W k fs S->xs.length=fs.length->
  (∀(i:Nat) (f:Field),fs[i]? =some f->tr enc P W n f.type ((cs.drop f.offset).take (P.cellsOf f.type))=xs[i]?)->inW W (xs.flatMap (·.2))->cs.length=k+fs.length->
  ∃ds,F2 (dJ (λb=>b<W.heap.size) W) (cs.drop k) ds/\F2 (λg d=>g d) S ds
 | [],S,k,xs,h1,_,_,_,h5=>by
  cases S with
  | nil=>exact⟨[],by rw [List.drop_eq_nil_of_le (by simp at h5;omega)];exact .nil,.nil⟩
  | cons s S=>cases h1
 | f::fs,[],k,xs,h1,_,_,_,_=>by cases h1
 | f::fs,s::S,k,[],_,h2,_,_,_=>by cases h2
 | f::fs,s::S,k,y::xs,h1,h2,h3,h4,h5=>by
  obtain⟨a1,a2,a3,a4⟩:=h1;have b:=h3 0 f rfl;rw [a1,a2]at b;obtain⟨v,d,e,r1,r2⟩:=a3 n _ y b (λp hp=>h4 p (List.mem_flatMap.2 ⟨y,List.mem_cons_self ..,hp⟩));simp only [List.length_cons]at h5 h2;obtain⟨ds,i1,i2⟩:=xg fs S (k+1) xs a4 ah (λi g hg=>h3 (i+1) g hg) (λp hp=>h4 p (by rw [List.flatMap_cons];exact List.mem_append_right _ hp)) ah;have hk:k<cs.length:=by omega
  rw [List.drop_eq_getElem_cons hk]at e ⊢;rw [List.take_succ_cons,List.take_zero]at e;cases e;exact⟨d::ds,.cons r1 i1,.cons r2 i2⟩
end
end Go.TX
namespace Go.TX
open Go Go.AE Go.ChangeShapes Go.WideShapes Go.ChangeAt
abbrev OG(m:ak):Prop:=m.atoms.length<9223372036854775808
abbrev PG(p:List ak):Prop:=p.length<9223372036854775808/\∀m∈p,OG m
abbrev AG(a:Atom):Prop:=PG a.x/\PG a.y
abbrev TG(t:List Atom):Prop:=t.length<9223372036854775808/\∀a∈t,AG a
section
variable {H:Type} {enc:TypeId×Value->H} {P:Program} {W:World}
def gR(c:Co)(G:c.den->Prop)(d:D):Prop:=∃xs:List c.den,d= .rows c.size (aW c xs)/\xs.length<9223372036854775808/\∀x∈xs,G x
theorem UD{c:Co}{G:c.den->Prop}{t e:TypeId}(ht:P.underlying t=some (.slice e))(hc:P.cellsOf e=c.size)(hs:0<c.size)(hE:EO enc P W c G e):CP enc P W t (gR c G):=by
 intro fuel cs x h hp;obtain⟨v,xs,e,r,l,g⟩:=Cj (c:=c) ht hc hs hE h hp;exact⟨v,_,e,r,xs,rfl,l,g⟩
theorem ahw{t tF:TypeId}{f:Field}{g:D->Prop}(ht:P.underlying t=some (.struct #[f]))(hn:P.cellsOf t=1)(hf:f.offset=0/\f.type=tF)(h1:P.cellsOf tF=1)(hF:CP enc P W tF g):CP enc P W t g:=by
 intro fuel cs x h hp;obtain⟨xs,n,_,rfl,hl,hlen,hf'⟩:=DataW.trod_struct ht h;obtain⟨ds,a1,a2⟩:=xg [f] [g] 0 xs ⟨hf.1,by rw [hf.2];exact h1,by rw [hf.2];exact hF,trivial⟩ hlen (λi g hi=>hf' i g (by simpa using hi)) hp (by rw [List.length_singleton,Nat.zero_add,<-hn];exact hl);obtain⟨d,m,rfl,hd,k⟩:=f2c a2;obtain rfl:=f2n k;rw [List.drop_zero]at a1;cases a1 with | cons r s=>cases s with | nil=>exact⟨_,d,rfl,r,hd⟩
theorem ac9{t:TypeId}{fs:Array Field}(ht:P.underlying t=some (.struct fs))(hn:P.cellsOf t=fs.toList.length)(hf:FL enc P W 0 fs.toList [gI,gL]):EO enc P W .mono OG t:=by
 intro fuel cs x h hp;obtain⟨xs,n,_,rfl,hl,hlen,hf'⟩:=DataW.trod_struct ht h;obtain⟨ds,h1,h2⟩:=xg fs.toList _ 0 xs hf (by rw [hlen,Array.length_toList]) (λi f hi=>hf' i f (by rw [<-Array.getElem?_toList];exact hi)) hp ah;obtain⟨d0,m0,rfl,⟨n0,rfl⟩,k1⟩:=f2c h2;obtain⟨d1,m1,rfl,⟨l1,rfl,g1⟩,k2⟩:=f2c k1;obtain rfl:=f2n k2;exact⟨⟨n0,l1⟩,h1,g1⟩
theorem ada{t:TypeId}{fs:Array Field}(ht:P.underlying t=some (.struct fs))(hn:P.cellsOf t=fs.toList.length)(hf:FL enc P W 0 fs.toList [gI,gI,gR .mono OG,gR .mono OG]):EO enc P W .atom AG t:=by
 intro fuel cs x h hp;obtain⟨xs,n,_,rfl,hl,hlen,hf'⟩:=DataW.trod_struct ht h;obtain⟨ds,h1,h2⟩:=xg fs.toList _ 0 xs hf (by rw [hlen,Array.length_toList]) (λi f hi=>hf' i f (by rw [<-Array.getElem?_toList];exact hi)) hp ah;obtain⟨d0,m0,rfl,⟨n0,rfl⟩,k1⟩:=f2c h2;obtain⟨d1,m1,rfl,⟨n1,rfl⟩,k2⟩:=f2c k1;obtain⟨d2,m2,rfl,⟨p2,rfl,g2⟩,k3⟩:=f2c k2;obtain⟨d3,m3,rfl,⟨p3,rfl,g3⟩,k4⟩:=f2c k3;obtain rfl:=f2n k4;exact⟨⟨n0,n1,p2,p3⟩,h1,g2,g3⟩
theorem adb{t:TypeId}{fs:Array Field}(ht:P.underlying t=some (.struct fs))(hn:P.cellsOf t=fs.toList.length)(hf:FL enc P W 0 fs.toList [gR .mono OG]):EO enc P W .poly PG t:=by
 intro fuel cs x h hp;obtain⟨xs,n,_,rfl,hl,hlen,hf'⟩:=DataW.trod_struct ht h;obtain⟨ds,h1,h2⟩:=xg fs.toList _ 0 xs hf (by rw [hlen,Array.length_toList]) (λi f hi=>hf' i f (by rw [<-Array.getElem?_toList];exact hi)) hp ah;obtain⟨d0,m0,rfl,⟨p0,rfl,g0⟩,k1⟩:=f2c h2;obtain rfl:=f2n k1;exact⟨p0,h1,g0⟩
theorem ahx{t:TypeId}{fs:Array Field}(ht:P.underlying t=some (.struct fs))(hn:P.cellsOf t=fs.toList.length)(hf:FL enc P W 0 fs.toList [gR .atom AG]):EO enc P W .tab TG t:=by
 intro fuel cs x h hp;obtain⟨xs,n,_,rfl,hl,hlen,hf'⟩:=DataW.trod_struct ht h;obtain⟨ds,h1,h2⟩:=xg fs.toList _ 0 xs hf (by rw [hlen,Array.length_toList]) (λi f hi=>hf' i f (by rw [<-Array.getElem?_toList];exact hi)) hp ah;obtain⟨d0,m0,rfl,⟨p0,rfl,g0⟩,k1⟩:=f2c h2;obtain rfl:=f2n k1;exact⟨p0,h1,g0⟩
end
end Go.TX
namespace Go.TX
open Go Go.AE
def aaE(A:List PV->Prop):Trans:=λargs h n K=>A args/\h=[]/\n=0/\∀f h' j,K (.c (.d f (.bool true))) h' j
def akG{E:Tab}{f:FuncId}{A:List PV->Prop}(hc:aK E f (aaE A)){W:World}{vs:List Value}{args:List PV}(hv:F2 (bg (entry W) W) vs args)(hg:oH E (entry W) W)(ha:A args):
  Go.Calls E.P f vs.toArray W λe W'=>e= .returned (.bool true)/\RowKit.Below W.heap.size W W':=by
 refine(hc.calls args [] 0 (λr _ _=>∃f,r= .c (.d f (.bool true))) ⟨ha,rfl,rfl,λf _ _=>⟨f,rfl⟩⟩ (entry W) W vs rfl hv (RU W) hg).mono ?_;rintro e W' he;cases e with
 | returned u=>
  obtain⟨c',r,h',j,g,_,_,h1,f,rfl⟩:=he;exact⟨by rw [jv h1],Oc g⟩
 | outgrown=>exact he.elim
 | panicked _=>exact he.elim
end Go.TX
namespace Go.TX.Seat
open Go Go.AE Go.TX Go.TX.F Go.Proofs
set_option maxRecDepth 100000
theorem amg:∀t n,E.ieq t=some n->∀(xs ys:List Int),xs.length=n->ys.length=n->∀w,
  (Op.equal t (.agg (xs.map (Value.int .i64)).toArray) (.agg (ys.map (Value.int .i64)).toArray)).run E.P w= .ok (xs==ys) w/\
  (eqGuard .eql t (.tmp 0) (.tmp 0) (.agg (xs.map (Value.int .i64)).toArray) (.agg (ys.map (Value.int .i64)).toArray)).run E.P w= .ok () w:=by
 intro t n h;obtain⟨c,hc,rfl⟩:∃c,ieq t=some c/\c.size=n:=by
  have h':(ieq t).map (λc=>c.size)=some n:=h;cases hi:ieq t with
  | none=>rw [hi]at h';cases h'
  | some c=>rw [hi]at h';cases h';exact⟨c,rfl,rfl⟩
 unfold ieq at hc;split at hc
 all_goals first | (cases hc;exact aho (by kernel_rfl) (by kernel_rfl) (by kernel_rfl) (by kernel_rfl) (by kernel_rfl)) | cases hc
theorem hE:aR E:=⟨alT,amg⟩
theorem amh:∀t c,X.ieq t=some c->(c= .ins/\E.ieq t=some 4)\/(c= .iop/\E.ieq t=some 5):=by
 intro t c h;have h:ieq t=some c:=h;have e:E.ieq t=(ieq t).map λc=>c.size:=rfl
 rw [e,h];unfold ieq at h;split at h
 all_goals first | (cases h;first | exact Or.inl ⟨rfl,rfl⟩ | exact Or.inr ⟨rfl,rfl⟩) | cases h
theorem xok:XOK X E:=⟨rfl,λg c h=>(by
    first
    | (cases h;done)
    | (dsimp only [X] at h
       split at h
       · rename_i e;cases h;unfold E;dsimp only;rw [if_pos e];rfl
       · cases h)),amh⟩
theorem hm:E.P.follows .mixedOrders=true:=by kernel_rfl
structure HL(l:List (Nat×Sig)) where
 C:Cs (std 0) l
 h:∀p∈csl (std 0) l C,aK E p.1 (bT p.2.2)
abbrev hn:HL []:=⟨(),λ_ h=>by cases h⟩
abbrev hk{f:FuncId}{s:Sig}{c:Ct aJ s}{l:List (Nat×Sig)}(h:aK E f (bT c))(r:HL l):HL ((f,s)::l):=⟨(c.pre,c.fn,r.C),λp hp=>by
 rcases List.mem_cons.1 hp with rfl | hp
 .exact h
 .exact r.h p hp⟩
structure Mt{lk:aQ}{s:Sig}{an:Ann}{fn:Func}{l:List (Nat×Sig)}(f:FuncId)(g:Gt lk X E an s fn l) where
 H:HL l
 k:Fn E f (g.F H.C) (cn (g.F H.C))
section
variable {lk:aQ} {s:Sig} {an:Ann} {fn:Func} {l:List (Nat×Sig)} {f:FuncId}
@[irreducible] noncomputable def Mt.c {g:Gt lk X E an s fn l} (t:Mt f g):Ct aJ s:=cn (g.F t.H.C)
theorem Mt.cs{g:Gt lk X E an s fn l}(t:Mt f g){x:iR s.inp}{Q:iR s.out->Prop}(h:g.F t.H.C x Q):t.c.pre x=true/\Q (t.c.fn x):=by unfold Mt.c;exact t.k.cs h
theorem Mt.ok{g:Gt lk X E an s fn l}(t:Mt f g):aK E f (bT t.c):=by unfold Mt.c;exact t.k.ok
@[reducible] noncomputable def hc {r:List (Nat×Sig)} {g:Gt lk X E an s fn l} (t:Mt f g) (h:HL r):HL ((f,s)::r):=hk t.ok h
theorem mkF(hf:E.P.funcs[f]? =some fn)(g:Gt lk X E an s fn l)(H:HL l)
 (hb:fn.body.isSome=true:=by rfl) (hn:(fn.name== "runtime.NumGoroutine")=false:=by kernel_rfl):Fn E f (g.F H.C) (cn (g.F H.C)):=alJ hE xok hm hf hb (λ_=>enters_of hf hn) H.h (g.h H.C)
noncomputable def mk (g:Gt lk X E an s fn l) (hf:E.P.funcs[f]? =some fn) (H:HL l)
 (hb:fn.body.isSome=true:=by rfl) (hn:(fn.name== "runtime.NumGoroutine")=false:=by kernel_rfl):Mt f g:=⟨H,mkF hf g H hb hn⟩
end
theorem aaF{E:Tab}{f:FuncId}{c:Ct aJ {args:=[.c (.int .u64)],objs:=[],res:=[.c (.int .i64)],fV:=[]}}{g:Int->Int}(hent:Enters E.P f)(hg:(λx:Int=>(c.fn (x,())).1)=g)
  (h:∀(x:Int) (w:World),c.pre (x,())=true->Go.Calls E.P f #[.int .u64 x] w λe w'=>e= .returned (.int .i64 (g x))/\w'=w):aK E f (bT c) where
 enters:=hent
 calls:=by
  rintro args hh n K ⟨m,qs,hs,hargs,HR,hlen,cr,hcall,acr,v,kT,hvk,hK⟩ c1 w vs hcn sK Hh Gl;have key:∀f0 (x:Int),qs=[.c (.d f0 (.int .u64 x))]->kg (std m) hs {args:=[.c (.int .u64)],objs:=[],res:=[.c (.int .i64)],fV:=[]} c qs=some {ck:=[c.pre (x,())],ts:=[.i],y:=c.fn (x,()),touched:=[],pure:=true,k:=λy=>some (.c (.d true (.int .i64 y.1)),hs)}:=by
   intro f0 x e;subst e;rfl
  have hq:∃f0 x,qs=[.c (.d f0 (.int .u64 x))]:=by
   unfold kg at hcall;cases qs with
   | nil=>simp [qO]at hcall
   | cons q r=>
    cases r with
    | cons q2 r2=>
     exfalso;simp only [qO]at hcall;cases hx:Hg (std m) hs (.c (.int .u64)) q (es0 (std m) 0 [])with
     | none=>rw [hx]at hcall;simp at hcall
     | some s=>rw [hx]at hcall;simp [qO]at hcall
    | nil=>
     simp only [qO]at hcall;cases q with
     | c y=>
      simp only [Hg,extC]at hcall;cases y with
      | d f0 y=>
       cases y with
       | int k x=>
        by_cases hk:IntKind.u64=k
        .subst hk;exact⟨f0,x,rfl⟩
        .simp [hk]at hcall
       | _=>simp at hcall
      | _=>simp at hcall
     | _=>simp [Hg]at hcall
  obtain⟨f0,x,rfl⟩:=hq;rw [key f0 x rfl]at hcall;simp only [Option.some.injEq]at hcall;subst hcall;simp only [Option.some.injEq,Prod.mk.injEq]at hvk;obtain⟨rfl,rfl⟩:=hvk;have hpre:=acr _ (List.mem_singleton.2 rfl);have hv:vs=[.int .u64 x]:=by
   cases hargs with
   | cons h1 h2=>
    cases h2;cases sK with
    | cons h3 h4=>
     cases h4;cases h1 with
     | one h1=>
      cases h1 with
      | c h1=>
       cases h1 with
       | d h5 _=>
        subst h5;cases h3 with
        | c _ _ h6=>cases h6 with
         | d _ _ _ h7=>cases h7;rfl
      | agg h1=>cases h1
  subst hv;refine(h x w hpre).mono ?_;rintro e w' ⟨rfl,rfl⟩;refine⟨c1,.c (.d true (.int .i64 (g x))),hh,0,.refl _ _ _,Hh,hcn,.c _ _ (.d _ _ _ (.int _ _)),hK _ _ _ ?_ HR (.refl _ _ _) hlen⟩;rw [<-hg];exact .one (.c (.d rfl λ_=> .inl rfl))
end Go.TX.Seat
noncomputable section
namespace Go.TX.F
open Go Go.AE Go.TX Go.TX.Seat Go.Proofs
set_option maxRecDepth 100000
set_option maxHeartbeats 4000000
def aec:=mk YF Tryz.func125 hn
def Hw:=λl m h h0 h1=>aec.cs (ake l m h h0 h1:)
def aed:=mk YG Tryz.func81 (hc aec hn)
def Ck:=λa m h h0 h1=>aed.cs (akg Hw a m h h0 h1:)
def aee:=mk YH Tryz.func27 (hc aed hn)
def Ar:=λl m h h0 h1=>aee.cs (akh Ck l m h h0 h1:)
def aef:=mk YI Tryz.func6 (hc aee hn)
def Cm:=λl m h h0 h1=>aef.cs (akj Ar l m h h0 h1:)
def aeg:=mk YJ Tryz.func80 (hc aef hn)
def Cq:=λa m h h0 h1=>aeg.cs (akk Cm a m h h0 h1:)
def aeh:=mk YK Tryz.func26 (hc aeg hn)
def Au:=λl m h h0 h1=>aeh.cs (akl Cq l m h h0 h1:)
def aei:=mk YL Tryz.func5 (hc aeh hn)
def Dt:=λl m h h0 h1=>aei.cs (akm Au l m h h0 h1:)
def wB:=mk Qt Tryz.func29 hn
def ku:=λa b c=>wB.cs (agu a b c:)
def aaG:=mk Qu Tryz.func127 (hc wB hn)
def Hy:=λm hm=>aaG.cs (agA ku m hm:)
def Lx:=mk Qv Tryz.func128 hn
def qA:=λa b ha=>Lx.cs (agz a b ha:)
def yY:=mk Qw Tryz.func84 (hc aaG (hc Lx hn))
def kN:=λa ha=>yY.cs (agB Hy qA a ha:)
def aaH:=mk Qx Tryz.func85 hn
def Du:=λa n ha=>aaH.cs (agC a n ha:)
def aaI:=mk Qy Tryz.func126 hn
def Hz:=λa=>aaI.cs (agE a:)
def RV:=mk Qz Tryz.func82 (hc wB (hc yY (hc aaH (hc aaI hn))))
def xP:=λa n ha=>RV.cs (agF ku kN Du Hz a n ha:)
def Gg:=mk QA Tryz.func88 (hc Lx hn)
def lG:=λa b ha=>Gg.cs (agD qA a b ha:)
def RX:=mk QB Tryz.func83 (hc Gg hn)
def xQ:=λa b ha=>RX.cs (agG lG a b ha:)
def aaJ:=mk QC Tryz.func28 (hc RV (hc RX hn))
def LA:=λa ha=>aaJ.cs (agH xP xQ a ha:)
def rP:=mk QD Tryz.func58 hn
def fZ:=λa ha=>rP.cs (agK a ha:)
def RY:=mk QE Tryz.func89 (hc rP hn)
def xR:=λa ha=>RY.cs (agM fZ a ha:)
def LB:=mk QF Tryz.func51 (hc RV (hc RX (hc RY hn)))
def uo:=λa t ha ht hok=>LB.cs (agO xP xQ xR a t ha ht hok:)
def Gh:=mk QG Tryz.func52 (hc wB hn)
def mY:=λa=>Gh.cs (agx ku a:)
def Gi:=mk QH Tryz.func158 hn
def mZ:=λa=>Gi.cs (agy a:)
def RZ:=mk QI Tryz.func156 (hc Lx (hc Gi hn))
def xS:=λl m hl hn hm hma=>RZ.cs (agT qA mZ l m hl hn hm hma:)
def R3:=mk QJ Tryz.func157 (hc rP hn)
def Av:=λa ha=>R3.cs (agL fZ a ha:)
def aaK:=mk QK Tryz.func129 (hc yY (hc RZ (hc R3 hn)))
def HV:=λa b ha hb=>aaK.cs (agV kN xS Av a b ha hb:)
def Gj:=mk QL Tryz.func151 hn
def pG:=λa=>Gj.cs (agv a:)
def aaL:=mk QM Tryz.func130 (hc yY (hc Gi (hc rP (hc Gj hn))))
def Dv:=λa n ha=>aaL.cs (agX kN mZ fZ pG a n ha:)
def aaM:=mk QN Tryz.func159 hn
def Gm:=λa b ha hb sa sb=>aaM.cs (agU a b ha hb sa sb:)
def aaN:=mk QO Tryz.func131 (hc yY (hc Gi (hc RZ (hc aaM (hc R3 hn)))))
def HY:=λa b ha hb=>aaN.cs (agW kN mZ xS Gm Av a b ha hb:)
def aaO:=mk QS Tryz.func86 (hc aaN (hc aaK (hc aaL hn)))
def HZ:=λop x y hx hy=>aaO.cs (agR HY HV Dv op x y hx hy:)
def R4:=mk QT Tryz.func54 (hc wB hn)
def uK:=λa=>R4.cs (agw ku a:)
def LC:=mk QU Tryz.func113 (hc yY hn)
def rQ:=λa ha=>LC.cs (agJ kN a ha:)
def aaP:=mk QV Tryz.func132 (hc Gi (hc Gj hn))
def LD:=λop a b=>aaP.cs (agI pG mZ op a b:)
def aaQ:=mk QW Tryz.func133 (hc rP hn)
def Ia:=λop n y hy=>aaQ.cs (agP fZ op n y hy:)
def aaR:=mk QX Tryz.func87 (hc Gg (hc rP (hc aaP (hc R4 (hc LC (hc aaQ hn))))))
def Ib:=λop x y hx hy=>aaR.cs (agQ lG fZ LD uK rQ Ia op x y hx hy:)
end Go.TX.F
end
noncomputable section
namespace Go.TX.F
open Go Go.AE Go.TX Go.TX.Seat Go.Proofs
set_option maxRecDepth 100000
set_option maxHeartbeats 4000000
def aaS:=mk QY Tryz.func31 (hc Gh (hc Gg (hc aaO (hc aaR (hc LB hn)))))
def Od:=λop x y t hop hx hy ht hok=>aaS.cs (agS mY lG HZ Ib uo op x y t hop hx hy ht hok:)
def aaT:=mk QZ Tryz.func32 (hc RY hn)
def Ic:=λa ha=>aaT.cs (agN xR a ha:)
def qB:=mk YM Tryz.func94 hn
def gV:=λa b c=>qB.cs (ajk a b c:)
def aaU:=mk YN Tryz.func36 (hc qB hn)
def Di:=λa=>aaU.cs (ajm gV a:)
def aej:=mk YO Tryz.func100 hn
def Aw:=λa n=>aej.cs (ajq a n:)
def aaV:=mk Q0 Tryz.func144 (hc aej hn)
def kC:=λa n ha=>aaV.cs (agi Aw a n ha:)
def aek:=mk YP Tryz.func99 (hc aaV hn)
def jg:=λa n ha=>aek.cs (ajr (λz1 z2 z3=>(kC z1 z2 z3).1) (λz1 z2 z3=>(kC z1 z2 z3).2) a n ha:)
def aaW:=mk YQ Tryz.func38 (hc aek hn)
def uL:=λa n ha=>aaW.cs (ajs (λz1 z2 z3=>(jg z1 z2 z3).1) (λz1 z2 z3=>(jg z1 z2 z3).2) a n ha:)
def ahy:=mk afQ Tryz.func160 hn
def uM:=λa=>ahy.cs (alW a:)
def ade:=mk afR Tryz.func139 (hc ahy hn)
def wC:=λa b=>ade.cs (alY uM a b:)
def aaX:=mk Q5 Tryz.func95 (hc ade hn)
def qK:=λa ha=>aaX.cs (agh wC a ha:)
def ahz:=mk afS Tryz.func140 hn
def Ay:=λa b=>ahz.cs (alZ a b:)
def adf:=mk afT Tryz.func141 (hc ahy hn)
def ni:=λa b=>adf.cs (alX uM a b:)
def ael:=mk YR Tryz.func142 (hc adf hn)
def rR:=λa b ha=>ael.cs (ajo ni a b ha:)
def Oe:=mk YS Tryz.func96 (hc ahz (hc adf (hc ael hn)))
def jP:=λa b ha=>Oe.cs (ajp ni rR Ay a b ha:)
def aem:=mk YT Tryz.func98 hn
def Gn:=λm=>aem.cs (ajt m:)
def aaY:=mk Q6 Tryz.func143 (hc aem hn)
def iY:=λa ha=>aaY.cs (agj (G:=(λm:ak=>0<m.atoms.length/\m.atoms.getD 0 default<0)) Gn a ha:)
def aen:=mk YU Tryz.func97 (hc aaY hn)
def iM:=λa ha=>aen.cs (aju (G:=(λm:ak=>0<m.atoms.length/\m.atoms.getD 0 default<0)) iY a ha:)
def Dj:=mk YV Tryz.func37 (hc qB (hc aaW (hc aaX (hc Oe (hc aen hn)))))
def jo:=λa ha=>Dj.cs (ajv gV uL qK jP iM a ha:)
def aaZ:=mk YW Tryz.func135 (hc qB hn)
def Az:=λa=>aaZ.cs (ajn gV a:)
def aa0:=mk YX Tryz.func92 (hc qB (hc aaU (hc aaW (hc Dj (hc aaZ hn)))))
def nu:=λa n ha=>aa0.cs (ajJ gV Di uL jo Az a n ha:)
def Gp:=mk YZ Tryz.func102 (hc ahz (hc adf (hc Oe hn)))
def oM:=λa b ha=>Gp.cs (ajw Ay ni jP a b ha:)
def UE:=mk Y0 Tryz.func121 (hc Gp hn)
def kX:=λa b ha=>UE.cs (ajx oM a b ha:)
def aeo:=mk Za Tryz.func138 (hc UE hn)
def xB:=λa b ha=>aeo.cs (ajG kX a b ha:)
def aep:=mk Zb Tryz.func137 (hc aeo hn)
def wD:=λa b hb=>aep.cs (ajH xB a b hb:)
def aa1:=mk Q7 Tryz.func136 (hc aep hn)
def iZ:=λa b ha hb=>aa1.cs (agk wD a b ha hb:)
def aa2:=mk Zc Tryz.func93 (hc aa1 hn)
def qC:=λa b ha hb=>aa2.cs (ajI iZ a b ha hb:)
end Go.TX.F
end
noncomputable section
namespace Go.TX.F
open Go Go.AE Go.TX Go.TX.Seat Go.Proofs
set_option maxRecDepth 100000
set_option maxHeartbeats 4000000
def aa3:=mk Zd Tryz.func35 (hc aa0 (hc aa2 hn))
def AA:=λa ha=>aa3.cs (ajK nu qC a ha:)
def UF:=mk Ze Tryz.func68 (hc qB hn)
def oN:=λa=>UF.cs (ajA gV a:)
def Gq:=mk Zf Tryz.func120 (hc Dj hn)
def xU:=λa ha=>Gq.cs (ajC jo a ha:)
def aer:=mk Zg Tryz.func105 hn
def Cr:=λa ha=>aer.cs (ajD a ha:)
def UG:=mk Zh Tryz.func165 hn
def qD:=λa=>UG.cs (ajy a:)
def Gr:=mk Zi Tryz.func169 (hc Oe hn)
def AJ:=λa b ha=>Gr.cs (ajE jP a b ha:)
def aa4:=mk Q8 Tryz.func185 (hc Gr hn)
def jq:=λa b d hd h1 h2 h3=>aa4.cs (agn AJ a b d hd h1 h2 h3:)
def aa5:=mk Q9 Tryz.func194 hn
def kD:=λa b n d hl h1 h2 h3 h4=>aa5.cs (agl a b n d hl h1 h2 h3 h4:)
def Cu:=mk Ra Tryz.func192 (hc aa5 hn)
def lu:=λa m b d hl h1 h2 h3 h4=>Cu.cs (agm kD a m b d hl h1 h2 h3 h4:)
def cK:Nat->Ct aJ Qn
 | 0=>never Qn
 | k+1=>cn (FZ.F (Gr.c.pre,Gr.c.fn,Cu.c.pre,Cu.c.fn,(cK k).pre,(cK k).fn,()))
def kK:∀k:Nat,aK E 186 (bT (cK k))/\∀(a m b:Int) (d:List ak),F4 a m b d->b-a<k->(cK k).pre (a,m,b,d,())=true/\Mrg d ((cK k).fn (a,m,b,d,())).1 a b
 | 0=>⟨mX (enters_of Tryz.func186 (by kernel_rfl) rfl),λa m b d h1 h2=>(by have g1:=h1.h2;have g2:=h1.h3;omega)⟩
 | k+1=>by
  have ih:=kK k;have t:Fn E 186 (FZ.F (Gr.c.pre,Gr.c.fn,Cu.c.pre,Cu.c.fn,(cK k).pre,(cK k).fn,())) (cK (k+1)):=mkF Tryz.func186 FZ (hc Gr (hc Cu (hk ih.1 hn)));exact⟨t.ok,λa m b d h1 h2=>t.cs (agp AJ lu (k:Int) ih.2 a m b d h1 ah)⟩
def ahA:Ct aJ Qn:=cK 1000000000
def ahB:aK E 186 (bT ahA):=(kK 1000000000).1
def aes{a m b:Int}{d:List ak}(h:F4 a m b d):b-a< ((1000000000:Nat):Int):=by have g0:=h.sh.1;have g1:=h.h1;have g2:=h.h4;omega
def ahC:=λa m b d h=>((kK 1000000000).2 a m b d h (aes h)).1
def ahD:=λa m b d h=>((kK 1000000000).2 a m b d h (aes h)).2
def aa6:=mk Rb Tryz.func174 (hc aa4 (hk ahB hn))
def lC:=λn d hd hn=>aa6.cs (agq jq (λz1 z2 z3 z4 z5=>⟨ahC z1 z2 z3 z4 z5,ahD z1 z2 z3 z4 z5⟩) n d hd hn:)
def aa7:=mk Rc Tryz.func168 (hc aa6 hn)
def iE:=λd hd=>aa7.cs (agr lC d hd:)
def aa8:=mk Zj Tryz.func161 (hc Oe (hc Dj (hc UG (hc aer (hc aa7 hn)))))
def Gs:=λl hl hc=>aa8.cs (ajN jP jo qD Cr iE l hl hc:)
def aa9:=mk Rf Tryz.func170 hn
def jT:=λn h1 h2=>aa9.cs (ags n h1 h2:)
def aeu:=mk Zk Tryz.func162 (hc aa9 hn)
def jD:=λa b ha hb=>aeu.cs (ajO jT a b ha hb:)
def aev:=mk Zl Tryz.func145 (hc Dj (hc aa8 (hc aeu hn)))
def Ie:=λa b ha hb=>aev.cs (ajQ jo Gs jD a b ha hb:)
def abb:=mk Rh Tryz.func171 hn
def uQ:=λn h1 h2=>abb.cs (agt n h1 h2:)
def aew:=mk Zm Tryz.func163 (hc abb hn)
def sV:=λa b ha hb=>aew.cs (ajP uQ a b ha hb:)
def abd:=mk Ri Tryz.func175 (hc ade hn)
def mF:=λa b d hd h1 h2=>abd.cs (ag0 wC a b d hd h1 h2:)
def ahE:Ct aJ Yr:=never Yr
def ahF:aK E 176 (bT ahE):=mX (enters_of Tryz.func176 (by kernel_rfl) rfl)
end Go.TX.F
end
noncomputable section
namespace Go.TX.F
open Go Go.AE Go.TX Go.TX.Seat Go.Proofs
set_option maxRecDepth 100000
set_option maxHeartbeats 4000000
def ahG:Ct aJ Yt:=never Yt
def ahH:aK E 177 (bT ahG):=mX (enters_of Tryz.func177 (by kernel_rfl) rfl)
def ahI:Ct aJ Qo:=never Qo
def ahJ:aK E 178 (bT ahI):=mX (enters_of Tryz.func178 (by kernel_rfl) rfl)
def ahK:Ct aJ Yu:=never Yu
def ahL:aK E 179 (bT ahK):=mX (enters_of Tryz.func179 (by kernel_rfl) rfl)
def ahM:Ct aJ Qp:=never Qp
def ahN:aK E 180 (bT ahM):=mX (enters_of Tryz.func180 (by kernel_rfl) rfl)
def ahO:Ct aJ Qq:=never Qq
def ahP:aK E 181 (bT ahO):=mX (enters_of Tryz.func181 (by kernel_rfl) rfl)
def ahQ:Ct aJ Qr:=never Qr
def ahR:aK E 182 (bT ahQ):=mX (enters_of Tryz.func182 (by kernel_rfl) rfl)
def oO:Ct aJ FX:=never FX
def oP:aK E 172 (bT oO):=mX (enters_of Tryz.func172 (by kernel_rfl) rfl)
def abe:=mk Rj Tryz.func172 (hc ade (hc abd (hk ahF (hk ahH (hk ahJ (hk ahL (hk ahN (hk ahP (hk ahR (hk oP hn))))))))))
def pI:=λa b k d hd h1 h2=>abe.cs (ag1 mF _ _ _ _ _ _ _ _ _ _ _ _ _ _ _ _ a b k d hd h1 h2:)
def aex:Ct aJ adU:={pre:=λx=>decide ((0:Int)<=x.1)&&decide ((x.1:Int)<=18446744073709551615),fn:=λx=>((Lib.bitLen (x.1:Int).toNat:Int),())}
def akH(n:Int)(h1:0<=n)(h2:n<=18446744073709551615):aex.pre (n,())=true:=by
 show(decide _&&decide _)=true;simp only [Bool.and_eq_true,decide_eq_true_eq];exact⟨h1,h2⟩
def akI:aK E 173 (bT aex):=
 aaF (enters_of Tryz.func173 (by kernel_rfl) rfl) rfl λx w h=>by
  have h':(decide ((0:Int)<=x)&&decide (x<=18446744073709551615))=true:=h;simp only [Bool.and_eq_true,decide_eq_true_eq]at h';exact bits_Len x w h'.1 h'.2
def abf:=mk Rk Tryz.func164 (hc abe (hk akI hn))
def uR:=λa ha=>abf.cs (ag2 pI akH a ha:)
def abg:=mk Zn Tryz.func147 (hc Dj (hc UG (hc aa8 (hc aew (hc abf hn)))))
def xV:=λa b ha hb=>abg.cs (ajR jo qD Gs sV uR a b ha hb:)
def JC:=mk Zo Tryz.func153 (hc qB hn)
def nA:=λa=>JC.cs (ajl gV a:)
def aey:=mk Zp Tryz.func146 (hc Dj (hc UF (hc JC (hc abg hn))))
def Dw:=λa n ha=>aey.cs (ajS jo oN nA xV a n ha:)
def aez:=mk Zq Tryz.func148 (hc JC (hc UG hn))
def LG:=λop a b=>aez.cs (ajz nA qD op a b:)
def aeA:=mk Zr Tryz.func101 (hc UE (hc UF (hc aez (hc aev (hc abg (hc aey (hc Gq hn)))))))
def Ig:=λop x y hx hy=>aeA.cs (ajT kX oN LG Ie xV Dw xU op x y hx hy:)
def aeB:=mk Zt Tryz.func149 hn
def jU:=λa=>aeB.cs (ajF a:)
def abh:=mk Zu Tryz.func103 (hc aa0 (hc aa2 (hc aeB hn)))
def qW:=λt a ht ha=>abh.cs (ajL nu qC jU t a ht ha:)
def abj:=mk Zv Tryz.func104 (hc qB hn)
def wE:=λa=>abj.cs (ajB gV a:)
def aeC:=mk Zw Tryz.func39 (hc Gp (hc aeA (hc abh (hc abj hn))))
def Cv:=λt op x y ht hx hy=>aeC.cs (ajU oM Ig qW wE t op x y ht hx hy:)
def aeD:=mk Zx Tryz.func150 hn
def Ih:=λa b hlen=>aeD.cs (akf a b hlen:)
def aeE:=mk Zy Tryz.func107 (hc aeD hn)
def Cw:=λa b h=>aeE.cs (akn Ih a b h:)
end Go.TX.F
end
noncomputable section
namespace Go.TX.F
open Go Go.AE Go.TX Go.TX.Seat Go.Proofs
set_option maxRecDepth 100000
set_option maxHeartbeats 4000000
def aeF:=mk Zz Tryz.func43 (hc aeE hn)
def AO:=λa b hD=>aeF.cs (ako Cw a b hD:)
def Og:=mk ZA Tryz.func12 (hc aeF hn)
def kP:=λa b hD=>Og.cs (akp AO a b hD:)
def aeG:=mk ZB Tryz.func106 (hc Og hn)
def Cx:=λa b h=>aeG.cs (akq kP a b h:)
def aeH:=mk ZE Tryz.func42 (hc aeG hn)
def AP:=λa b hD=>aeH.cs (akr Cx a b hD:)
def aeI:=mk ZF Tryz.func11 (hc aeH hn)
def Dx:=λa b hD=>aeI.cs (aks AP a b hD:)
def aeJ:=mk ZG Tryz.func109 hn
def Dy:=λl k h0 h1 hm=>aeJ.cs (akt l k h0 h1 hm:)
def Oh:=mk ZH Tryz.func47 (hc aeJ hn)
def iT:=λl k h0 h1 hm=>Oh.cs (aku Dy l k h0 h1 hm:)
def aeK:=mk ZI Tryz.func46 (hc Oh hn)
def xC:=λl k h0 h1 hm=>aeK.cs (akw iT l k h0 h1 hm:)
def aeL:=mk ZJ Tryz.func15 (hc aeK hn)
def AQ:=λl k h0 h1 hm=>aeL.cs (akx xC l k h0 h1 hm:)
def aeM:=mk ZK Tryz.func16 (hc Oh hn)
def yZ:=λl k h0 h1 hm=>aeM.cs (akv iT l k h0 h1 hm:)
def aeN:=mk ZL Tryz.func48 hn
def Gu:=λl m h h0 h1=>aeN.cs (aj7 l m h h0 h1:)
def aeO:=mk ZM Tryz.func17 (hc aeN hn)
def Cy:=λb m h h0 h1=>aeO.cs (aj8 Gu b m h h0 h1:)
def abk:=mk Rl Tryz.func166 (hc wB hn)
def Gw:=λk=>abk.cs (ag4 ku k:)
def R5:=mk Rm Tryz.func152 (hc abk hn)
def AU:=λops x n h1=>R5.cs (ag5 Gw ops x n h1:)
def abl:=mk Rn Tryz.func110 (hc Gj (hc wB (hc R5 hn)))
def Oi:=λops i len h0 h1 h3=>abl.cs (ag6 pG ku AU ops i len h0 h1 h3:)
def abm:=mk Ro Tryz.func111 (hc Gj (hc R5 hn))
def LH:=λb=>abm.cs (ag7 pG AU b:)
def abn:=mk Rp Tryz.func49 (hc wB (hc abm (hc abl hn)))
def Oj:=λb h2=>abn.cs (ag8 ku LH Oi b h2:)
def abo:=mk Rq Tryz.func50 (hc Gh hn)
def Ii:=abo.cs (agZ mY:)
def abp:=mk Rs Tryz.func53 hn
def Ol:=λk l=>abp.cs (aha k l:)
def abq:=mk Rt Tryz.func112 hn
def Gx:=λl k hl=>abq.cs (ahb l k hl:)
def abr:=mk Rv Tryz.func55 (hc Gh (hc LB (hc abq hn)))
def Gy:=λl k t hl ht hk=>abr.cs (ahc mY uo Gx l k t hl ht hk:)
def LJ:=mk Rw Tryz.func57 (hc rP hn)
def qE:=λa ha=>LJ.cs (ag9 fZ a ha:)
def abt:=mk Rx Tryz.func56 (hc rP (hc LJ hn))
def Gz:=λo x y r hx hy hr=>abt.cs (ahd fZ qE o x y r hx hy hr:)
def abu:=mk Ry Tryz.func59 hn
def R6:=λb=>abu.cs (ahf b:)
def abv:=mk Rz Tryz.func60 hn
def R7:=λb=>abv.cs (ahg b:)
def R8:=mk RA Tryz.func114 hn
def Dk:=λs k=>R8.cs (ahe s k:)
def abw:=mk RD Tryz.func115 (hc LC (hc Gg (hc R8 hn)))
def Om:=λs n hs hx hy hf=>abw.cs (ahh rQ lG Dk s n hs hx hy hf:)
def abx:=mk RF Tryz.func61 (hc LC (hc yY (hc rP (hc R8 (hc abw (hc LJ hn))))))
def Ij:=λs n hs=>abx.cs (ahi rQ kN fZ Dk Om qE s n hs:)
def aby:=mk RG Tryz.func18 (hc abn (hc Gh (hc R4 (hc abx (hc abo (hc aaJ (hc rP (hc aaT (hc aaS (hc LB (hc abr (hc abt (hc abp (hc LJ (hc abu (hc abv hn))))))))))))))))
def Ik:=λt b ht hb=>aby.cs (ahj Oj mY uK Ij Ii LA fZ Ic Od uo Gy Gz Ol qE R6 R7 t b ht hb:)
def abz:=mk ZN Tryz.func65 (hc qB hn)
def uN:=λo=>abz.cs (ajX gV o:)
def aeP:=mk ZO Tryz.func167 (hc qB hn)
def wF:=λo=>aeP.cs (ajY gV o:)
end Go.TX.F
end
noncomputable section
namespace Go.TX.F
open Go Go.AE Go.TX Go.TX.Seat Go.Proofs
set_option maxRecDepth 100000
set_option maxHeartbeats 4000000
def ahS:=mk afU Tryz.func154 (hc aeP (hc qB hn))
def oD:=λb x n h0 h1 h2=>ahS.cs (al2 wF gV b x n h0 h1 h2:)
def akJ:=mk afV Tryz.func117 (hc ahS (hc abz (hc JC (hc qB (hc aaU (hc aaZ hn))))))
def xD:=λb i h0 h1 h2 h3=>akJ.cs (al3 oD uN nA gV Di Az b i h0 h1 h2 h3:)
def ahT:=mk afW Tryz.func70 hn
def nI:=λb=>ahT.cs (al4 b:)
def akK:=mk afX Tryz.func118 (hc ahT (hc ahS (hc JC (hc qB hn))))
def wG:=λb h2=>akK.cs (al5 nI oD nA gV b h2:)
def ahU:=mk afY Tryz.func63 (hc akK (hc akJ (hc qB hn)))
def Dl:=λb h2=>ahU.cs (al6 wG xD gV b h2:)
def abA:=mk ZP Tryz.func69 (hc abj (hc abh hn))
def sW:=λkd k t fl ht=>abA.cs (aj0 wE qW kd k t fl ht:)
def aeQ:=mk ZQ Tryz.func64 (hc abA hn)
def AV:=λt fl ht hl=>aeQ.cs (aj1 sW t fl ht hl:)
def akL:=mk afZ Tryz.func66 (hc qB hn)
def AX:=λo=>akL.cs (al1 gV o:)
def aeR:=mk ZR Tryz.func67 hn
def jH:=λa h0 h1=>aeR.cs (aj2 a h0 h1:)
def Oo:=mk ZU Tryz.func122 (hc JC hn)
def Il:=λr a b=>Oo.cs (ajZ nA r a b:)
def abB:=mk ZV Tryz.func73 (hc Og hn)
def qX:=λa b hD=>abB.cs (aky kP a b hD:)
def aeS:=mk ZW Tryz.func123 (hc Og (hc abB hn))
def AY:=λa b h=>aeS.cs (akz kP qX a b h:)
def aeT:=mk ZX Tryz.func72 (hc aeS hn)
def y7:=λa b hD=>aeT.cs (akA AY a b hD:)
def aeU:=mk ZY Tryz.func21 (hc aeT (hc Og (hc abB hn)))
def Dz:=λa b h=>aeU.cs (akB y7 kP qX a b h:)
def aeV:=mk Z0 Tryz.func124 hn
def Im:=λa b=>aeV.cs (aj4 a b:)
def aeW:=mk Z4 Tryz.func74 (hc aeV hn)
def GA:=λa b hlen=>aeW.cs (aj5 Im a b hlen:)
def aeX:=mk Z5 Tryz.func22 (hc aeW hn)
def Cz:=λa b h=>aeX.cs (aj6 GA a b h:)
def abC:=mk Z6 Tryz.func79 (hc Oh hn)
def oU:=λl k h0 hl h1 hm=>abC.cs (akC iT l k h0 hl h1 hm:)
def aeY:=mk Z7 Tryz.func78 (hc Oh (hc abC hn))
def wH:=λl k h0 hs h1 hm=>aeY.cs (akE iT oU l k h0 hs h1 hm:)
def aeZ:=mk Z8 Tryz.func25 (hc aeY (hc aeM (hc abC hn)))
def AZ:=λs k h0 hs h1 hm=>aeZ.cs (akF wH yZ oU s k h0 hs h1 hm:)
end Go.TX.F
end
namespace Go.TX.Seat
open Go Go.AE Go.TX Go.Proofs
variable {G:fO} {dr:jI} {args:List PV} {h:Heap} {n:Nat} {K:PV->Heap->Nat->Prop}
def rT(p:List ak):Prop:=p.length<=gX/\∀m∈p,m.atoms.length<=gX
def OB(d:List D):Prop:=∃m:ak,d=kQ m/\m.atoms.length<=gX
def PB(d:List D):Prop:=∃p:List ak,d=jA p/\rT p
def AB(d:List D):Prop:=∃a:Atom,d=iG a/\rT a.x/\rT a.y
def TB(d:List D):Prop:=∃t:List Atom,d=[.rows 4 (t.map iG)]/\t.length<=gX/\∀a∈t,rT a.x/\rT a.y
def IB(d:List D):Prop:=∃o:IOp,d=Ni o
def BB(d:List D):Prop:=∃b:Blk,d=oJ b/\b.ops.length<=gX
abbrev NB(kd:IntKind):List (List D)->Prop:=ToB true 1 λd=>∃v,d=[.int kd v]
theorem adg{xs:List Int}(h:xs.length<=gX):NB .i64 (xs.map WU):=by
 refine⟨by simpa using h,λd hd=> ?_⟩;obtain⟨v,_,rfl⟩:=List.mem_map.1 hd;refine⟨rfl,λe=>(nomatch e),λ_ j hj=> ?_,v,rfl⟩
 match j,hj with
 | 0,_=>rfl
theorem abD{p:List ak}(h:rT p):ToB false 2 OB (p.map kQ):=by
 refine⟨by simpa using h.1,λd hd=> ?_⟩;obtain⟨m,hm,rfl⟩:=List.mem_map.1 hd;exact⟨rfl,λ_=>⟨1,by decide,rfl⟩,λe=>(nomatch e),m,rfl,h.2 m hm⟩
theorem abE{t:List Atom}(h:t.length<=gX)(h2:∀a∈t,rT a.x/\rT a.y):ToB false 4 AB (t.map iG):=by
 refine⟨by simpa using h,λd hd=> ?_⟩;obtain⟨m,hm,rfl⟩:=List.mem_map.1 hd;exact⟨rfl,λ_=>⟨2,by decide,rfl⟩,λe=>(nomatch e),m,rfl,h2 m hm⟩
theorem adh{l:List IOp}(h:l.length<=gX):ToB true 5 IB (l.map Ni):=by
 refine⟨by simpa using h,λd hd=> ?_⟩;obtain⟨m,hm,rfl⟩:=List.mem_map.1 hd;refine⟨rfl,λe=>(nomatch e),λ_ j hj=> ?_,m,rfl⟩
 match j,hj with
 | 0,_=>rfl
 | 1,_=>rfl
 | 2,_=>rfl
 | 3,_=>rfl
 | 4,_=>rfl
theorem abF(hR:yL 1 (NB .i64) args h n K):dh E G dr Tryz.f134 (Tryz.f134.body.getD .skip) args h n K:=
 XZ rfl rfl (by decide) rfl rfl rfl rfl rfl rfl rfl rfl rfl hR
theorem Oq(hG:G 134=some (yL 1 (NB .i64)))(hR:oK 2 OB args h n K):dh E G dr Tryz.f91 (Tryz.f91.body.getD .skip) args h n K:=by
 refine BR rfl (.i _ _ _ (.n 1 .nil)) rfl (by decide) (by decide) rfl rfl (by decide) hR λca da s hr hd hB W hK=> ?_
 obtain⟨m,rfl,hm⟩:=hB;refine W.sc hr rfl rfl rfl rfl rfl rfl rfl rfl (by decide) (by decide) trivial (by decide) λs W=> ?_
 refine W.ls hr rfl rfl rfl rfl rfl rfl rfl rfl rfl rfl (by decide) (by decide) hG rfl (adg hm) (by decide) λs W=> ?_
 exact W.fin rfl rfl (by decide) (by decide) rfl hK
theorem LK(hG:G 91=some (oK 2 OB))(hR:yL 2 (ToB false 2 OB) args h n K):dh E G dr Tryz.f34 (Tryz.f34.body.getD .skip) args h n K:=
 KO false rfl rfl rfl rfl (.i _ _ _ (.n 1 .nil)) rfl (λ_=>⟨1,by decide,rfl⟩) (λe=>nomatch e) (by decide) (by decide) hG rfl rfl rfl rfl rfl rfl rfl rfl rfl hR
theorem Ou(hG:G 34=some (yL 2 (ToB false 2 OB)))(hR:oK 1 PB args h n K):dh E G dr Tryz.f9 (Tryz.f9.body.getD .skip) args h n K:=by
 refine BR rfl (.n 2 .nil) rfl (by decide) (by decide) rfl rfl (by decide) hR λca da s hr hd hB W hK=> ?_
 obtain⟨p,rfl,hp⟩:=hB;refine W.ls hr rfl rfl rfl rfl rfl rfl rfl rfl rfl rfl (by decide) (by decide) hG rfl (abD hp) (by decide) λs W=> ?_
 exact W.fin rfl rfl (by decide) (by decide) rfl hK
theorem Ov(hG:G 9=some (oK 1 PB))(hR:oK 4 AB args h n K):dh E G dr Tryz.f90 (Tryz.f90.body.getD .skip) args h n K:=by
 refine BR rfl (.i _ _ _ (.i _ _ _ (.n 2 (.n 2 .nil)))) rfl (by decide) (by decide) rfl rfl (by decide) hR λca da s hr hd hB W hK=> ?_
 obtain⟨a,rfl,hx,hy⟩:=hB;refine W.sc hr rfl rfl rfl rfl rfl rfl rfl rfl (by decide) (by decide) trivial (by decide) λs W=> ?_
 refine W.sc hr rfl rfl rfl rfl rfl rfl rfl rfl (by decide) (by decide) trivial (by decide) λs W=> ?_
 refine W.el hr rfl rfl rfl rfl rfl rfl rfl rfl rfl rfl (by decide) (by decide) (by decide) hG rfl ⟨a.x,rfl,hx⟩ (by decide) λs W=> ?_
 refine W.el hr rfl rfl rfl rfl rfl rfl rfl rfl rfl rfl (by decide) (by decide) (by decide) hG rfl ⟨a.y,rfl,hy⟩ (by decide) λs W=> ?_
 exact W.fin rfl rfl (by decide) (by decide) rfl hK
theorem LM(hG:G 90=some (oK 4 AB))(hR:yL 4 (ToB false 4 AB) args h n K):dh E G dr Tryz.f33 (Tryz.f33.body.getD .skip) args h n K:=
 KO false rfl rfl rfl rfl (.i _ _ _ (.i _ _ _ (.n 2 (.n 2 .nil)))) rfl (λ_=>⟨2,by decide,rfl⟩) (λe=>nomatch e) (by decide) (by decide) hG rfl rfl rfl rfl rfl rfl rfl rfl rfl hR
theorem R9(hG:G 33=some (yL 4 (ToB false 4 AB)))(hR:oK 1 TB args h n K):dh E G dr Tryz.f8 (Tryz.f8.body.getD .skip) args h n K:=by
 refine BR rfl (.n 4 .nil) rfl (by decide) (by decide) rfl rfl (by decide) hR λca da s hr hd hB W hK=> ?_
 obtain⟨p,rfl,hp,hp2⟩:=hB;refine W.ls hr rfl rfl rfl rfl rfl rfl rfl rfl rfl rfl (by decide) (by decide) hG rfl (abE hp hp2) (by decide) λs W=> ?_
 exact W.fin rfl rfl (by decide) (by decide) rfl hK
theorem abG(hR:oK 5 IB args h n K):dh E G dr Tryz.f116 (Tryz.f116.body.getD .skip) args h n K:=by
 refine BR rfl (.i _ _ _ (.i _ _ _ (.i _ _ _ (.i _ _ _ (.i _ _ _ .nil))))) rfl (by decide) (by decide) rfl rfl (by decide) hR λca da s hr hd hB W hK=> ?_
 obtain⟨a,rfl⟩:=hB;refine W.sc hr rfl rfl rfl rfl rfl rfl rfl rfl (by decide) (by decide) trivial (by decide) λs W=> ?_
 refine W.sc hr rfl rfl rfl rfl rfl rfl rfl rfl (by decide) (by decide) trivial (by decide) λs W=> ?_
 refine W.sc hr rfl rfl rfl rfl rfl rfl rfl rfl (by decide) (by decide) trivial (by decide) λs W=> ?_
 refine W.sc hr rfl rfl rfl rfl rfl rfl rfl rfl (by decide) (by decide) trivial (by decide) λs W=> ?_
 refine W.sc hr rfl rfl rfl rfl rfl rfl rfl rfl (by decide) (by decide) trivial (by decide) λs W=> ?_
 exact W.fin rfl rfl (by decide) (by decide) rfl hK
theorem VR(hG:G 116=some (oK 5 IB))(hR:yL 5 (ToB true 5 IB) args h n K):dh E G dr Tryz.f62 (Tryz.f62.body.getD .skip) args h n K:=
 KO true rfl rfl rfl rfl (.i _ _ _ (.i _ _ _ (.i _ _ _ (.i _ _ _ (.i _ _ _ .nil))))) rfl (λe=>nomatch e) (λ_=> .d _ _ (.d _ _ (.d _ _ (.d _ _ (.d _ _ .nil))))) (by decide) (by decide) hG rfl rfl rfl rfl rfl rfl rfl rfl rfl hR
theorem Ow(hG:G 62=some (yL 5 (ToB true 5 IB)))(hR:oK 7 BB args h n K):dh E G dr Tryz.f19 (Tryz.f19.body.getD .skip) args h n K:=by
 refine BR rfl (.i _ _ _ (.i _ _ _ (.n 5 (.i _ _ _ (.i _ _ _ (.i _ _ _ (.i _ _ _ .nil))))))) rfl (by decide) (by decide) rfl rfl (by decide) hR λca da s hr hd hB W hK=> ?_
 obtain⟨b,rfl,hb⟩:=hB;refine W.sc hr rfl rfl rfl rfl rfl rfl rfl rfl (by decide) (by decide) trivial (by decide) λs W=> ?_
 refine W.sc hr rfl rfl rfl rfl rfl rfl rfl rfl (by decide) (by decide) trivial (by decide) λs W=> ?_
 refine W.ls hr rfl rfl rfl rfl rfl rfl rfl rfl rfl rfl (by decide) (by decide) hG rfl (adh hb) (by decide) λs W=> ?_
 refine W.sc hr rfl rfl rfl rfl rfl rfl rfl rfl (by decide) (by decide) trivial (by decide) λs W=> ?_
 refine W.sc hr rfl rfl rfl rfl rfl rfl rfl rfl (by decide) (by decide) trivial (by decide) λs W=> ?_
 refine W.sc hr rfl rfl rfl rfl rfl rfl rfl rfl (by decide) (by decide) trivial (by decide) λs W=> ?_
 refine W.sc hr rfl rfl rfl rfl rfl rfl rfl rfl (by decide) (by decide) trivial (by decide) λs W=> ?_
 exact W.fin rfl rfl (by decide) (by decide) rfl hK
end Go.TX.Seat
namespace Go.TX.Seat
open Go Go.AE Go.TX Go.Proofs
variable {G:fO} {dr:jI} {args:List PV} {h:Heap} {n:Nat} {K:PV->Heap->Nat->Prop}
theorem ami:MkS mkI ctI (λ_ i=>(i:Int)) (λk _=>k) (λ_=>1) where
 len:=Ah
 get:=λk l i h=>by
  have h':i< (mkI k l).length:=by rw [Ah];exact h
  have:=Qe k l i h;rw [List.getElem?_eq_getElem h',<-this];simp [List.getD,h']
 z:=λ_=>rfl
 step:=λ_ i _=>by push_cast;rfl
 all:=λ_=>rfl
 le:=λl i h=>by unfold ctI;omega
 nn:=λ_ i=>by omega
theorem amj:MkS mkM ctM nQ (λk m=>⟨k,mkI (k+1) m.atoms⟩) (λm=>1+ctI m.atoms):=
 ⟨Kv,Kw,Jj,λl i h=>by rw [BL l i h,Int.add_assoc],FJ,Kz,Ky⟩
theorem amk:MkS mkA ctA kJ (λk a=>⟨k,k+1,mkM (k+2) a.x,mkM (k+2+ctM a.x) a.y⟩) (λa=>2+ctM a.x+ctM a.y):=
 ⟨TK,KA,Jk,λl i h=>by rw [BM l i h];omega,FK,KD,KC⟩
theorem aml:MkS mkP ctP pF mkM ctM:=⟨KF,KJ,Jl,BO,FP,KI,KH⟩
theorem amm:MkS mkE ctE jd (λk e=>⟨k,k+1,mkM (k+2) e.x,mkM (k+2+ctM e.x) e.y,mkP (k+2+ctM e.x+ctM e.y) e.regs⟩) (λe=>2+ctM e.x+ctM e.y+ctP e.regs):=
 ⟨KG,KN,Jm,λl i h=>by rw [BP l i h];omega,FQ,KM,KL⟩
def ahV(k:Int)(_:IOp):IOp:=⟨k,k+1,k+1+1,k+1+1+1,k+1+1+1+1⟩
def mkO:Int->List IOp->List IOp
 | _,[]=> []
 | k,o::r=>ahV k o::mkO (k+5) r
def ctO(l:List IOp):Int:=5*l.length
def mkB(k:Int)(b:Blk):Blk:={b with ops:=mkO k b.ops}
def ctB(b:Blk):Int:=ctO b.ops
theorem amn:MkS mkO ctO (λ_ i=>5*(i:Int)) ahV (λ_=>5) where
 len:=by
  intro k l
  induction l generalizing k with
  | nil=>rfl
  | cons o r ih=>simp only [mkO,List.length_cons,ih]
 get:=by
  intro k l
  induction l generalizing k with
  | nil=>exact λi h=>absurd h (Nat.not_lt_zero _)
  | cons o r ih=>
   intro i h;cases i with
   | zero=>simp [mkO]
   | succ i=>
    have:=ih (k+5) i (by simpa using h);simp only [mkO,List.getElem?_cons_succ,List.getElem_cons_succ];rw [this,show k+5+5*(i:Int)=k+5*((i+1:Nat):Int) by push_cast;omega]
 z:=λ_=>rfl
 step:=λ_ i _=>by push_cast;omega
 all:=λ_=>rfl
 le:=λl i h=>by unfold ctO;omega
 nn:=λ_ i=>by omega
def OL(m:ak):Prop:=m.atoms.length<=1000000000000000000
def PL(p:List ak):Prop:=p.length<=1000000000000000000/\∀m∈p,OL m
def AL(a:Atom):Prop:=PL a.x/\PL a.y
def TL(t:List Atom):Prop:=t.length<=1000000000000000000/\∀a∈t,AL a
def EL(e:Ev):Prop:=PL e.x/\PL e.y/\e.regs.length<=1000000000000000000/\∀p∈e.regs,PL p
structure SL(s:Sym):Prop where
 e:s.events.length<=1000000000000000000/\∀e∈s.events,EL e
 r:s.regs.length<=1000000000000000000/\∀p∈s.regs,PL p
 x:PL s.x
 y:PL s.y
def Sb(t:List Atom):List D:=[.rows 4 (t.map iG)]
def DC(s:Sym):List D:=[.rows 5 (s.events.map evR),.rows 1 (s.regs.map jA),.int .i64 s.fin,bW s.x,bW s.y,.int .i64 s.k]
def Any{α:Type}(_:α):Prop:=True
abbrev Sc:Trans:=Hr 1 WU mkI ctI Any
abbrev xk:Trans:=Hr 2 kQ mkM ctM OL
abbrev Sd:Trans:=VK 1 jA mkM ctM PL
abbrev LP:Trans:=Hr 4 iG mkA ctA AL
abbrev abH:Trans:=VK 1 Sb mkA ctA TL
abbrev D7:Trans:=Hr 1 jA mkP ctP PL
abbrev abI:Trans:=Hr 5 evR mkE ctE EL
abbrev abJ:Trans:=VK 6 DC mkS ctS SL
abbrev Sg:Trans:=Hr 5 Ni mkO ctO Any
abbrev abK:Trans:=VK 7 oJ mkB ctB (λb=>b.ops.length<=1000000000000000000)
theorem Si(hR:Sc args h n K):dh E G dr Tryz.f108 (Tryz.f108.body.getD .skip) args h n K:=by
 refine pK (row:=WU) ami rfl trivial (λ_=>rfl) rfl rfl rfl rfl rfl rfl rfl (by decide) hR λx N q i e k s Q hB h0 h1 W hQ=> ?_
 refine bG (W.set0 (λ_=>rfl) rfl rfl rfl rfl rfl rfl (λa d hd=>by rw [List.mem_singleton.1 hd];rfl) rfl rfl (by decide) λs W=> ?_);exact W.inc rfl (by decide) h0 h1 hQ
theorem GD(hG:G 108=some Sc)(hR:xk args h n K):dh E G dr Tryz.f45 (Tryz.f45.body.getD .skip) args h n K:=by
 refine pK (row:=kQ) amj rfl trivial (λ_=>rfl) rfl rfl rfl rfl rfl rfl rfl (by decide) hR λx N q i e k s Q hB h0 h1 W hQ=> ?_
 have:=FE e.atoms;refine bG (W.set (e':=⟨k,e.atoms⟩) (λ_=>rfl) rfl rfl rfl rfl rfl rfl rfl rfl rfl (by decide) (.inl ⟨1,by decide,rfl⟩) rfl rfl (by decide) λs W=> ?_);refine bG (W.inc rfl (by decide) h0 ah λs W=> ?_);refine W.call (bs:=e.atoms) (e':=⟨k,mkI (k+1) e.atoms⟩) (λ_=>rfl) rfl rfl rfl rfl rfl rfl rfl rfl rfl rfl (by decide) hG rfl ⟨hB,λ_ _=>trivial⟩ rfl (by decide) ah ah λs W=>hQ s ?_
 rwa [Int.add_assoc]at W
theorem Io(hG:G 45=some xk)(hR:Sd args h n K):dh E G dr Tryz.f14 (Tryz.f14.body.getD .skip) args h n K:=by
 refine KP (row:=jA) (λ_=>rfl) (by decide) rfl rfl (by decide) hR λcs b k M s hB h0 h1 W hK=> ?_
 refine W.li rfl rfl rfl rfl rfl rfl rfl (by decide) hG rfl hB (by decide) h0 h1 λs W=> ?_
 exact W.fin rfl (by decide) rfl hK
theorem GH(hG:G 45=some xk)(hR:LP args h n K):dh E G dr Tryz.f44 (Tryz.f44.body.getD .skip) args h n K:=by
 refine pK (row:=iG) amk rfl trivial (λ_=>rfl) rfl rfl rfl rfl rfl rfl rfl (by decide) hR λx N q i e k s Q hB h0 h1 W hQ=> ?_
 have:=dV e.x;have:=dV e.y;refine bG (W.set (e':=⟨k,e.k,e.x,e.y⟩) (λ_=>rfl) rfl rfl rfl rfl rfl rfl rfl rfl rfl (by decide) (.inl ⟨2,by decide,rfl⟩) rfl rfl (by decide) λs W=> ?_);refine bG (W.inc rfl (by decide) h0 ah λs W=> ?_);refine bG (W.set (e':=⟨k,k+1,e.x,e.y⟩) (λ_=>rfl) rfl rfl rfl rfl rfl rfl rfl rfl rfl (by decide) (.inl ⟨2,by decide,rfl⟩) rfl rfl (by decide) λs W=> ?_);refine bG (W.inc rfl (by decide) ah ah λs W=> ?_);rw [show k+1+1=k+2 by omega]at W;refine bG (W.T9 (bs:=e.x) (e':=⟨k,k+1,mkM (k+2) e.x,e.y⟩) (λ_=>rfl) rfl rfl rfl rfl rfl rfl rfl rfl rfl rfl rfl rfl rfl rfl (by decide) hG rfl hB.1 rfl (by decide) ah ah λs W=> ?_);refine W.T9 (bs:=e.y) (e':=⟨k,k+1,mkM (k+2) e.x,mkM (k+2+ctM e.x) e.y⟩) (λ_=>rfl) rfl rfl rfl rfl rfl rfl rfl rfl rfl rfl rfl rfl rfl rfl (by decide) hG rfl hB.2 rfl (by decide) ah ah λs W=>hQ s ?_
 rwa [show k+2+ctM e.x+ctM e.y=k+(2+ctM e.x+ctM e.y) by omega]at W
theorem LQ(hG:G 44=some LP)(hR:abH args h n K):dh E G dr Tryz.f13 (Tryz.f13.body.getD .skip) args h n K:=by
 refine KP (row:=Sb) (λ_=>rfl) (by decide) rfl rfl (by decide) hR λcs b k M s hB h0 h1 W hK=> ?_
 refine W.li rfl rfl rfl rfl rfl rfl rfl (by decide) hG rfl hB (by decide) h0 h1 λs W=> ?_
 exact W.fin rfl (by decide) rfl hK
theorem GI(hG:G 45=some xk)(hR:D7 args h n K):dh E G dr Tryz.f77 (Tryz.f77.body.getD .skip) args h n K:=by
 refine pK (row:=jA) aml rfl trivial (λ_=>rfl) rfl rfl rfl rfl rfl rfl rfl (by decide) hR λx N q i e k s Q hB h0 h1 W hQ=> ?_
 exact W.call (e':=mkM k e) (λ_=>rfl) rfl rfl rfl rfl rfl rfl rfl rfl rfl rfl (by decide) hG rfl hB rfl (by decide) h0 h1 hQ
theorem DF(hG:G 45=some xk)(hH:G 77=some D7)(hR:abI args h n K):dh E G dr Tryz.f76 (Tryz.f76.body.getD .skip) args h n K:=by
 refine pK (row:=evR) amm rfl trivial (λ_=>rfl) rfl rfl rfl rfl rfl rfl rfl (by decide) hR λx N q i e k s Q hB h0 h1 W hQ=> ?_
 have:=dV e.x;have:=dV e.y;have:=rE e.regs;refine bG (W.set (e':=⟨k,e.at_,e.x,e.y,e.regs⟩) (λ_=>rfl) rfl rfl rfl rfl rfl rfl rfl rfl rfl (by decide) (.inl ⟨2,by decide,rfl⟩) rfl rfl (by decide) λs W=> ?_);refine bG (W.inc rfl (by decide) h0 ah λs W=> ?_);refine bG (W.set (e':=⟨k,k+1,e.x,e.y,e.regs⟩) (λ_=>rfl) rfl rfl rfl rfl rfl rfl rfl rfl rfl (by decide) (.inl ⟨2,by decide,rfl⟩) rfl rfl (by decide) λs W=> ?_);refine bG (W.inc rfl (by decide) ah ah λs W=> ?_);rw [show k+1+1=k+2 by omega]at W;refine bG (W.T9 (bs:=e.x) (e':=⟨k,k+1,mkM (k+2) e.x,e.y,e.regs⟩) (λ_=>rfl) rfl rfl rfl rfl rfl rfl rfl rfl rfl rfl rfl rfl rfl rfl (by decide) hG rfl hB.1 rfl (by decide) ah ah λs W=> ?_);refine bG (W.T9 (bs:=e.y) (e':=⟨k,k+1,mkM (k+2) e.x,mkM (k+2+ctM e.x) e.y,e.regs⟩) (λ_=>rfl) rfl rfl rfl rfl rfl rfl rfl rfl rfl rfl rfl rfl rfl rfl (by decide) hG rfl hB.2.1 rfl (by decide) ah ah λs W=> ?_);refine W.call (bs:=e.regs) (e':=⟨k,k+1,mkM (k+2) e.x,mkM (k+2+ctM e.x) e.y,mkP (k+2+ctM e.x+ctM e.y) e.regs⟩) (λ_=>rfl) rfl rfl rfl rfl rfl rfl rfl rfl rfl rfl (by decide) hH rfl hB.2.2 rfl (by decide) ah ah λs W=>hQ s ?_
 rwa [show k+2+ctM e.x+ctM e.y+ctP e.regs=k+(2+ctM e.x+ctM e.y+ctP e.regs) by omega]at W
theorem LU(hE:G 76=some abI)(hP:G 77=some D7)(hG:G 14=some Sd)(hR:abJ args h n K):dh E G dr Tryz.f24 (Tryz.f24.body.getD .skip) args h n K:=by
 refine KP (row:=DC) (λ_=>rfl) (by decide) rfl rfl (by decide) hR λcs b k M s hB h0 h1 W hK=> ?_
 have:=BN b.events;have:=rE b.regs;have:=dV b.x;have:=dV b.y;unfold ctS at h1 hK;refine W.li rfl rfl rfl rfl rfl rfl rfl (by decide) hE rfl hB.e (by decide) h0 ah λs W=> ?_
 refine W.li rfl rfl rfl rfl rfl rfl rfl (by decide) hP rfl hB.r (by decide) ah ah λs W=> ?_
 refine W.st rfl rfl rfl rfl rfl rfl (by decide) rfl (by decide) hG rfl hB.x rfl (by decide) ah ah λs W=> ?_
 refine W.st rfl rfl rfl rfl rfl rfl (by decide) rfl (by decide) hG rfl hB.y rfl (by decide) ah ah λs W=> ?_
 rw [show k+ctE b.events+ctP b.regs+ctM b.x+ctM b.y=k+(ctE b.events+ctP b.regs+ctM b.x+ctM b.y) by omega]at W;exact W.fin rfl (by decide) rfl hK
theorem GJ(a:IOp):∀d∈Ni a,d.bY=true:=by simp [Ni,D.bY]
theorem Ox(hR:Sg args h n K):dh E G dr Tryz.f75 (Tryz.f75.body.getD .skip) args h n K:=by
 refine pK (row:=Ni) amn rfl trivial (λ_=>rfl) rfl rfl rfl rfl rfl rfl rfl (by decide) hR λx N q i e k s Q hB h0 h1 W hQ=> ?_
 refine bG (W.set (e':=⟨k,e.x,e.y,e.k,e.at_⟩) (λ_=>rfl) rfl rfl rfl rfl rfl rfl rfl rfl rfl (by decide) (.inr GJ) rfl rfl (by decide) λs W=> ?_);refine bG (W.inc rfl (by decide) h0 ah λs W=> ?_);refine bG (W.set (e':=⟨k,k+1,e.y,e.k,e.at_⟩) (λ_=>rfl) rfl rfl rfl rfl rfl rfl rfl rfl rfl (by decide) (.inr GJ) rfl rfl (by decide) λs W=> ?_);refine bG (W.inc rfl (by decide) ah ah λs W=> ?_);refine bG (W.set (e':=⟨k,k+1,k+1+1,e.k,e.at_⟩) (λ_=>rfl) rfl rfl rfl rfl rfl rfl rfl rfl rfl (by decide) (.inr GJ) rfl rfl (by decide) λs W=> ?_);refine bG (W.inc rfl (by decide) ah ah λs W=> ?_);refine bG (W.set (e':=⟨k,k+1,k+1+1,k+1+1+1,e.at_⟩) (λ_=>rfl) rfl rfl rfl rfl rfl rfl rfl rfl rfl (by decide) (.inr GJ) rfl rfl (by decide) λs W=> ?_);refine bG (W.inc rfl (by decide) ah ah λs W=> ?_);refine bG (W.set (e':=ahV k e) (λ_=>rfl) rfl rfl rfl rfl rfl rfl rfl rfl rfl (by decide) (.inr GJ) rfl rfl (by decide) λs W=> ?_);refine W.inc rfl (by decide) ah ah λs W=>hQ s ?_
 rwa [show k+1+1+1+1+1=k+5 by omega]at W
theorem Ip(hG:G 75=some Sg)(hR:abK args h n K):dh E G dr Tryz.f23 (Tryz.f23.body.getD .skip) args h n K:=by
 refine KP (row:=oJ) (λ_=>rfl) (by decide) rfl rfl (by decide) hR λcs b k M s hB h0 h1 W hK=> ?_
 refine W.li rfl rfl rfl rfl rfl rfl rfl (by decide) hG rfl ⟨hB,λ_ _=>trivial⟩ (by decide) h0 h1 λs W=> ?_
 exact W.fin rfl (by decide) rfl hK
end Go.TX.Seat
namespace Go.TX.Seat
open Go Go.AE Go.TX Go.Proofs
def Flat(h:Heap)(sz:Nat)(x:Cell)(es:List (List D)):Prop:=(∃f,x= .d f (.rows sz es))\/(x= .nil/\es=[])\/∃l f,x= .os l sz 0 es.length/\AE.look h l=some (.rows f sz es)
def fresh(h h':Heap)(n j:Nat)(N:Nat->Prop):Prop:=(∀l,N l->n<=l/\l<n+j)/\∀l,l<n->AE.look h' l=AE.look h l
def wI:Trans:=λargs h n K=>∃(x:Cell) (xs:List Int),args=[.c x]/\Flat h 1 x (xs.map (ic .i64))/\xs.length<=gX/\∀h' j y N,aN h' y (.rows 1 (xs.map (ic .i64))) N->fresh h h' n j N->K (.c y) h' j
theorem Oy{G:fO}{dr:jI}{args:List PV}{h:Heap}{n:Nat}{K:PV->Heap->Nat->Prop}(hR:wI args h n K):dh E G dr Tryz.f105 (Tryz.f105.body.getD .skip) args h n K:=by
 obtain⟨x,xs,rfl,hx,hl,hK⟩:=hR;unfold dh;dsimp only [Tryz.f105,Option.getD,slotsOf,List.length];refine aP (bX rfl (cZ rfl (by simp only [dOK];decide) ?_));simp only [aH,AE.ev,fD,aB,St.put,aF];refine aP (bX rfl (cZ rfl (by simp only [dOK];decide) ?_));simp only [aH,AE.ev,fD,aB,St.put,aA,if_true,if_false,reduceIte,Nat.reduceEqDiff];refine bX rfl (gQ rfl (by simp only [dOK];decide) ?_);have t23:E.ty 124=some ⟨.slice 3,1,24,[.nil]⟩:=rfl;have t3:E.ty 3=some u0:=rfl;have key:∀(K:PV->Heap->Nat->Prop),(∀f l h',h'=(l,dx.rows f 1 (xs.map (ic .i64)))::h->l=nm n 0->K (.c (.os l 1 0 xs.length)) h' 1)->wL h n 0 u0 (.c .nil) (.c x) K:=by
  intro K hK;refine⟨[.int .i64 0],.d true _ .nil,by decide,by decide,?_⟩;have hlen:(xs.map (ic .i64)).length=xs.length:=List.length_map ..;rcases hx with⟨f,rfl⟩ | ⟨rfl,he⟩ | ⟨l,f,rfl,hlk⟩
  .refine⟨λ_=>rfl,by rw [hlen];exact hl,?_⟩;rw [hlen];exact hK _ _ _ rfl rfl
  .have hxs:xs=[]:=by simpa using he
   subst hxs;refine⟨λh=>absurd rfl h,by decide,?_⟩;exact hK _ _ _ rfl rfl
  .simp only [Ms,hlk,bZ];refine⟨trivial,ah,?_⟩;rw [List.drop_zero,List.take_length];refine⟨λ_=>trivial,by rw [hlen];exact hl,?_⟩;rw [hlen];exact hK _ _ _ rfl rfl
 simp only [aX,AE.ev,fD,aB,St.put,aA,if_true,if_false,reduceIte,Nat.reduceEqDiff,t23,aD,t3];refine⟨?_,key _ ?_⟩
 .rcases hx with⟨f,rfl⟩ | ⟨rfl,he⟩ | ⟨l,f,rfl,hlk⟩<;>exact trivial
 intro f l h' hh hl';refine bX rfl (cZ rfl (by simp only [dOK];decide) ?_);simp only [aH,AE.ev,fD,aB,St.put,aA,if_true,if_false,reduceIte,Nat.reduceEqDiff,aF];refine lQ ?_;simp only [pX,oh,aA,if_true,aB,one,true_and];have ht:aN h' (.os l 1 0 xs.length) (.rows 1 (xs.map (ic .i64))) (λy=>y=l):=by
  have:=aN.flat (h:=h') l 1 f (xs.map (ic .i64)) (by rw [hh];exact ay _ _ _) (by simp [nY,ic,D.bY])
  rwa [List.length_map]at this
 refine hK h' 1 _ _ ht ⟨λy hy=> ?_,λy hy=> ?_⟩
 .rw [hy,hl'];exact⟨Nat.le_refl _,Nat.lt_succ_self _⟩
 .rw [hh];exact aj _ _ (by rw [hl'];exact Nat.ne_of_gt hy)
attribute [local go_sem] aH AE.ev fD aB aD bZ nD St.put aA AE.look Ej bF nJ fF qG mh iU.agg List.getElem?_cons Nat.add_zero Nat.zero_add ne_eq not_false_eq_true true_and Nat.one_ne_zero Nat.succ_ne_self Bool.false_eq_true List.length List.drop List.take if_true if_false List.cons_ne_nil Nat.le_refl and_true
def Read(x:Cell)(sz:Nat)(es:List (List D)):Prop:=(∃f,x= .d f (.rows sz es))\/(x= .nil/\es=[])
def oF:Trans:=λargs h n K=>∃(x:Cell) (p:List ak),args=[.agg [x]]/\Read x 2 (p.map kQ)/\p.length<=gX/\(∀m∈p,m.atoms.length<=gX)/\
 ∀h' j y N,aN h' y (bW p) N->fresh h h' n j N->K (.agg [y]) h' j
theorem Oz{G:fO}(hG:G 105=some wI){tbl:Nat->List dK}(ht:tbl 5=[(0,([3],[])),(1,([13],[])),(2,([5],[])),(3,([15],[])),(4,([5],[])),(5,([17],[])),(6,([18],[1,3])),(7,([16,19],[])),(8,([20],[1])),(9,([14,21],[])),(10,([3],[])),(11,([22,23],[]))])
  {args:List PV} {h:Heap} {n:Nat} {K:PV->Heap->Nat->Prop} (hR:oF args h n K): @dh E G (@drA ⟨[20],[]⟩ E G tbl) Tryz.f41 (Tryz.f41.body.getD .skip) args h n K:=by
 letI:aQ:=⟨[20],[]⟩
 obtain⟨x,p,rfl,hx,hl,ha,hK⟩:=hR;have jr:E.ty 35=some ⟨.struct [(0,33)],1,24,[.nil]⟩:=rfl;have CB:E.ty 33=some ⟨.slice 134,1,24,[.nil]⟩:=rfl;have t198:E.ty 134=some ⟨.struct [(0,3),(1,124)],2,32,[z0,.nil]⟩:=rfl;have t23:E.ty 124=some ⟨.slice 3,1,24,[.nil]⟩:=rfl;have t3:E.ty 3=some u0:=rfl;unfold dh;dsimp only [Tryz.f41,Option.getD,slotsOf,List.length];refine aP (bX rfl (gQ rfl (by simp only [dOK];decide) ?_));simp only [aX,aI,go_sem,reduceIte,Nat.reduceEqDiff,Nat.reduceSub,Nat.reduceAdd,reduceCtorEq,Nat.reduceLeDiff];refine bX rfl (gQ rfl (by simp only [dOK];decide) ?_);simp only [aX,jr,aF,go_sem,reduceIte,Nat.reduceEqDiff,Nat.reduceSub,Nat.reduceAdd,reduceCtorEq,Nat.reduceLeDiff];refine aP (bX rfl (gQ rfl (by simp only [dOK];decide) ?_));simp only [aX,jr,aF,go_sem,reduceIte,Nat.reduceEqDiff,Nat.reduceSub,Nat.reduceAdd,reduceCtorEq,Nat.reduceLeDiff];refine bG (aP ?_);have abL:oW (.c x)=λK=>K (ci .i64 p.length):=by
  rcases hx with⟨f,rfl⟩ | ⟨rfl,he⟩
  .unfold oW;simp
  .have:p=[]:=by simpa using he
   subst this;rfl
 refine bX rfl (cZ rfl (by simp only [dOK];decide) ?_);simp only [jr,CB,go_sem,reduceIte,Nat.reduceEqDiff,Nat.reduceSub,Nat.reduceAdd,reduceCtorEq,Nat.reduceLeDiff];refine bX rfl (cZ rfl (by simp only [dOK];decide) ?_);simp only [jr,CB,go_sem,reduceIte,Nat.reduceEqDiff,Nat.reduceSub,Nat.reduceAdd,reduceCtorEq,Nat.reduceLeDiff];refine bX rfl (cZ rfl (by simp only [dOK];decide) ?_);simp only [jr,CB,lT,abL,go_sem,reduceIte,Nat.reduceEqDiff,Nat.reduceSub,Nat.reduceAdd,reduceCtorEq,Nat.reduceLeDiff];refine bX rfl (cZ rfl (by simp only [dOK];decide) ?_);simp only [jr,CB,aF,go_sem,reduceIte,Nat.reduceEqDiff,Nat.reduceSub,Nat.reduceAdd,reduceCtorEq,Nat.reduceLeDiff]
 let J:Nat->St->Prop:=λi s=>∃(y:Cell) (N:Nat->Prop),aA s.t 9=some (ci .i64 i)/\aA s.t 8=some (ci .i64 p.length)/\s.m=26/\s.n=n/\aA s.t 7=some (.c x)/\
  aA s.t 3=some (.c (.ptr (nm n 2) 1 0 0))/\aA s.t 2=some (.c (.ptr (nm n 1) 1 0 0))/\AE.look s.h (nm n 2)=some (.box [y])/\AE.look s.h (nm n 1)=some (.box [.nil])/\
  gP s.h y 2 ((p.take i).map kQ) N/\(∀l,N l->nm n 3<=l/\l<nm n s.k)/\(∀l,l<n->AE.look s.h l=AE.look h l)/\3<=s.k
 refine DY (n:=p.length) J rfl rfl rfl rfl rfl rfl rfl rfl rfl (by unfold gX at hl;omega) (λi s hJ=> ?_) (λi s b hJ=> ?_) ?_ (λi s hi hJ Q2 hQ=> ?_) (λs hJ=> ?_)
 .obtain⟨y,N,q1,q2,q3,q4,q5,q6,q7,q8,q9,q10,q11,q12,q13⟩:=hJ;exact⟨q1,q2,by rw [q3];decide,by rw [q3];decide,by rw [q3];decide⟩
 .obtain⟨y,N,q1,q2,q3,q4,q5,q6,q7,q8,q9,q10,q11,q12,q13⟩:=hJ
  exact⟨y,N,by simp only [aA,reduceIte,Nat.reduceEqDiff];exact q1,by simp only [aA,reduceIte,Nat.reduceEqDiff];exact q2,q3,q4,by simp only [aA,reduceIte,Nat.reduceEqDiff];exact q5,
   by simp only [aA,reduceIte,Nat.reduceEqDiff];exact q6,by simp only [aA,reduceIte,Nat.reduceEqDiff];exact q7,q8,q9,q10,q11,q12,q13⟩
 .refine⟨.nil,λ_=>False,rfl,rfl,rfl,rfl,rfl,rfl,rfl,?_,?_,.inl ⟨rfl,rfl⟩,λ_ h=>h.elim,λl hl=> ?_,Nat.le_refl _⟩
  .simp only [go_sem,reduceIte,Nat.reduceEqDiff,Nat.reduceSub,Nat.reduceAdd,reduceCtorEq,Nat.reduceLeDiff]
  .simp only [go_sem,reduceIte,Nat.reduceEqDiff,Nat.reduceSub,Nat.reduceAdd,reduceCtorEq,Nat.reduceLeDiff]
  .have a:∀q,nm n q≠l:=λq=>by unfold nm;omega
   rw [aj _ _ (a _),aj _ _ (a _),aj _ _ (a _)]
 .obtain⟨y,N,q1,q2,q3,q4,q5,q6,q7,q8,q9,q10,q11,q12,q13⟩:=hJ;obtain⟨f,rfl⟩:∃f,x= .d f (.rows 2 (p.map kQ)):=by
   rcases hx with h | ⟨_,he⟩
   .exact h
   .have:p=[]:=by simpa using he
    subst this;exact absurd hi (Nat.not_lt_zero _)
  have hm:p[i]? =some p[i]:=List.getElem?_eq_getElem hi;obtain⟨t,hh,nn,kk,mm⟩:=s;dsimp only at q1 q2 q3 q4 q5 q6 q7 q8 q9 q10 q11 q12 q13;subst q3;have q4:=q4.symm;subst q4;refine rD (aP (bX rfl (cZ rfl (by simp only [dOK];decide) ?_)));simp only [CB,t198,q5,q1,bV,jQ,ci,go_sem,reduceIte,Nat.reduceEqDiff,Nat.reduceSub,Nat.reduceAdd,reduceCtorEq,Nat.reduceLeDiff];refine⟨λ_=>trivial,ah,by simpa using hi,?_⟩;refine bX rfl (cZ rfl (by simp only [dOK];decide) ?_);simp only [CB,t198,D8,nW,Int.toNat_natCast,go_sem,reduceIte,Nat.reduceEqDiff,Nat.reduceSub,Nat.reduceAdd,reduceCtorEq,Nat.reduceLeDiff];refine⟨by simpa using hi,λrow hrow=> ?_⟩;have hrow:row=kQ p[i]:=by
   rw [List.getElem?_map,hm]at hrow;simpa using hrow.symm
  subst hrow;simp only [kQ,List.map,go_sem,reduceIte,Nat.reduceEqDiff,Nat.reduceSub,Nat.reduceAdd,reduceCtorEq,Nat.reduceLeDiff];refine bX rfl (gQ rfl (by simp only [dOK];decide) ?_);simp only [aX,t198,go_sem,reduceIte,Nat.reduceEqDiff,Nat.reduceSub,Nat.reduceAdd,reduceCtorEq,Nat.reduceLeDiff];refine bX rfl (gQ rfl (by simp only [dOK]) ?_);simp only [aX,dO,aI,splice,t198,aF,List.nil_append,List.append_nil,go_sem,reduceIte,Nat.reduceEqDiff,Nat.reduceSub,Nat.reduceAdd,reduceCtorEq,Nat.reduceLeDiff];generalize hb:((nm n kk,dx.box [Cell.d f (D.int .i64 p[i].bL),Cell.d f (vR p[i].atoms)])::(nm n kk,dx.box [z0,Cell.nil])::hh:Heap)=h1;have w1:AE.look h1 (nm n kk)=some (.box [Cell.d f (D.int .i64 p[i].bL),Cell.d f (vR p[i].atoms)]):=by rw [<-hb];exact ay _ _ _
  have w2:∀x,x≠nm n kk->AE.look h1 x=AE.look hh x:=λx hx=>by rw [<-hb,aj _ _ (Ne.symm hx),aj _ _ (Ne.symm hx)]
  have a8:AE.look h1 (nm n 2)=some (.box [y]):=by rw [w2 _ (by unfold nm;omega)];exact q8
  have a9:AE.look h1 (nm n 1)=some (.box [.nil]):=by rw [w2 _ (by unfold nm;omega)];exact q9
  have a10:gP h1 y 2 ((p.take i).map kQ) N:=q10.frame λx hx=>w2 x (by have:=(q11 x hx).2;unfold nm at*;omega)
  have a12:∀l,l<n->AE.look h1 l=AE.look h l:=λl hl=>by rw [w2 l (by unfold nm;omega)];exact q12 l hl
  clear hb q8 q9 q10 q12
  refine Kr ⟨?_,?_⟩
  .unfold Static;rw [ht];kernel_rfl
  rw [ht];refine aY rfl rfl (by simp only [dOK];decide) rfl ?_;simp only [cut,q6,jr,CB,go_sem,reduceIte,Nat.reduceEqDiff,Nat.reduceSub,Nat.reduceAdd,reduceCtorEq,Nat.reduceLeDiff];refine aY rfl rfl (by simp only [dOK];decide) rfl ?_;simp only [cut,a8,CB,go_sem,reduceIte,Nat.reduceEqDiff,Nat.reduceSub,Nat.reduceAdd,reduceCtorEq,Nat.reduceLeDiff];refine aY rfl rfl (by simp only [dOK];decide) rfl ?_;simp only [cut,t198,t3,go_sem,reduceIte,Nat.reduceEqDiff,Nat.reduceSub,Nat.reduceAdd,reduceCtorEq,Nat.reduceLeDiff];refine aY rfl rfl (by simp only [dOK];decide) rfl ?_;simp only [cut,w1,t3,go_sem,reduceIte,Nat.reduceEqDiff,Nat.reduceSub,Nat.reduceAdd,reduceCtorEq,Nat.reduceLeDiff];refine aY rfl rfl (by simp only [dOK];decide) rfl ?_;simp only [cut,t198,t23,go_sem,reduceIte,Nat.reduceEqDiff,Nat.reduceSub,Nat.reduceAdd,reduceCtorEq,Nat.reduceLeDiff];refine aY rfl rfl (by simp only [dOK];decide) rfl ?_;simp only [cut,w1,t23,go_sem,reduceIte,Nat.reduceEqDiff,Nat.reduceSub,Nat.reduceAdd,reduceCtorEq,Nat.reduceLeDiff];refine iq rfl rfl (by simp only [dOK];decide) rfl (iW rfl ?_);simp only [cut,dw,jy,fnA,iK,jf,hG,List.map,List.append_nil,go_sem,reduceIte,Nat.reduceEqDiff,Nat.reduceSub,Nat.reduceAdd,reduceCtorEq,Nat.reduceLeDiff];refine⟨_,p[i].atoms,rfl,.inl ⟨f,rfl⟩,ha _ (List.getElem_mem hi),λh2 j y2 N2 tr fr=> ?_⟩;have b1:AE.look h2 (nm n kk)=some (.box [Cell.d f (D.int .i64 p[i].bL),Cell.d f (vR p[i].atoms)]):=by rw [fr.2 _ (by unfold nm;omega)];exact w1
  have b8:AE.look h2 (nm n 2)=some (.box [y]):=by rw [fr.2 _ (by unfold nm;omega)];exact a8
  have b9:AE.look h2 (nm n 1)=some (.box [.nil]):=by rw [fr.2 _ (by unfold nm;omega)];exact a9
  have b10:gP h2 y 2 ((p.take i).map kQ) N:=a10.frame λx hx=>fr.2 x (by have:=(q11 x hx).2;unfold nm at*;omega)
  have b12:∀l,l<n->AE.look h2 l=AE.look h l:=λl hl=>by rw [fr.2 l (by unfold nm;omega)];exact a12 l hl
  simp only [jS,iF,eH,cut,b1,b8,t23,t3,CB,t198,go_sem,reduceIte,Nat.reduceEqDiff,Nat.reduceSub,Nat.reduceAdd,reduceCtorEq,Nat.reduceLeDiff];refine aY rfl rfl (by simp only [dOK];decide) rfl ?_;simp only [cut,jX,jW,lD,splice,aI,t198,t3,t23,go_sem,reduceIte,Nat.reduceEqDiff,Nat.reduceSub,Nat.reduceAdd,reduceCtorEq,Nat.reduceLeDiff];refine⟨by simp [t3,t23],by simp,?_⟩;refine iq rfl rfl (by simp only [dOK];decide) rfl (sN rfl ?_);have k2:(kk+1+j=2)=False:=eq_false ah;simp only [nG,vw,aI,cut,CB,t198,jS,iF,eH,b8,k2,List.nil_append,List.append_nil,List.cons_append,List.map,go_sem,reduceIte,Nat.reduceEqDiff,Nat.reduceSub,Nat.reduceAdd,reduceCtorEq,Nat.reduceLeDiff];refine⟨rfl,by decide,?_⟩;generalize hb:((nm n (kk+1+j),dx.grid 2 [[Cell.d f (D.int .i64 p[i].bL),y2]])::h2:Heap)=h3;have v1:AE.look h3 (nm n (kk+1+j))=some (.grid 2 [[Cell.d f (D.int .i64 p[i].bL),y2]]):=by rw [<-hb];exact ay _ _ _
  have v2:∀x,x≠nm n (kk+1+j)->AE.look h3 x=AE.look h2 x:=λx hx=>by rw [<-hb,aj _ _ (Ne.symm hx)]
  have c8:AE.look h3 (nm n 2)=some (.box [y]):=by rw [v2 _ (by unfold nm;omega)];exact b8
  have c9:AE.look h3 (nm n 1)=some (.box [.nil]):=by rw [v2 _ (by unfold nm;omega)];exact b9
  have c10:gP h3 y 2 ((p.take i).map kQ) N:=b10.frame λx hx=>v2 x (by have:=(q11 x hx).2;unfold nm at*;omega)
  have c12:∀l,l<n->AE.look h3 l=AE.look h l:=λl hl=>by rw [v2 l (by unfold nm;omega)];exact b12 l hl
  have ctr:aN h3 y2 (vR p[i].atoms) N2:=tr.frame λx hx=>v2 x (by have:=(fr.1 x hx).2;unfold nm at*;omega)
  clear hb
  refine iq rfl rfl (by simp only [dOK];decide) rfl (sN rfl ?_);simp only [nG,MJ,O4,cut,CB,t198,v1,go_sem,reduceIte,Nat.reduceEqDiff,Nat.reduceSub,Nat.reduceAdd,reduceCtorEq,Nat.reduceLeDiff];have eL:((p.take i).map kQ).length=i:=by simp;omega
  have abM:∀x,N x->x<nm n (kk+1+j+1):=λx hx=>by have:=(q11 x hx).2;unfold nm at*;omega
  refine gP.app (M:=λq x=>q=1/\N2 x) (d:=kQ p[i]) c10 rfl rfl ⟨1,by decide,rfl⟩ (λq hq=> ?_) (λq x hq hx=> ?_) abM (λq q' x _ _ hx hx'=>by rw [hx.1,hx'.1]) (by rw [eL];omega) (λh4 r4 f4=> ?_)
  .have hq2:q=0\/q=1:=by omega
   rcases hq2 with rfl | rfl
   .exact aN.cast (.int f .i64 p[i].bL) λx=>⟨λh=>h.elim,λh=>absurd h.1 (by decide)⟩
   .exact aN.cast ctr λx=>⟨λh=>⟨rfl,h⟩,λh=>h.2⟩
  .obtain⟨_,hx⟩:=hx;refine⟨by have:=(fr.1 x hx).2;unfold nm at*;omega,λhN=> ?_⟩;have h1:=(fr.1 x hx).1;have h2:=(q11 x hN).2;unfold nm at*;omega
  have d8:AE.look h4 (nm n 2)=some (.box [y]):=by rw [f4 _ (by unfold nm;omega) (λhN=>by have:=(q11 _ hN).1;unfold nm at*;omega)];exact c8
  have d9:AE.look h4 (nm n 1)=some (.box [.nil]):=by rw [f4 _ (by unfold nm;omega) (λhN=>by have:=(q11 _ hN).1;unfold nm at*;omega)];exact c9
  have d12:∀l,l<n->AE.look h4 l=AE.look h l:=λl hl=>by rw [f4 l (by unfold nm;omega) (λhN=>by have:=(q11 _ hN).1;unfold nm at*;omega)];exact c12 l hl
  refine⟨trivial,?_⟩;refine aY rfl rfl (by simp only [dOK];decide) rfl ?_;simp only [cut,q6,jr,CB,go_sem,reduceIte,Nat.reduceEqDiff,Nat.reduceSub,Nat.reduceAdd,reduceCtorEq,Nat.reduceLeDiff];refine iq rfl rfl (by simp only [dOK]) rfl (ou rfl ?_);simp only [aX,dO,aI,splice,cut,CB,d8,jS,List.nil_append,List.append_nil,go_sem,reduceIte,Nat.reduceEqDiff,Nat.reduceSub,Nat.reduceAdd,reduceCtorEq,Nat.reduceLeDiff];show Q2 .normal _;refine hQ _ (by simp only [aA,reduceIte,Nat.reduceEqDiff];exact q1) (show 24<26 by decide) (show 9<26 by decide) ?_;have eT:(p.take (i+1)).map kQ=(p.take i).map kQ++ [kQ p[i]]:=by rw [List.take_succ_eq_append_getElem hi,List.map_append];rfl
  have ne2:∀x,(x=nm n (kk+1+j+1)\/N x\/∃q,q<2/\q=1/\N2 x)->nm n 3<=x/\x<nm n (kk+1+j+1+1):=by
   rintro x (rfl | hx | ⟨q,_,_,hx⟩)
   .unfold nm;omega
   .have:=q11 x hx;unfold nm at*;omega
   .have:=fr.1 x hx;unfold nm at*;omega
  refine⟨_,_,by simp only [aA,reduceIte],by simp only [aA,reduceIte,Nat.reduceEqDiff];exact q2,rfl,rfl,by simp only [aA,reduceIte,Nat.reduceEqDiff];exact q5,
   by simp only [aA,reduceIte,Nat.reduceEqDiff];exact q6,by simp only [aA,reduceIte,Nat.reduceEqDiff];exact q7,ay _ _ _,?_,?_,ne2,λl hl=> ?_,?_⟩
  .rw [aj _ _ (by unfold nm;omega)];exact d9
  .rw [eT];refine gP.frame r4 λx hx=>aj _ _ ?_
   have:=(ne2 x hx).1;unfold nm at*;omega
  .rw [aj _ _ (by unfold nm;omega)];exact d12 l hl
  .show 3<=kk+1+j+1+1;omega
 .obtain⟨y,N,q1,q2,q3,q4,q5,q6,q7,q8,q9,q10,q11,q12,q13⟩:=hJ;rw [List.take_length]at q10;obtain⟨t,hh,nn,kk,mm⟩:=s;dsimp only at q1 q2 q3 q4 q5 q6 q7 q8 q9 q10 q11 q12 q13;subst q3;have q4:=q4.symm;subst q4;show aw E G _ _ _ _;refine aP (bX rfl (cZ rfl (by simp only [dOK];decide) ?_));simp only [jr,q6,q8,go_sem,reduceIte,Nat.reduceEqDiff,Nat.reduceSub,Nat.reduceAdd,reduceCtorEq,Nat.reduceLeDiff];refine bX rfl (gQ rfl (by simp only [dOK]) ?_);simp only [aX,dO,aI,splice,jr,q7,q9,aF,List.nil_append,List.append_nil,go_sem,reduceIte,Nat.reduceEqDiff,Nat.reduceSub,Nat.reduceAdd,reduceCtorEq,Nat.reduceLeDiff];refine lQ ?_;simp only [pX,oh,one,q7,jr,go_sem,reduceIte,Nat.reduceEqDiff,Nat.reduceSub,Nat.reduceAdd,reduceCtorEq,Nat.reduceLeDiff];obtain⟨M,hM,hMN⟩:=q10.tree;refine hK _ kk y M (hM.frame λx hx=>aj _ _ ?_) ⟨λl hl=> ?_,λl hl=> ?_⟩
  .have:=(q11 x (hMN x hx)).1;unfold nm at*;omega
  .have:=q11 l (hMN l hl);unfold nm at*;omega
  .rw [aj _ _ (by unfold nm;omega)];exact q12 l hl
attribute [local go_sem] aH AE.ev fD aB aD bZ nD St.put aA AE.look Ej bF nJ fF qG mh iU.agg List.getElem?_cons Nat.add_zero Nat.zero_add ne_eq not_false_eq_true true_and Nat.one_ne_zero Nat.succ_ne_self Bool.false_eq_true List.length List.drop List.take if_true if_false List.cons_ne_nil Nat.le_refl and_true
def uw:Trans:=λargs h n K=>∃(x:Cell) (p:List Atom),args=[.agg [x]]/\Read x 4 (p.map iG)/\p.length<=gX/\(∀a∈p,rT a.x/\rT a.y)/\
 ∀h' j y N,aN h' y (.rows 4 (p.map iG)) N->fresh h h' n j N->K (.agg [y]) h' j
theorem Sj{G:fO}(hG:G 41=some oF){tbl:Nat->List dK}(ht:tbl 5=[(0,([3],[])),(1,([13],[])),(2,([5],[])),(3,([15],[])),(4,([5],[])),(5,([17],[])),(6,([5],[])),(7,([19],[])),(9,([5],[])),(10,([22],[])),(8,([20],[1,3,5,10])),(11,([23],[1,3,5])),(12,([16,18,21,24],[])),(13,([25],[1])),(14,([14,26],[])),(15,([3],[])),(16,([27,28],[]))])
  {args:List PV} {h:Heap} {n:Nat} {K:PV->Heap->Nat->Prop} (hR:uw args h n K): @dh E G (@drA ⟨[25],[]⟩ E G tbl) Tryz.f40 (Tryz.f40.body.getD .skip) args h n K:=by
 letI:aQ:=⟨[25],[]⟩
 obtain⟨x,p,rfl,hx,hl,ha,hK⟩:=hR;have GK:E.ty 32=some ⟨.struct [(0,30)],1,24,[.nil]⟩:=rfl;have t106:E.ty 30=some ⟨.slice 90,1,24,[.nil]⟩:=rfl;have t194:E.ty 90=some ⟨.struct [(0,3),(1,3),(2,35),(3,35)],4,64,[z0,z0,.nil,.nil]⟩:=rfl;have jr:E.ty 35=some ⟨.struct [(0,33)],1,24,[.nil]⟩:=rfl;have t3:E.ty 3=some u0:=rfl;unfold dh;dsimp only [Tryz.f40,Option.getD,slotsOf,List.length];refine aP (bX rfl (gQ rfl (by simp only [dOK];decide) ?_));simp only [aX,aI,go_sem,reduceIte,Nat.reduceEqDiff,Nat.reduceSub,Nat.reduceAdd,reduceCtorEq,Nat.reduceLeDiff];refine bX rfl (gQ rfl (by simp only [dOK];decide) ?_);simp only [aX,GK,aF,go_sem,reduceIte,Nat.reduceEqDiff,Nat.reduceSub,Nat.reduceAdd,reduceCtorEq,Nat.reduceLeDiff];refine aP (bX rfl (gQ rfl (by simp only [dOK];decide) ?_));simp only [aX,GK,aF,go_sem,reduceIte,Nat.reduceEqDiff,Nat.reduceSub,Nat.reduceAdd,reduceCtorEq,Nat.reduceLeDiff];refine bG (aP ?_);have abL:oW (.c x)=λK=>K (ci .i64 p.length):=by
  rcases hx with⟨f,rfl⟩ | ⟨rfl,he⟩
  .unfold oW;simp
  .have:p=[]:=by simpa using he
   subst this;rfl
 refine bX rfl (cZ rfl (by simp only [dOK];decide) ?_);simp only [GK,t106,go_sem,reduceIte,Nat.reduceEqDiff,Nat.reduceSub,Nat.reduceAdd,reduceCtorEq,Nat.reduceLeDiff];refine bX rfl (cZ rfl (by simp only [dOK];decide) ?_);simp only [GK,t106,go_sem,reduceIte,Nat.reduceEqDiff,Nat.reduceSub,Nat.reduceAdd,reduceCtorEq,Nat.reduceLeDiff];refine bX rfl (cZ rfl (by simp only [dOK];decide) ?_);simp only [GK,t106,lT,abL,go_sem,reduceIte,Nat.reduceEqDiff,Nat.reduceSub,Nat.reduceAdd,reduceCtorEq,Nat.reduceLeDiff];refine bX rfl (cZ rfl (by simp only [dOK];decide) ?_);simp only [GK,t106,aF,go_sem,reduceIte,Nat.reduceEqDiff,Nat.reduceSub,Nat.reduceAdd,reduceCtorEq,Nat.reduceLeDiff]
 let J:Nat->St->Prop:=λi s=>∃(y:Cell) (N:Nat->Prop),aA s.t 9=some (ci .i64 i)/\aA s.t 8=some (ci .i64 p.length)/\s.m=31/\s.n=n/\aA s.t 7=some (.c x)/\
  aA s.t 3=some (.c (.ptr (nm n 2) 1 0 0))/\aA s.t 2=some (.c (.ptr (nm n 1) 1 0 0))/\AE.look s.h (nm n 2)=some (.box [y])/\AE.look s.h (nm n 1)=some (.box [.nil])/\
  gP s.h y 4 ((p.take i).map iG) N/\(∀l,N l->nm n 3<=l/\l<nm n s.k)/\(∀l,l<n->AE.look s.h l=AE.look h l)/\3<=s.k
 refine DY (n:=p.length) J rfl rfl rfl rfl rfl rfl rfl rfl rfl (by unfold gX at hl;omega) (λi s hJ=> ?_) (λi s b hJ=> ?_) ?_ (λi s hi hJ Q2 hQ=> ?_) (λs hJ=> ?_)
 .obtain⟨y,N,q1,q2,q3,q4,q5,q6,q7,q8,q9,q10,q11,q12,q13⟩:=hJ;exact⟨q1,q2,by rw [q3];decide,by rw [q3];decide,by rw [q3];decide⟩
 .obtain⟨y,N,q1,q2,q3,q4,q5,q6,q7,q8,q9,q10,q11,q12,q13⟩:=hJ
  exact⟨y,N,by simp only [aA,reduceIte,Nat.reduceEqDiff];exact q1,by simp only [aA,reduceIte,Nat.reduceEqDiff];exact q2,q3,q4,by simp only [aA,reduceIte,Nat.reduceEqDiff];exact q5,
   by simp only [aA,reduceIte,Nat.reduceEqDiff];exact q6,by simp only [aA,reduceIte,Nat.reduceEqDiff];exact q7,q8,q9,q10,q11,q12,q13⟩
 .refine⟨.nil,λ_=>False,rfl,rfl,rfl,rfl,rfl,rfl,rfl,?_,?_,.inl ⟨rfl,rfl⟩,λ_ h=>h.elim,λl hl=> ?_,Nat.le_refl _⟩
  .simp only [go_sem,reduceIte,Nat.reduceEqDiff,Nat.reduceSub,Nat.reduceAdd,reduceCtorEq,Nat.reduceLeDiff]
  .simp only [go_sem,reduceIte,Nat.reduceEqDiff,Nat.reduceSub,Nat.reduceAdd,reduceCtorEq,Nat.reduceLeDiff]
  .have a:∀q,nm n q≠l:=λq=>by unfold nm;omega
   rw [aj _ _ (a _),aj _ _ (a _),aj _ _ (a _)]
 .obtain⟨y,N,q1,q2,q3,q4,q5,q6,q7,q8,q9,q10,q11,q12,q13⟩:=hJ;obtain⟨f,rfl⟩:∃f,x= .d f (.rows 4 (p.map iG)):=by
   rcases hx with h | ⟨_,he⟩
   .exact h
   .have:p=[]:=by simpa using he
    subst this;exact absurd hi (Nat.not_lt_zero _)
  have hm:p[i]? =some p[i]:=List.getElem?_eq_getElem hi;obtain⟨t,hh,nn,kk,mm⟩:=s;dsimp only at q1 q2 q3 q4 q5 q6 q7 q8 q9 q10 q11 q12 q13;subst q3;have q4:=q4.symm;subst q4;refine rD (aP (bX rfl (cZ rfl (by simp only [dOK];decide) ?_)));simp only [t106,t194,q5,q1,bV,jQ,ci,go_sem,reduceIte,Nat.reduceEqDiff,Nat.reduceSub,Nat.reduceAdd,reduceCtorEq,Nat.reduceLeDiff];refine⟨λ_=>trivial,ah,by simpa using hi,?_⟩;refine bX rfl (cZ rfl (by simp only [dOK];decide) ?_);simp only [t106,t194,D8,nW,Int.toNat_natCast,go_sem,reduceIte,Nat.reduceEqDiff,Nat.reduceSub,Nat.reduceAdd,reduceCtorEq,Nat.reduceLeDiff];refine⟨by simpa using hi,λrow hrow=> ?_⟩;have hrow:row=iG p[i]:=by
   rw [List.getElem?_map,hm]at hrow;simpa using hrow.symm
  subst hrow;simp only [iG,List.map,go_sem,reduceIte,Nat.reduceEqDiff,Nat.reduceSub,Nat.reduceAdd,reduceCtorEq,Nat.reduceLeDiff];refine bX rfl (gQ rfl (by simp only [dOK];decide) ?_);simp only [aX,t194,go_sem,reduceIte,Nat.reduceEqDiff,Nat.reduceSub,Nat.reduceAdd,reduceCtorEq,Nat.reduceLeDiff];refine bX rfl (gQ rfl (by simp only [dOK]) ?_);simp only [aX,dO,aI,splice,t194,aF,List.nil_append,List.append_nil,go_sem,reduceIte,Nat.reduceEqDiff,Nat.reduceSub,Nat.reduceAdd,reduceCtorEq,Nat.reduceLeDiff];generalize hb:((nm n kk,dx.box [Cell.d f (D.int .i64 p[i].kind),Cell.d f (D.int .i64 p[i].k),Cell.d f (bW p[i].x),Cell.d f (bW p[i].y)])::(nm n kk,dx.box [z0,z0,Cell.nil,Cell.nil])::hh:Heap)=h1;have w1:AE.look h1 (nm n kk)=some (.box [Cell.d f (D.int .i64 p[i].kind),Cell.d f (D.int .i64 p[i].k),Cell.d f (bW p[i].x),Cell.d f (bW p[i].y)]):=by rw [<-hb];exact ay _ _ _
  have w2:∀x,x≠nm n kk->AE.look h1 x=AE.look hh x:=λx hx=>by rw [<-hb,aj _ _ (Ne.symm hx),aj _ _ (Ne.symm hx)]
  have a8:AE.look h1 (nm n 2)=some (.box [y]):=by rw [w2 _ (by unfold nm;omega)];exact q8
  have a9:AE.look h1 (nm n 1)=some (.box [.nil]):=by rw [w2 _ (by unfold nm;omega)];exact q9
  have a10:gP h1 y 4 ((p.take i).map iG) N:=q10.frame λx hx=>w2 x (by have:=(q11 x hx).2;unfold nm at*;omega)
  have a12:∀l,l<n->AE.look h1 l=AE.look h l:=λl hl=>by rw [w2 l (by unfold nm;omega)];exact q12 l hl
  clear hb q8 q9 q10 q12
  refine Kr ⟨?_,?_⟩
  .unfold Static;rw [ht];kernel_rfl
  rw [ht];refine aY rfl rfl (by simp only [dOK];decide) rfl ?_;simp only [cut,q6,GK,t106,go_sem,reduceIte,Nat.reduceEqDiff,Nat.reduceSub,Nat.reduceAdd,reduceCtorEq,Nat.reduceLeDiff];refine aY rfl rfl (by simp only [dOK];decide) rfl ?_;simp only [cut,a8,t106,go_sem,reduceIte,Nat.reduceEqDiff,Nat.reduceSub,Nat.reduceAdd,reduceCtorEq,Nat.reduceLeDiff];refine aY rfl rfl (by simp only [dOK];decide) rfl ?_;simp only [cut,t194,t3,go_sem,reduceIte,Nat.reduceEqDiff,Nat.reduceSub,Nat.reduceAdd,reduceCtorEq,Nat.reduceLeDiff];refine aY rfl rfl (by simp only [dOK];decide) rfl ?_;simp only [cut,w1,t3,go_sem,reduceIte,Nat.reduceEqDiff,Nat.reduceSub,Nat.reduceAdd,reduceCtorEq,Nat.reduceLeDiff];refine aY rfl rfl (by simp only [dOK];decide) rfl ?_;simp only [cut,t194,t3,go_sem,reduceIte,Nat.reduceEqDiff,Nat.reduceSub,Nat.reduceAdd,reduceCtorEq,Nat.reduceLeDiff];refine aY rfl rfl (by simp only [dOK];decide) rfl ?_;simp only [cut,w1,t3,go_sem,reduceIte,Nat.reduceEqDiff,Nat.reduceSub,Nat.reduceAdd,reduceCtorEq,Nat.reduceLeDiff];refine aY rfl rfl (by simp only [dOK];decide) rfl ?_;simp only [cut,t194,jr,go_sem,reduceIte,Nat.reduceEqDiff,Nat.reduceSub,Nat.reduceAdd,reduceCtorEq,Nat.reduceLeDiff];refine aY rfl rfl (by simp only [dOK];decide) rfl ?_;simp only [cut,w1,jr,go_sem,reduceIte,Nat.reduceEqDiff,Nat.reduceSub,Nat.reduceAdd,reduceCtorEq,Nat.reduceLeDiff];refine aY rfl rfl (by simp only [dOK];decide) rfl ?_;simp only [cut,t194,jr,go_sem,reduceIte,Nat.reduceEqDiff,Nat.reduceSub,Nat.reduceAdd,reduceCtorEq,Nat.reduceLeDiff];refine aY rfl rfl (by simp only [dOK];decide) rfl ?_;simp only [cut,w1,jr,go_sem,reduceIte,Nat.reduceEqDiff,Nat.reduceSub,Nat.reduceAdd,reduceCtorEq,Nat.reduceLeDiff];refine iq rfl rfl (by simp only [dOK];decide) rfl (iW rfl ?_);simp only [cut,dw,jy,fnA,iK,jf,hG,List.map,List.append_nil,go_sem,reduceIte,Nat.reduceEqDiff,Nat.reduceSub,Nat.reduceAdd,reduceCtorEq,Nat.reduceLeDiff];obtain⟨bx,by_⟩:=ha _ (List.getElem_mem hi);refine⟨_,p[i].x,rfl,.inl ⟨f,rfl⟩,bx.1,bx.2,λh2 j y2 N2 tr fr=> ?_⟩;have b1:AE.look h2 (nm n kk)=some (.box [Cell.d f (D.int .i64 p[i].kind),Cell.d f (D.int .i64 p[i].k),Cell.d f (bW p[i].x),Cell.d f (bW p[i].y)]):=by rw [fr.2 _ (by unfold nm;omega)];exact w1
  have b8:AE.look h2 (nm n 2)=some (.box [y]):=by rw [fr.2 _ (by unfold nm;omega)];exact a8
  have b9:AE.look h2 (nm n 1)=some (.box [.nil]):=by rw [fr.2 _ (by unfold nm;omega)];exact a9
  have b10:gP h2 y 4 ((p.take i).map iG) N:=a10.frame λx hx=>fr.2 x (by have:=(q11 x hx).2;unfold nm at*;omega)
  have b12:∀l,l<n->AE.look h2 l=AE.look h l:=λl hl=>by rw [fr.2 l (by unfold nm;omega)];exact a12 l hl
  simp only [jS,iF,eH,cut,b1,b8,jr,t3,t106,t194,go_sem,reduceIte,Nat.reduceEqDiff,Nat.reduceSub,Nat.reduceAdd,reduceCtorEq,Nat.reduceLeDiff];refine iq rfl rfl (by simp only [dOK];decide) rfl (iW rfl ?_);simp only [cut,dw,jy,fnA,iK,jf,hG,List.map,List.append_nil,go_sem,reduceIte,Nat.reduceEqDiff,Nat.reduceSub,Nat.reduceAdd,reduceCtorEq,Nat.reduceLeDiff];refine⟨_,p[i].y,rfl,.inl ⟨f,rfl⟩,by_.1,by_.2,λh5 j5 y5 N5 tr5 fr5=> ?_⟩;have e1:AE.look h5 (nm n kk)=some (.box [Cell.d f (D.int .i64 p[i].kind),Cell.d f (D.int .i64 p[i].k),Cell.d f (bW p[i].x),Cell.d f (bW p[i].y)]):=by rw [fr5.2 _ (by unfold nm;omega)];exact b1
  have e8:AE.look h5 (nm n 2)=some (.box [y]):=by rw [fr5.2 _ (by unfold nm;omega)];exact b8
  have e9:AE.look h5 (nm n 1)=some (.box [.nil]):=by rw [fr5.2 _ (by unfold nm;omega)];exact b9
  have e10:gP h5 y 4 ((p.take i).map iG) N:=b10.frame λx hx=>fr5.2 x (by have:=(q11 x hx).2;unfold nm at*;omega)
  have e12:∀l,l<n->AE.look h5 l=AE.look h l:=λl hl=>by rw [fr5.2 l (by unfold nm;omega)];exact b12 l hl
  have etr:aN h5 y2 (bW p[i].x) N2:=tr.frame λx hx=>fr5.2 x (by have:=(fr.1 x hx).2;unfold nm at*;omega)
  simp only [jS,iF,eH,cut,e1,e8,jr,t3,t106,t194,go_sem,reduceIte,Nat.reduceEqDiff,Nat.reduceSub,Nat.reduceAdd,reduceCtorEq,Nat.reduceLeDiff];refine aY rfl rfl (by simp only [dOK];decide) rfl ?_;simp only [cut,jX,jW,lD,splice,aI,t194,t3,jr,List.nil_append,List.cons_append,List.append_nil,go_sem,reduceIte,Nat.reduceEqDiff,Nat.reduceSub,Nat.reduceAdd,reduceCtorEq,Nat.reduceLeDiff];refine⟨by simp [t3,jr],?_⟩;refine iq rfl rfl (by simp only [dOK];decide) rfl (sN rfl ?_);have k2:(kk+1+j+j5=2)=False:=eq_false ah;simp only [nG,vw,aI,cut,t106,t194,jS,iF,eH,e8,k2,List.nil_append,List.append_nil,List.cons_append,List.map,go_sem,reduceIte,Nat.reduceEqDiff,Nat.reduceSub,Nat.reduceAdd,reduceCtorEq,Nat.reduceLeDiff];refine⟨rfl,by decide,?_⟩;generalize hb:((nm n (kk+1+j+j5),dx.grid 4 [[Cell.d f (D.int .i64 p[i].kind),Cell.d f (D.int .i64 p[i].k),y2,y5]])::h5:Heap)=h3;have v1:AE.look h3 (nm n (kk+1+j+j5))=some (.grid 4 [[Cell.d f (D.int .i64 p[i].kind),Cell.d f (D.int .i64 p[i].k),y2,y5]]):=by rw [<-hb];exact ay _ _ _
  have v2:∀x,x≠nm n (kk+1+j+j5)->AE.look h3 x=AE.look h5 x:=λx hx=>by rw [<-hb,aj _ _ (Ne.symm hx)]
  have c8:AE.look h3 (nm n 2)=some (.box [y]):=by rw [v2 _ (by unfold nm;omega)];exact e8
  have c9:AE.look h3 (nm n 1)=some (.box [.nil]):=by rw [v2 _ (by unfold nm;omega)];exact e9
  have c10:gP h3 y 4 ((p.take i).map iG) N:=e10.frame λx hx=>v2 x (by have:=(q11 x hx).2;unfold nm at*;omega)
  have c12:∀l,l<n->AE.look h3 l=AE.look h l:=λl hl=>by rw [v2 l (by unfold nm;omega)];exact e12 l hl
  have ctr:aN h3 y2 (bW p[i].x) N2:=etr.frame λx hx=>v2 x (by have:=(fr.1 x hx).2;unfold nm at*;omega)
  have amo:aN h3 y5 (bW p[i].y) N5:=tr5.frame λx hx=>v2 x (by have:=(fr5.1 x hx).2;unfold nm at*;omega)
  clear hb
  refine iq rfl rfl (by simp only [dOK];decide) rfl (sN rfl ?_);simp only [nG,MJ,O4,cut,t106,t194,v1,go_sem,reduceIte,Nat.reduceEqDiff,Nat.reduceSub,Nat.reduceAdd,reduceCtorEq,Nat.reduceLeDiff];have eL:((p.take i).map iG).length=i:=by simp;omega
  have abM:∀x,N x->x<nm n (kk+1+j+j5+1):=λx hx=>by have:=(q11 x hx).2;unfold nm at*;omega
  have g2:∀x,N2 x->nm n (kk+1)<=x/\x<nm n (kk+1+j):=λx hx=>by have:=fr.1 x hx;unfold nm at*;omega
  have g5:∀x,N5 x->nm n (kk+1+j)<=x/\x<nm n (kk+1+j+j5):=λx hx=>by have:=fr5.1 x hx;unfold nm at*;omega
  refine gP.app (M:=λq x=>(q=2/\N2 x)\/(q=3/\N5 x)) (d:=iG p[i]) c10 rfl rfl ⟨2,by decide,rfl⟩ (λq hq=> ?_) (λq x hq hx=> ?_) abM (λq q' x _ _ hx hx'=> ?_) (by rw [eL];omega) (λh4 r4 f4=> ?_)
  .have hq2:q=0\/q=1\/q=2\/q=3:=by omega
   rcases hq2 with rfl | rfl | rfl | rfl
   .exact aN.cast (.int f .i64 p[i].kind) λx=>⟨λh=>h.elim,λh=>by rcases h with h | h<;>exact absurd h.1 (by decide)⟩
   .exact aN.cast (.int f .i64 p[i].k) λx=>⟨λh=>h.elim,λh=>by rcases h with h | h<;>exact absurd h.1 (by decide)⟩
   .exact aN.cast ctr λx=>⟨λh=> .inl ⟨rfl,h⟩,λh=>by rcases h with h | h;exact h.2;exact absurd h.1 (by decide)⟩
   .exact aN.cast amo λx=>⟨λh=> .inr ⟨rfl,h⟩,λh=>by rcases h with h | h;exact absurd h.1 (by decide);exact h.2⟩
  .rcases hx with⟨_,hx⟩ | ⟨_,hx⟩
   .have:=g2 x hx;exact⟨by unfold nm at*;omega,λhN=>by have:=q11 x hN;unfold nm at*;omega⟩
   .have:=g5 x hx;exact⟨by unfold nm at*;omega,λhN=>by have:=q11 x hN;unfold nm at*;omega⟩
  .rcases hx with⟨e,hx⟩ | ⟨e,hx⟩<;>rcases hx' with⟨e',hx'⟩ | ⟨e',hx'⟩
   .omega
   .have:=g2 x hx;have:=g5 x hx';unfold nm at*;omega
   .have:=g5 x hx;have:=g2 x hx';unfold nm at*;omega
   .omega
  have d8:AE.look h4 (nm n 2)=some (.box [y]):=by rw [f4 _ (by unfold nm;omega) (λhN=>by have:=(q11 _ hN).1;unfold nm at*;omega)];exact c8
  have d9:AE.look h4 (nm n 1)=some (.box [.nil]):=by rw [f4 _ (by unfold nm;omega) (λhN=>by have:=(q11 _ hN).1;unfold nm at*;omega)];exact c9
  have d12:∀l,l<n->AE.look h4 l=AE.look h l:=λl hl=>by rw [f4 l (by unfold nm;omega) (λhN=>by have:=(q11 _ hN).1;unfold nm at*;omega)];exact c12 l hl
  refine⟨trivial,?_⟩;refine aY rfl rfl (by simp only [dOK];decide) rfl ?_;simp only [cut,q6,GK,t106,go_sem,reduceIte,Nat.reduceEqDiff,Nat.reduceSub,Nat.reduceAdd,reduceCtorEq,Nat.reduceLeDiff];refine iq rfl rfl (by simp only [dOK]) rfl (ou rfl ?_);simp only [aX,dO,aI,splice,cut,t106,d8,jS,List.nil_append,List.append_nil,go_sem,reduceIte,Nat.reduceEqDiff,Nat.reduceSub,Nat.reduceAdd,reduceCtorEq,Nat.reduceLeDiff];show Q2 .normal _;refine hQ _ (by simp only [aA,reduceIte,Nat.reduceEqDiff];exact q1) (show 29<31 by decide) (show 9<31 by decide) ?_;have eT:(p.take (i+1)).map iG=(p.take i).map iG++ [iG p[i]]:=by rw [List.take_succ_eq_append_getElem hi,List.map_append];rfl
  have ne2:∀x,(x=nm n (kk+1+j+j5+1)\/N x\/∃q,q<4/\((q=2/\N2 x)\/(q=3/\N5 x)))->nm n 3<=x/\x<nm n (kk+1+j+j5+1+1):=by
   rintro x (rfl | hx | ⟨q,_,⟨_,hx⟩ | ⟨_,hx⟩⟩)
   .unfold nm;omega
   .have:=q11 x hx;unfold nm at*;omega
   .have:=g2 x hx;unfold nm at*;omega
   .have:=g5 x hx;unfold nm at*;omega
  refine⟨_,_,by simp only [aA,reduceIte],by simp only [aA,reduceIte,Nat.reduceEqDiff];exact q2,rfl,rfl,by simp only [aA,reduceIte,Nat.reduceEqDiff];exact q5,
   by simp only [aA,reduceIte,Nat.reduceEqDiff];exact q6,by simp only [aA,reduceIte,Nat.reduceEqDiff];exact q7,ay _ _ _,?_,?_,ne2,λl hl=> ?_,?_⟩
  .rw [aj _ _ (by unfold nm;omega)];exact d9
  .rw [eT];refine gP.frame r4 λx hx=>aj _ _ ?_
   have:=(ne2 x hx).1;unfold nm at*;omega
  .rw [aj _ _ (by unfold nm;omega)];exact d12 l hl
  .show 3<=kk+1+j+j5+1+1;omega
 .obtain⟨y,N,q1,q2,q3,q4,q5,q6,q7,q8,q9,q10,q11,q12,q13⟩:=hJ;rw [List.take_length]at q10;obtain⟨t,hh,nn,kk,mm⟩:=s;dsimp only at q1 q2 q3 q4 q5 q6 q7 q8 q9 q10 q11 q12 q13;subst q3;have q4:=q4.symm;subst q4;show aw E G _ _ _ _;refine aP (bX rfl (cZ rfl (by simp only [dOK];decide) ?_));simp only [GK,q6,q8,go_sem,reduceIte,Nat.reduceEqDiff,Nat.reduceSub,Nat.reduceAdd,reduceCtorEq,Nat.reduceLeDiff];refine bX rfl (gQ rfl (by simp only [dOK]) ?_);simp only [aX,dO,aI,splice,GK,q7,q9,aF,List.nil_append,List.append_nil,go_sem,reduceIte,Nat.reduceEqDiff,Nat.reduceSub,Nat.reduceAdd,reduceCtorEq,Nat.reduceLeDiff];refine lQ ?_;simp only [pX,oh,one,q7,GK,go_sem,reduceIte,Nat.reduceEqDiff,Nat.reduceSub,Nat.reduceAdd,reduceCtorEq,Nat.reduceLeDiff];obtain⟨M,hM,hMN⟩:=q10.tree;refine hK _ kk y M (hM.frame λx hx=>aj _ _ ?_) ⟨λl hl=> ?_,λl hl=> ?_⟩
  .have:=(q11 x (hMN x hx)).1;unfold nm at*;omega
  .have:=q11 l (hMN l hl);unfold nm at*;omega
  .rw [aj _ _ (by unfold nm;omega)];exact q12 l hl
attribute [local go_sem] aH AE.ev fD aB aD bZ nD St.put aA AE.look Ej bF nJ fF qG mh iU.agg List.getElem?_cons Nat.add_zero Nat.zero_add ne_eq not_false_eq_true true_and Nat.one_ne_zero Nat.succ_ne_self Bool.false_eq_true List.length List.drop List.take if_true if_false List.cons_ne_nil Nat.le_refl and_true
def GL(d:List D):Prop:=∃p:List ak,d=jA p/\rT p
structure ahW(s:Sym):Prop where
 ev:s.events.length<=gX
 evs:∀e∈s.events,rT e.x/\rT e.y/\e.regs.length<=gX/\∀p∈e.regs,rT p
 rg:s.regs.length<=gX
 rgs:∀p∈s.regs,rT p
 x:rT s.x
 y:rT s.y
def UH{l:List (List ak)}(h:∀p∈l,rT p):∀d∈l.map jA,ElB 1 d/\GL d:=λd hd=>by
 obtain⟨p,hp,rfl⟩:=List.mem_map.1 hd;exact⟨⟨rfl,0,by decide,rfl⟩,p,rfl,h p hp⟩
def y8:Trans:=λargs h n K=>∃(c0 c1 c3 c4:Cell) (f2 f5:Bool) (s:Sym),args=[.agg [c0,c1,.d f2 (.int .i64 s.fin),c3,c4,.d f5 (.int .i64 s.k)]]/\Read c0 5 (s.events.map evR)/\Je c1 1 (s.regs.map jA)/\Read c3 2 (s.x.map kQ)/\Read c4 2 (s.y.map kQ)/\ahW s/\
 ∀h' j y0 y1 y3 y4 N0 N1 N3 N4,aN h' y0 (.rows 5 (s.events.map evR)) N0->aN h' y1 (.rows 1 (s.regs.map jA)) N1->aN h' y3 (bW s.x) N3->aN h' y4 (bW s.y) N4->
  (∀l,N0 l->¬N1 l/\¬N3 l/\¬N4 l)->(∀l,N1 l->¬N3 l/\¬N4 l)->(∀l,N3 l->¬N4 l)->fresh h h' n j (λl=>N0 l\/N1 l\/N3 l\/N4 l)->K (.agg [y0,y1,.d f2 (.int .i64 s.fin),y3,y4,.d f5 (.int .i64 s.k)]) h' j
theorem Sk{G:fO}(hG:G 41=some oF)(hH:G 155=some (acw 1 GL)){tbl:Nat->List dK}
  (ht1:tbl 1=[(0,([1],[])),(1,([6],[])),(3,([1],[])),(4,([9],[])),(5,([1],[])),(6,([11],[])),(8,([1],[])),(9,([14],[])),(11,([1],[])),(12,([17],[])),(2,([7],[4,6,9,12])),(7,([12],[4,9,12])),(10,([15],[4,12])),(13,([8,10,13,16,18],[])),(14,([],[])),(15,([3,19],[]))])
  (ht5:tbl 5=[(0,([3],[])),(1,([27],[])),(2,([5],[])),(3,([29],[])),(4,([5],[])),(5,([31],[])),(6,([5],[])),(7,([33],[])),(9,([5],[])),(10,([36],[])),(12,([5],[])),(13,([39],[])),(8,([34],[1,3,5,10,13])),(11,([37],[1,3,5,13])),(14,([40],[1,3,5])),(15,([30,32,35,38,41],[])),(16,([42],[1])),(17,([28,43],[])),(18,([3],[])),(19,([44,45],[]))])
  {args:List PV} {h:Heap} {n:Nat} {K:PV->Heap->Nat->Prop} (hR:y8 args h n K): @dh E G (@drA ⟨[42],[]⟩ E G tbl) Tryz.f119 (Tryz.f119.body.getD .skip) args h n K:=by
 letI:aQ:=⟨[42],[]⟩
 obtain⟨c0,c1,c3,c4,f2,f5,s,rfl,r0,r1,r3,r4,sb,hK⟩:=hR;have t117:E.ty 52=some ⟨.struct [(0,49),(1,50),(2,3),(3,35),(4,35),(5,3)],6,112,[.nil,.nil,z0,.nil,.nil,z0]⟩:=rfl;have xE:E.ty 49=some ⟨.slice 97,1,24,[.nil]⟩:=rfl;have t109:E.ty 50=some ⟨.slice 35,1,24,[.nil]⟩:=rfl;have y9:E.ty 97=some ⟨.struct [(0,3),(1,3),(2,35),(3,35),(4,50)],5,88,[z0,z0,.nil,.nil,.nil]⟩:=rfl;have jr:E.ty 35=some ⟨.struct [(0,33)],1,24,[.nil]⟩:=rfl;have t3:E.ty 3=some u0:=rfl;unfold dh;dsimp only [Tryz.f119,Option.getD,slotsOf,List.length];refine aP (bX rfl (gQ rfl (by simp only [dOK];decide) ?_));simp only [aX,aI,go_sem,reduceIte,Nat.reduceEqDiff,Nat.reduceSub,Nat.reduceAdd,reduceCtorEq,Nat.reduceLeDiff];refine bX rfl (gQ rfl (by simp only [dOK];decide) ?_);simp only [aX,t117,aF,go_sem,reduceIte,Nat.reduceEqDiff,Nat.reduceSub,Nat.reduceAdd,reduceCtorEq,Nat.reduceLeDiff];refine BJ ⟨?_,?_⟩
 .unfold Static;rw [ht1];kernel_rfl
 rw [ht1];refine aY rfl rfl (by simp only [dOK];decide) rfl ?_;simp only [cut,t117,t109,go_sem,reduceIte,Nat.reduceEqDiff,Nat.reduceSub,Nat.reduceAdd,reduceCtorEq,Nat.reduceLeDiff];refine aY rfl rfl (by simp only [dOK];decide) rfl ?_;simp only [cut,t109,go_sem,reduceIte,Nat.reduceEqDiff,Nat.reduceSub,Nat.reduceAdd,reduceCtorEq,Nat.reduceLeDiff];refine aY rfl rfl (by simp only [dOK];decide) rfl ?_;simp only [cut,t117,t3,go_sem,reduceIte,Nat.reduceEqDiff,Nat.reduceSub,Nat.reduceAdd,reduceCtorEq,Nat.reduceLeDiff];refine aY rfl rfl (by simp only [dOK];decide) rfl ?_;simp only [cut,t3,go_sem,reduceIte,Nat.reduceEqDiff,Nat.reduceSub,Nat.reduceAdd,reduceCtorEq,Nat.reduceLeDiff];refine aY rfl rfl (by simp only [dOK];decide) rfl ?_;simp only [cut,t117,jr,go_sem,reduceIte,Nat.reduceEqDiff,Nat.reduceSub,Nat.reduceAdd,reduceCtorEq,Nat.reduceLeDiff];refine aY rfl rfl (by simp only [dOK];decide) rfl ?_;simp only [cut,jr,go_sem,reduceIte,Nat.reduceEqDiff,Nat.reduceSub,Nat.reduceAdd,reduceCtorEq,Nat.reduceLeDiff];refine aY rfl rfl (by simp only [dOK];decide) rfl ?_;simp only [cut,t117,jr,go_sem,reduceIte,Nat.reduceEqDiff,Nat.reduceSub,Nat.reduceAdd,reduceCtorEq,Nat.reduceLeDiff];refine aY rfl rfl (by simp only [dOK];decide) rfl ?_;simp only [cut,jr,go_sem,reduceIte,Nat.reduceEqDiff,Nat.reduceSub,Nat.reduceAdd,reduceCtorEq,Nat.reduceLeDiff];refine aY rfl rfl (by simp only [dOK];decide) rfl ?_;simp only [cut,t117,t3,go_sem,reduceIte,Nat.reduceEqDiff,Nat.reduceSub,Nat.reduceAdd,reduceCtorEq,Nat.reduceLeDiff];refine aY rfl rfl (by simp only [dOK];decide) rfl ?_;simp only [cut,t3,go_sem,reduceIte,Nat.reduceEqDiff,Nat.reduceSub,Nat.reduceAdd,reduceCtorEq,Nat.reduceLeDiff];refine iq rfl rfl (by simp only [dOK];decide) rfl (iW rfl ?_);simp only [cut,dw,jy,fnA,iK,jf,hH,List.map,List.append_nil,go_sem,reduceIte,Nat.reduceEqDiff,Nat.reduceSub,Nat.reduceAdd,reduceCtorEq,Nat.reduceLeDiff];refine⟨c1,_,rfl,r1,by simpa using sb.rg,UH sb.rgs,λh1 j1 y1 N1 tr1 fa1 fb1=> ?_⟩;have w1:AE.look h1 (nm n 0)=some (.box [c0,c1,.d f2 (.int .i64 s.fin),c3,c4,.d f5 (.int .i64 s.k)]):=by rw [fb1 _ (by unfold nm;omega)];simp only [go_sem,reduceIte,Nat.reduceEqDiff,Nat.reduceSub,Nat.reduceAdd,reduceCtorEq,Nat.reduceLeDiff]
 have v1:AE.look h1 (nm n 1)=some (.box [.nil,.nil,z0,.nil,.nil,z0]):=by rw [fb1 _ (by unfold nm;omega)];simp only [go_sem,reduceIte,Nat.reduceEqDiff,Nat.reduceSub,Nat.reduceAdd,reduceCtorEq,Nat.reduceLeDiff]
 have o1:∀l,l<n->AE.look h1 l=AE.look h l:=λl hl=>by rw [fb1 l (by unfold nm;omega),aj _ _ (by unfold nm;omega),aj _ _ (by unfold nm;omega)]
 simp only [jS,iF,eH,cut,w1,t3,jr,t109,go_sem,reduceIte,Nat.reduceEqDiff,Nat.reduceSub,Nat.reduceAdd,reduceCtorEq,Nat.reduceLeDiff];refine iq rfl rfl (by simp only [dOK];decide) rfl (iW rfl ?_);simp only [cut,dw,jy,fnA,iK,jf,hG,List.map,List.append_nil,go_sem,reduceIte,Nat.reduceEqDiff,Nat.reduceSub,Nat.reduceAdd,reduceCtorEq,Nat.reduceLeDiff];refine⟨c3,s.x,rfl,r3,sb.x.1,sb.x.2,λh3 j3 y3 N3 tr3 fr3=> ?_⟩;have w3:AE.look h3 (nm n 0)=some (.box [c0,c1,.d f2 (.int .i64 s.fin),c3,c4,.d f5 (.int .i64 s.k)]):=by rw [fr3.2 _ (by unfold nm;omega)];exact w1
 have v3:AE.look h3 (nm n 1)=some (.box [.nil,.nil,z0,.nil,.nil,z0]):=by rw [fr3.2 _ (by unfold nm;omega)];exact v1
 have o3:∀l,l<n->AE.look h3 l=AE.look h l:=λl hl=>by rw [fr3.2 l (by unfold nm;omega)];exact o1 l hl
 have p1:aN h3 y1 (.rows 1 (s.regs.map jA)) N1:=tr1.frame λx hx=>fr3.2 x (by have:=(fa1 x hx).2;unfold nm at*;omega)
 clear w1 v1 o1 tr1
 simp only [jS,iF,eH,cut,w3,t3,jr,t109,go_sem,reduceIte,Nat.reduceEqDiff,Nat.reduceSub,Nat.reduceAdd,reduceCtorEq,Nat.reduceLeDiff];refine iq rfl rfl (by simp only [dOK];decide) rfl (iW rfl ?_);simp only [cut,dw,jy,fnA,iK,jf,hG,List.map,List.append_nil,go_sem,reduceIte,Nat.reduceEqDiff,Nat.reduceSub,Nat.reduceAdd,reduceCtorEq,Nat.reduceLeDiff];refine⟨c4,s.y,rfl,r4,sb.y.1,sb.y.2,λh4 j4 y4 N4 tr4 fr4=> ?_⟩;have w4:AE.look h4 (nm n 0)=some (.box [c0,c1,.d f2 (.int .i64 s.fin),c3,c4,.d f5 (.int .i64 s.k)]):=by rw [fr4.2 _ (by unfold nm;omega)];exact w3
 have v4:AE.look h4 (nm n 1)=some (.box [.nil,.nil,z0,.nil,.nil,z0]):=by rw [fr4.2 _ (by unfold nm;omega)];exact v3
 have o4:∀l,l<n->AE.look h4 l=AE.look h l:=λl hl=>by rw [fr4.2 l (by unfold nm;omega)];exact o3 l hl
 have p14:aN h4 y1 (.rows 1 (s.regs.map jA)) N1:=p1.frame λx hx=>fr4.2 x (by have:=(fa1 x hx).2;unfold nm at*;omega)
 have p34:aN h4 y3 (bW s.x) N3:=tr3.frame λx hx=>fr4.2 x (by have:=(fr3.1 x hx).2;unfold nm at*;omega)
 clear w3 v3 o3 p1 tr3
 have g1:∀x,N1 x->nm n 2<=x/\x<nm n (2+j1):=λx hx=>by have:=fa1 x hx;unfold nm at*;omega
 have g3:∀x,N3 x->nm n (2+j1)<=x/\x<nm n (2+j1+j3):=λx hx=>by have:=fr3.1 x hx;unfold nm at*;omega
 have g4:∀x,N4 x->nm n (2+j1+j3)<=x/\x<nm n (2+j1+j3+j4):=λx hx=>by have:=fr4.1 x hx;unfold nm at*;omega
 simp only [jS,iF,eH,cut,w4,t3,jr,t109,go_sem,reduceIte,Nat.reduceEqDiff,Nat.reduceSub,Nat.reduceAdd,reduceCtorEq,Nat.reduceLeDiff];refine aY rfl rfl (by simp only [dOK];decide) rfl ?_;simp only [cut,jX,jW,lD,splice,aI,t117,t109,t3,jr,xE,List.nil_append,List.cons_append,List.append_nil,go_sem,reduceIte,Nat.reduceEqDiff,Nat.reduceSub,Nat.reduceAdd,reduceCtorEq,Nat.reduceLeDiff];refine⟨by simp [t3,jr,t109,xE],?_⟩;refine Fz rfl rfl (by simp only [dOK];decide) ?_;simp only [aX,t117,go_sem,reduceIte,Nat.reduceEqDiff,Nat.reduceSub,Nat.reduceAdd,reduceCtorEq,Nat.reduceLeDiff];refine iq rfl rfl (by simp only [dOK]) rfl (ou rfl ?_);simp only [aX,dO,aI,splice,cut,t117,jS,List.nil_append,List.append_nil,go_sem,reduceIte,Nat.reduceEqDiff,Nat.reduceSub,Nat.reduceAdd,reduceCtorEq,Nat.reduceLeDiff];have d13:∀l,N1 l->¬N3 l:=λl a b=>by have:=g1 l a;have:=g3 l b;unfold nm at*;omega
 have d14:∀l,N1 l->¬N4 l:=λl a b=>by have:=g1 l a;have:=g4 l b;unfold nm at*;omega
 have d34:∀l,N3 l->¬N4 l:=λl a b=>by have:=g3 l a;have:=g4 l b;unfold nm at*;omega
 have b1:∀l,N1 l->nm n 2<=l/\l<nm n (2+j1+j3+j4):=λl a=>by have:=g1 l a;unfold nm at*;omega
 have b3:∀l,N3 l->nm n 2<=l/\l<nm n (2+j1+j3+j4):=λl a=>by have:=g3 l a;unfold nm at*;omega
 have b4:∀l,N4 l->nm n 2<=l/\l<nm n (2+j1+j3+j4):=λl a=>by have:=g4 l a;unfold nm at*;omega
 have hk2:2<=2+j1+j3+j4:=by omega
 clear g1 g3 g4 fa1 fb1 fr3 fr4
 generalize 2+j1+j3+j4=q at*;refine BK ?_;generalize hb:((nm n q,dx.box [Cell.nil,y1,.d f2 (.int .i64 s.fin),y3,y4,.d f5 (.int .i64 s.k)])::(nm n q,dx.box [Cell.nil,Cell.nil,z0,Cell.nil,Cell.nil,z0])::h4:Heap)=h5;have e2:∀x,x≠nm n q->AE.look h5 x=AE.look h4 x:=λx hx=>by rw [<-hb,aj _ _ (Ne.symm hx),aj _ _ (Ne.symm hx)]
 have e5:AE.look h5 (nm n q)=some (.box [Cell.nil,y1,.d f2 (.int .i64 s.fin),y3,y4,.d f5 (.int .i64 s.k)]):=by rw [<-hb];exact ay _ _ _
 have w5:AE.look h5 (nm n 0)=some (.box [c0,c1,.d f2 (.int .i64 s.fin),c3,c4,.d f5 (.int .i64 s.k)]):=by rw [e2 _ (by unfold nm;omega)];exact w4
 have v5:AE.look h5 (nm n 1)=some (.box [.nil,.nil,z0,.nil,.nil,z0]):=by rw [e2 _ (by unfold nm;omega)];exact v4
 have o5:∀l,l<n->AE.look h5 l=AE.look h l:=λl hl=>by rw [e2 l (by unfold nm;omega)];exact o4 l hl
 have p15:aN h5 y1 (.rows 1 (s.regs.map jA)) N1:=p14.frame λx hx=>e2 x (by have:=(b1 x hx).2;omega)
 have p35:aN h5 y3 (bW s.x) N3:=p34.frame λx hx=>e2 x (by have:=(b3 x hx).2;omega)
 have p45:aN h5 y4 (bW s.y) N4:=tr4.frame λx hx=>e2 x (by have:=(b4 x hx).2;omega)
 clear hb e2 w4 v4 o4 p14 p34 tr4
 refine bG (aP ?_);have abL:oW (.c c0)=λK=>K (ci .i64 s.events.length):=by
  rcases r0 with⟨f,rfl⟩ | ⟨rfl,he⟩
  .unfold oW;simp
  .have:s.events=[]:=by simpa using he
   rw [this];rfl
 refine bX rfl (cZ rfl (by simp only [dOK];decide) ?_);simp only [t117,xE,go_sem,reduceIte,Nat.reduceEqDiff,Nat.reduceSub,Nat.reduceAdd,reduceCtorEq,Nat.reduceLeDiff];refine bX rfl (cZ rfl (by simp only [dOK];decide) ?_);simp only [w5,xE,go_sem,reduceIte,Nat.reduceEqDiff,Nat.reduceSub,Nat.reduceAdd,reduceCtorEq,Nat.reduceLeDiff];refine bX rfl (cZ rfl (by simp only [dOK];decide) ?_);simp only [xE,lT,abL,go_sem,reduceIte,Nat.reduceEqDiff,Nat.reduceSub,Nat.reduceAdd,reduceCtorEq,Nat.reduceLeDiff];refine bX rfl (cZ rfl (by simp only [dOK];decide) ?_);simp only [aF,go_sem,reduceIte,Nat.reduceEqDiff,Nat.reduceSub,Nat.reduceAdd,reduceCtorEq,Nat.reduceLeDiff]
 let J:Nat->St->Prop:=λi st=>∃(y:Cell) (N:Nat->Prop),aA st.t 23=some (ci .i64 i)/\aA st.t 22=some (ci .i64 s.events.length)/\st.m=48/\st.n=n/\aA st.t 21=some (.c c0)/\
  aA st.t 3=some (.c (.ptr (nm n q) 6 0 0))/\aA st.t 2=some (.c (.ptr (nm n 1) 6 0 0))/\AE.look st.h (nm n q)=some (.box [y,y1,.d f2 (.int .i64 s.fin),y3,y4,.d f5 (.int .i64 s.k)])/\
  gP st.h y 5 ((s.events.take i).map evR) N/\(∀l,N l->nm n (q+1)<=l/\l<nm n st.k)/\(∀l,l<nm n q->AE.look st.h l=AE.look h5 l)/\q+1<=st.k
 refine DY (n:=s.events.length) J rfl rfl rfl rfl rfl rfl rfl rfl rfl (by have:=sb.ev;unfold gX at this;omega) (λi s hJ=> ?_) (λi s b hJ=> ?_) ?_ (λi st hi hJ Q2 hQ=> ?_) (λst hJ=> ?_)
 .obtain⟨y,N,q1,q2,q3,q4,q5,q6,q7,q8,q10,q11,q12,q13⟩:=hJ;exact⟨q1,q2,by rw [q3];decide,by rw [q3];decide,by rw [q3];decide⟩
 .obtain⟨y,N,q1,q2,q3,q4,q5,q6,q7,q8,q10,q11,q12,q13⟩:=hJ;exact⟨y,N,by simp only [aA,reduceIte,Nat.reduceEqDiff];exact q1,by simp only [aA,reduceIte,Nat.reduceEqDiff];exact q2,q3,q4,by simp only [aA,reduceIte,Nat.reduceEqDiff];exact q5,by simp only [aA,reduceIte,Nat.reduceEqDiff];exact q6,by simp only [aA,reduceIte,Nat.reduceEqDiff];exact q7,q8,q10,q11,q12,q13⟩
 .exact⟨.nil,λ_=>False,rfl,rfl,rfl,rfl,rfl,rfl,rfl,e5,.inl ⟨rfl,rfl⟩,λ_ h=>h.elim,λl hl=>rfl,Nat.le_refl _⟩
 .obtain⟨y,N,q1,q2,q3,q4,q5,q6,q7,q8,q10,q11,q12,q13⟩:=hJ;obtain⟨g,rfl⟩:∃f,c0= .d f (.rows 5 (s.events.map evR)):=by
   rcases r0 with h | ⟨_,he⟩
   .exact h
   .have:s.events=[]:=by simpa using he
    rw [this]at hi;exact absurd hi (Nat.not_lt_zero _)
  have hm:s.events[i]? =some s.events[i]:=List.getElem?_eq_getElem hi;obtain⟨bx,by_,bl,br⟩:=sb.evs _ (List.getElem_mem hi);have eT:(s.events.take (i+1)).map evR=(s.events.take i).map evR++ [evR s.events[i]]:=by rw [List.take_succ_eq_append_getElem hi,List.map_append];rfl
  generalize s.events[i]=e at hm bx by_ bl br eT;obtain⟨t,hh,nn,kk,mm⟩:=st;dsimp only at q1 q2 q3 q4 q5 q6 q7 q8 q10 q11 q12 q13;subst q3;have q4:=q4.symm;subst q4;refine rD (aP (bX rfl (cZ rfl (by simp only [dOK];decide) ?_)));simp only [xE,y9,q5,q1,bV,jQ,ci,go_sem,reduceIte,Nat.reduceEqDiff,Nat.reduceSub,Nat.reduceAdd,reduceCtorEq,Nat.reduceLeDiff];refine⟨λ_=>trivial,ah,by simpa using hi,?_⟩;refine bX rfl (cZ rfl (by simp only [dOK];decide) ?_);simp only [xE,y9,D8,nW,Int.toNat_natCast,go_sem,reduceIte,Nat.reduceEqDiff,Nat.reduceSub,Nat.reduceAdd,reduceCtorEq,Nat.reduceLeDiff];refine⟨by simpa using hi,λrow hrow=> ?_⟩;have hrow:row=evR e:=by
   rw [List.getElem?_map,hm]at hrow;simpa using hrow.symm
  subst hrow;simp only [evR,List.map,go_sem,reduceIte,Nat.reduceEqDiff,Nat.reduceSub,Nat.reduceAdd,reduceCtorEq,Nat.reduceLeDiff];refine bX rfl (gQ rfl (by simp only [dOK];decide) ?_);simp only [aX,y9,go_sem,reduceIte,Nat.reduceEqDiff,Nat.reduceSub,Nat.reduceAdd,reduceCtorEq,Nat.reduceLeDiff];refine bX rfl (gQ rfl (by simp only [dOK]) ?_);simp only [aX,dO,aI,splice,y9,aF,List.nil_append,List.append_nil,go_sem,reduceIte,Nat.reduceEqDiff,Nat.reduceSub,Nat.reduceAdd,reduceCtorEq,Nat.reduceLeDiff];generalize hb:((nm n kk,dx.box [Cell.d g (D.int .i64 e.kind),Cell.d g (D.int .i64 e.at_),Cell.d g (bW e.x),Cell.d g (bW e.y),Cell.d g (.rows 1 (e.regs.map jA))])::(nm n kk,dx.box [z0,z0,Cell.nil,Cell.nil,Cell.nil])::hh:Heap)=h1;have u1:AE.look h1 (nm n kk)=some (.box [Cell.d g (D.int .i64 e.kind),Cell.d g (D.int .i64 e.at_),Cell.d g (bW e.x),Cell.d g (bW e.y),Cell.d g (.rows 1 (e.regs.map jA))]):=by rw [<-hb];exact ay _ _ _
  have u2:∀x,x≠nm n kk->AE.look h1 x=AE.look hh x:=λx hx=>by rw [<-hb,aj _ _ (Ne.symm hx),aj _ _ (Ne.symm hx)]
  have a8:AE.look h1 (nm n q)=some (.box [y,y1,.d f2 (.int .i64 s.fin),y3,y4,.d f5 (.int .i64 s.k)]):=by rw [u2 _ (by unfold nm;omega)];exact q8
  have a10:gP h1 y 5 ((s.events.take i).map evR) N:=q10.frame λx hx=>u2 x (by have:=(q11 x hx).2;unfold nm at*;omega)
  have a12:∀l,l<nm n q->AE.look h1 l=AE.look h5 l:=λl hl=>by rw [u2 l (by unfold nm at*;omega)];exact q12 l hl
  clear hb u2 q8 q10 q12
  refine Kr ⟨?_,?_⟩
  .unfold Static;rw [ht5];kernel_rfl
  rw [ht5];refine aY rfl rfl (by simp only [dOK];decide) rfl ?_;simp only [cut,q6,t117,xE,go_sem,reduceIte,Nat.reduceEqDiff,Nat.reduceSub,Nat.reduceAdd,reduceCtorEq,Nat.reduceLeDiff];refine aY rfl rfl (by simp only [dOK];decide) rfl ?_;simp only [cut,a8,xE,go_sem,reduceIte,Nat.reduceEqDiff,Nat.reduceSub,Nat.reduceAdd,reduceCtorEq,Nat.reduceLeDiff];refine aY rfl rfl (by simp only [dOK];decide) rfl ?_;simp only [cut,y9,t3,go_sem,reduceIte,Nat.reduceEqDiff,Nat.reduceSub,Nat.reduceAdd,reduceCtorEq,Nat.reduceLeDiff];refine aY rfl rfl (by simp only [dOK];decide) rfl ?_;simp only [cut,u1,t3,go_sem,reduceIte,Nat.reduceEqDiff,Nat.reduceSub,Nat.reduceAdd,reduceCtorEq,Nat.reduceLeDiff];refine aY rfl rfl (by simp only [dOK];decide) rfl ?_;simp only [cut,y9,t3,go_sem,reduceIte,Nat.reduceEqDiff,Nat.reduceSub,Nat.reduceAdd,reduceCtorEq,Nat.reduceLeDiff];refine aY rfl rfl (by simp only [dOK];decide) rfl ?_;simp only [cut,u1,t3,go_sem,reduceIte,Nat.reduceEqDiff,Nat.reduceSub,Nat.reduceAdd,reduceCtorEq,Nat.reduceLeDiff];refine aY rfl rfl (by simp only [dOK];decide) rfl ?_;simp only [cut,y9,jr,go_sem,reduceIte,Nat.reduceEqDiff,Nat.reduceSub,Nat.reduceAdd,reduceCtorEq,Nat.reduceLeDiff];refine aY rfl rfl (by simp only [dOK];decide) rfl ?_;simp only [cut,u1,jr,go_sem,reduceIte,Nat.reduceEqDiff,Nat.reduceSub,Nat.reduceAdd,reduceCtorEq,Nat.reduceLeDiff];refine aY rfl rfl (by simp only [dOK];decide) rfl ?_;simp only [cut,y9,jr,go_sem,reduceIte,Nat.reduceEqDiff,Nat.reduceSub,Nat.reduceAdd,reduceCtorEq,Nat.reduceLeDiff];refine aY rfl rfl (by simp only [dOK];decide) rfl ?_;simp only [cut,u1,jr,go_sem,reduceIte,Nat.reduceEqDiff,Nat.reduceSub,Nat.reduceAdd,reduceCtorEq,Nat.reduceLeDiff];refine aY rfl rfl (by simp only [dOK];decide) rfl ?_;simp only [cut,y9,t109,go_sem,reduceIte,Nat.reduceEqDiff,Nat.reduceSub,Nat.reduceAdd,reduceCtorEq,Nat.reduceLeDiff];refine aY rfl rfl (by simp only [dOK];decide) rfl ?_;simp only [cut,u1,t109,go_sem,reduceIte,Nat.reduceEqDiff,Nat.reduceSub,Nat.reduceAdd,reduceCtorEq,Nat.reduceLeDiff];refine iq rfl rfl (by simp only [dOK];decide) rfl (iW rfl ?_);simp only [cut,dw,jy,fnA,iK,jf,hG,List.map,List.append_nil,go_sem,reduceIte,Nat.reduceEqDiff,Nat.reduceSub,Nat.reduceAdd,reduceCtorEq,Nat.reduceLeDiff];refine⟨_,e.x,rfl,.inl ⟨g,rfl⟩,bx.1,bx.2,λh2 j2 z2 M2 tr2 fr2=> ?_⟩;have u12:AE.look h2 (nm n kk)=some (.box [Cell.d g (D.int .i64 e.kind),Cell.d g (D.int .i64 e.at_),Cell.d g (bW e.x),Cell.d g (bW e.y),Cell.d g (.rows 1 (e.regs.map jA))]):=by rw [fr2.2 _ (by unfold nm;omega)];exact u1
  have a82:AE.look h2 (nm n q)=some (.box [y,y1,.d f2 (.int .i64 s.fin),y3,y4,.d f5 (.int .i64 s.k)]):=by rw [fr2.2 _ (by unfold nm;omega)];exact a8
  have amq:gP h2 y 5 ((s.events.take i).map evR) N:=a10.frame λx hx=>fr2.2 x (by have:=(q11 x hx).2;unfold nm at*;omega)
  have amr:∀l,l<nm n q->AE.look h2 l=AE.look h5 l:=λl hl=>by rw [fr2.2 l (by unfold nm at*;omega)];exact a12 l hl
  have m2:∀x,M2 x->nm n (kk+1)<=x/\x<nm n (kk+1+j2):=λx hx=>by have:=fr2.1 x hx;unfold nm at*;omega
  simp only [jS,iF,eH,cut,u12,a82,jr,t3,t109,xE,y9,go_sem,reduceIte,Nat.reduceEqDiff,Nat.reduceSub,Nat.reduceAdd,reduceCtorEq,Nat.reduceLeDiff];refine iq rfl rfl (by simp only [dOK];decide) rfl (iW rfl ?_);simp only [cut,dw,jy,fnA,iK,jf,hG,List.map,List.append_nil,go_sem,reduceIte,Nat.reduceEqDiff,Nat.reduceSub,Nat.reduceAdd,reduceCtorEq,Nat.reduceLeDiff];refine⟨_,e.y,rfl,.inl ⟨g,rfl⟩,by_.1,by_.2,λh3 j3 z3 M3 tr3 fr3=> ?_⟩;have u13:AE.look h3 (nm n kk)=some (.box [Cell.d g (D.int .i64 e.kind),Cell.d g (D.int .i64 e.at_),Cell.d g (bW e.x),Cell.d g (bW e.y),Cell.d g (.rows 1 (e.regs.map jA))]):=by rw [fr3.2 _ (by unfold nm;omega)];exact u12
  have a83:AE.look h3 (nm n q)=some (.box [y,y1,.d f2 (.int .i64 s.fin),y3,y4,.d f5 (.int .i64 s.k)]):=by rw [fr3.2 _ (by unfold nm;omega)];exact a82
  have ams:gP h3 y 5 ((s.events.take i).map evR) N:=amq.frame λx hx=>fr3.2 x (by have:=(q11 x hx).2;unfold nm at*;omega)
  have amt:∀l,l<nm n q->AE.look h3 l=AE.look h5 l:=λl hl=>by rw [fr3.2 l (by unfold nm at*;omega)];exact amr l hl
  have amu:aN h3 z2 (bW e.x) M2:=tr2.frame λx hx=>fr3.2 x (by have:=(m2 x hx).2;unfold nm at*;omega)
  have m3:∀x,M3 x->nm n (kk+1+j2)<=x/\x<nm n (kk+1+j2+j3):=λx hx=>by have:=fr3.1 x hx;unfold nm at*;omega
  simp only [jS,iF,eH,cut,u13,a83,jr,t3,t109,xE,y9,go_sem,reduceIte,Nat.reduceEqDiff,Nat.reduceSub,Nat.reduceAdd,reduceCtorEq,Nat.reduceLeDiff];refine iq rfl rfl (by simp only [dOK];decide) rfl (iW rfl ?_);simp only [cut,dw,jy,fnA,iK,jf,hH,List.map,List.append_nil,go_sem,reduceIte,Nat.reduceEqDiff,Nat.reduceSub,Nat.reduceAdd,reduceCtorEq,Nat.reduceLeDiff];refine⟨_,_,rfl,.inl ⟨g,rfl⟩,by simpa using bl,UH br,λh4 j4 z4 M4 tr4 fa4 fb4=> ?_⟩;have u14:AE.look h4 (nm n kk)=some (.box [Cell.d g (D.int .i64 e.kind),Cell.d g (D.int .i64 e.at_),Cell.d g (bW e.x),Cell.d g (bW e.y),Cell.d g (.rows 1 (e.regs.map jA))]):=by rw [fb4 _ (by unfold nm;omega)];exact u13
  have a84:AE.look h4 (nm n q)=some (.box [y,y1,.d f2 (.int .i64 s.fin),y3,y4,.d f5 (.int .i64 s.k)]):=by rw [fb4 _ (by unfold nm;omega)];exact a83
  have akM:gP h4 y 5 ((s.events.take i).map evR) N:=ams.frame λx hx=>fb4 x (by have:=(q11 x hx).2;unfold nm at*;omega)
  have a124:∀l,l<nm n q->AE.look h4 l=AE.look h5 l:=λl hl=>by rw [fb4 l (by unfold nm at*;omega)];exact amt l hl
  have akN:aN h4 z2 (bW e.x) M2:=amu.frame λx hx=>fb4 x (by have:=(m2 x hx).2;unfold nm at*;omega)
  have akO:aN h4 z3 (bW e.y) M3:=tr3.frame λx hx=>fb4 x (by have:=(m3 x hx).2;unfold nm at*;omega)
  have m4:∀x,M4 x->nm n (kk+1+j2+j3)<=x/\x<nm n (kk+1+j2+j3+j4):=λx hx=>by have:=fa4 x hx;unfold nm at*;omega
  simp only [jS,iF,eH,cut,u14,a84,jr,t3,t109,xE,y9,go_sem,reduceIte,Nat.reduceEqDiff,Nat.reduceSub,Nat.reduceAdd,reduceCtorEq,Nat.reduceLeDiff];refine aY rfl rfl (by simp only [dOK];decide) rfl ?_;simp only [cut,jX,jW,lD,splice,aI,y9,t3,jr,t109,List.nil_append,List.cons_append,List.append_nil,go_sem,reduceIte,Nat.reduceEqDiff,Nat.reduceSub,Nat.reduceAdd,reduceCtorEq,Nat.reduceLeDiff];refine⟨by simp [t3,jr,t109],?_⟩;refine iq rfl rfl (by simp only [dOK];decide) rfl (sN rfl ?_);have k2:(kk+1+j2+j3+j4=q)=False:=eq_false ah;simp only [nG,vw,aI,cut,xE,y9,jS,iF,eH,a84,k2,List.nil_append,List.append_nil,List.cons_append,List.map,go_sem,reduceIte,Nat.reduceEqDiff,Nat.reduceSub,Nat.reduceAdd,reduceCtorEq,Nat.reduceLeDiff];refine⟨rfl,by decide,?_⟩;have hw:∃w,w=kk+1+j2+j3+j4:=⟨_,rfl⟩;obtain⟨w,hw⟩:=hw;rw [<-hw];generalize hb:((nm n w,dx.grid 5 [[Cell.d g (D.int .i64 e.kind),Cell.d g (D.int .i64 e.at_),z2,z3,z4]])::h4:Heap)=h6;have v1:AE.look h6 (nm n w)=some (.grid 5 [[Cell.d g (D.int .i64 e.kind),Cell.d g (D.int .i64 e.at_),z2,z3,z4]]):=by rw [<-hb];exact ay _ _ _
  have v2:∀x,x≠nm n w->AE.look h6 x=AE.look h4 x:=λx hx=>by rw [<-hb,aj _ _ (Ne.symm hx)]
  have c8:AE.look h6 (nm n q)=some (.box [y,y1,.d f2 (.int .i64 s.fin),y3,y4,.d f5 (.int .i64 s.k)]):=by rw [v2 _ (by unfold nm;omega)];exact a84
  have c10:gP h6 y 5 ((s.events.take i).map evR) N:=akM.frame λx hx=>v2 x (by have:=(q11 x hx).2;unfold nm at*;omega)
  have c12:∀l,l<nm n q->AE.look h6 l=AE.look h5 l:=λl hl=>by rw [v2 l (by unfold nm at*;omega)];exact a124 l hl
  have s2:aN h6 z2 (bW e.x) M2:=akN.frame λx hx=>v2 x (by have:=(m2 x hx).2;unfold nm at*;omega)
  have s3:aN h6 z3 (bW e.y) M3:=akO.frame λx hx=>v2 x (by have:=(m3 x hx).2;unfold nm at*;omega)
  have s4:aN h6 z4 (.rows 1 (e.regs.map jA)) M4:=tr4.frame λx hx=>v2 x (by have:=(m4 x hx).2;unfold nm at*;omega)
  clear hb v2 a84 akM a124 akN akO tr4
  refine iq rfl rfl (by simp only [dOK];decide) rfl (sN rfl ?_);simp only [nG,MJ,O4,cut,xE,y9,v1,go_sem,reduceIte,Nat.reduceEqDiff,Nat.reduceSub,Nat.reduceAdd,reduceCtorEq,Nat.reduceLeDiff];have eL:((s.events.take i).map evR).length=i:=by simp;omega
  have abM:∀x,N x->x<nm n (w+1):=λx hx=>by have:=(q11 x hx).2;unfold nm at*;omega
  refine gP.app (M:=λc x=>(c=2/\M2 x)\/(c=3/\M3 x)\/(c=4/\M4 x)) (d:=evR e) c10 rfl rfl ⟨2,by decide,rfl⟩ (λc hc=> ?_) (λc x hc hx=> ?_) abM (λc c' x _ _ hx hx'=> ?_) (by rw [eL];have:=sb.ev;omega) (λh7 r7 f7=> ?_)
  .have hq2:c=0\/c=1\/c=2\/c=3\/c=4:=by omega
   rcases hq2 with rfl | rfl | rfl | rfl | rfl
   .exact aN.cast (.int g .i64 e.kind) λx=>⟨λh=>h.elim,λh=>by rcases h with h | h | h<;>exact absurd h.1 (by decide)⟩
   .exact aN.cast (.int g .i64 e.at_) λx=>⟨λh=>h.elim,λh=>by rcases h with h | h | h<;>exact absurd h.1 (by decide)⟩
   .exact aN.cast s2 λx=>⟨λh=> .inl ⟨rfl,h⟩,λh=>by rcases h with h | h | h;exact h.2;exact absurd h.1 (by decide);exact absurd h.1 (by decide)⟩
   .exact aN.cast s3 λx=>⟨λh=> .inr (.inl ⟨rfl,h⟩),λh=>by rcases h with h | h | h;exact absurd h.1 (by decide);exact h.2;exact absurd h.1 (by decide)⟩
   .exact aN.cast s4 λx=>⟨λh=> .inr (.inr ⟨rfl,h⟩),λh=>by rcases h with h | h | h;exact absurd h.1 (by decide);exact absurd h.1 (by decide);exact h.2⟩
  .rcases hx with⟨_,hx⟩ | ⟨_,hx⟩ | ⟨_,hx⟩
   .have:=m2 x hx;exact⟨by unfold nm at*;omega,λhN=>by have:=q11 x hN;unfold nm at*;omega⟩
   .have:=m3 x hx;exact⟨by unfold nm at*;omega,λhN=>by have:=q11 x hN;unfold nm at*;omega⟩
   .have:=m4 x hx;exact⟨by unfold nm at*;omega,λhN=>by have:=q11 x hN;unfold nm at*;omega⟩
  .rcases hx with⟨e1,hx⟩ | ⟨e1,hx⟩ | ⟨e1,hx⟩<;>rcases hx' with⟨e1',hx'⟩ | ⟨e1',hx'⟩ | ⟨e1',hx'⟩<;>first | omega | skip
   .have:=m2 x hx;have:=m3 x hx';unfold nm at*;omega
   .have:=m2 x hx;have:=m4 x hx';unfold nm at*;omega
   .have:=m3 x hx;have:=m2 x hx';unfold nm at*;omega
   .have:=m3 x hx;have:=m4 x hx';unfold nm at*;omega
   .have:=m4 x hx;have:=m2 x hx';unfold nm at*;omega
   .have:=m4 x hx;have:=m3 x hx';unfold nm at*;omega
  have d8:AE.look h7 (nm n q)=some (.box [y,y1,.d f2 (.int .i64 s.fin),y3,y4,.d f5 (.int .i64 s.k)]):=by rw [f7 _ (by unfold nm;omega) (λhN=>by have:=(q11 _ hN).1;unfold nm at*;omega)];exact c8
  have d12:∀l,l<nm n q->AE.look h7 l=AE.look h5 l:=λl hl=>by rw [f7 l (by unfold nm at*;omega) (λhN=>by have:=(q11 _ hN).1;unfold nm at*;omega)];exact c12 l hl
  refine⟨trivial,?_⟩;refine aY rfl rfl (by simp only [dOK];decide) rfl ?_;simp only [cut,q6,t117,xE,go_sem,reduceIte,Nat.reduceEqDiff,Nat.reduceSub,Nat.reduceAdd,reduceCtorEq,Nat.reduceLeDiff];refine iq rfl rfl (by simp only [dOK]) rfl (ou rfl ?_);simp only [aX,dO,aI,splice,cut,xE,d8,jS,List.nil_append,List.append_nil,List.cons_append,go_sem,reduceIte,Nat.reduceEqDiff,Nat.reduceSub,Nat.reduceAdd,reduceCtorEq,Nat.reduceLeDiff];show Q2 .normal _;refine hQ _ (by simp only [aA,reduceIte,Nat.reduceEqDiff];exact q1) (show 46<48 by decide) (show 23<48 by decide) ?_;have ne2:∀x,(x=nm n (w+1)\/N x\/∃c,c<5/\((c=2/\M2 x)\/(c=3/\M3 x)\/(c=4/\M4 x)))->nm n (q+1)<=x/\x<nm n (w+1+1):=by
   rintro x (rfl | hx | ⟨c,_,⟨_,hx⟩ | ⟨_,hx⟩ | ⟨_,hx⟩⟩)
   .unfold nm;omega
   .have:=q11 x hx;unfold nm at*;omega
   .have:=m2 x hx;unfold nm at*;omega
   .have:=m3 x hx;unfold nm at*;omega
   .have:=m4 x hx;unfold nm at*;omega
  refine⟨_,_,by simp only [aA,reduceIte],by simp only [aA,reduceIte,Nat.reduceEqDiff];exact q2,rfl,rfl,by simp only [aA,reduceIte,Nat.reduceEqDiff];exact q5,by simp only [aA,reduceIte,Nat.reduceEqDiff];exact q6,by simp only [aA,reduceIte,Nat.reduceEqDiff];exact q7,ay _ _ _,?_,ne2,λl hl=> ?_,?_⟩
  .rw [eT];refine gP.frame r7 λx hx=>aj _ _ ?_
   have:=(ne2 x hx).1;unfold nm at*;omega
  .rw [aj _ _ (Nat.ne_of_gt hl)];exact d12 l hl
  .show q+1<=w+1+1;omega
 .obtain⟨y,N,q1,q2,q3,q4,q5,q6,q7,q8,q10,q11,q12,q13⟩:=hJ;rw [List.take_length]at q10;obtain⟨t,hh,nn,kk,mm⟩:=st;dsimp only at q1 q2 q3 q4 q5 q6 q7 q8 q10 q11 q12 q13;subst q3;have q4:=q4.symm;subst q4;have v6:AE.look hh (nm n 1)=some (.box [.nil,.nil,z0,.nil,.nil,z0]):=by rw [q12 _ (by unfold nm;omega)];exact v5
  show aw E G _ _ _ _;refine aP (bX rfl (cZ rfl (by simp only [dOK];decide) ?_));simp only [t117,q6,q8,go_sem,reduceIte,Nat.reduceEqDiff,Nat.reduceSub,Nat.reduceAdd,reduceCtorEq,Nat.reduceLeDiff];refine bX rfl (gQ rfl (by simp only [dOK]) ?_);simp only [aX,dO,aI,splice,t117,q7,v6,aF,List.nil_append,List.append_nil,go_sem,reduceIte,Nat.reduceEqDiff,Nat.reduceSub,Nat.reduceAdd,reduceCtorEq,Nat.reduceLeDiff];refine lQ ?_;simp only [pX,oh,one,q7,t117,go_sem,reduceIte,Nat.reduceEqDiff,Nat.reduceSub,Nat.reduceAdd,reduceCtorEq,Nat.reduceLeDiff];obtain⟨M,hM,hMN⟩:=q10.tree;have gM:∀x,M x->nm n (q+1)<=x/\x<nm n kk:=λx hx=>q11 x (hMN x hx)
  refine hK _ kk y y1 y3 y4 M N1 N3 N4 (hM.frame λx hx=>aj _ _ ?_) (p15.frame λx hx=> ?_) (p35.frame λx hx=> ?_) (p45.frame λx hx=> ?_) (λl hl=>⟨λa=> ?_,λa=> ?_,λa=> ?_⟩) (λl hl=>⟨d13 l hl,d14 l hl⟩) d34 ⟨λl hl=> ?_,λl hl=> ?_⟩
  .have:=(gM x hx).1;unfold nm at*;omega
  .have:=b1 x hx;rw [aj _ _ (by unfold nm at*;omega)];exact q12 x this.2
  .have:=b3 x hx;rw [aj _ _ (by unfold nm at*;omega)];exact q12 x this.2
  .have:=b4 x hx;rw [aj _ _ (by unfold nm at*;omega)];exact q12 x this.2
  .have:=gM l hl;have:=b1 l a;unfold nm at*;omega
  .have:=gM l hl;have:=b3 l a;unfold nm at*;omega
  .have:=gM l hl;have:=b4 l a;unfold nm at*;omega
  .rcases hl with hl | hl | hl | hl
   .have:=gM l hl;unfold nm at*;omega
   .have:=b1 l hl;unfold nm at*;omega
   .have:=b3 l hl;unfold nm at*;omega
   .have:=b4 l hl;unfold nm at*;omega
  .rw [aj _ _ (by unfold nm;omega),q12 l (by unfold nm;omega)];exact o5 l hl
def adi(args:List PV)(h:Heap)(n:Nat)(K:PV->Heap->Nat->Prop)(hk:oK 1 GL args h n K):oF args h n K:=by
 obtain⟨cells,d,rfl,hc,hd,hr,⟨p,rfl,hp⟩,hK⟩:=hk
 match cells,hc with
 | [x],_=>
  refine⟨x,p,rfl,?_,hp.1,hp.2,λh' j y N tr fr=> ?_⟩
  .rcases hr 0 (by decide)with⟨f,hx⟩ | ⟨hx,sz,hs⟩
   .exact .inl ⟨f,hx⟩
   .refine .inr ⟨hx,?_⟩;have:D.rows 2 (p.map kQ)=D.rows sz []:=hs;injection this
  .refine hK h' j [y] (λ_=>N) ⟨rfl,λq hq=> ?_,λq q' x a b _ _=>by omega⟩ (λq x _ hx=>fr.1 x hx) fr.2;have:q=0:=by omega
   subst this;exact tr
def LW{G:fO}{dr:jI}(hG:G 41=some (oK 1 GL)){args:List PV}{h:Heap}{n:Nat}{K:PV->Heap->Nat->Prop}(hR:acw 1 GL args h n K):dh E G dr Tryz.f155 (Tryz.f155.body.getD .skip) args h n K:=
 Qb (E:=E) (sz:=1) (hts:=rfl) (hte:=rfl) (hz:=rfl) (hsz:=by decide) (hbig:=by decide) (hby:=by decide) (hG:=hG)
  (e0:=⟨rfl,rfl,rfl⟩) (e1:=⟨rfl,rfl,rfl⟩) (e2:=⟨rfl,rfl,rfl⟩) (e3:=⟨rfl,rfl,rfl⟩) (e4:=⟨rfl,rfl,rfl⟩) (e5:=⟨rfl,rfl,rfl⟩) (e6:=⟨rfl,rfl,rfl⟩) (e7:=⟨rfl,rfl,rfl⟩) (e8:=⟨rfl,rfl,rfl⟩) (e9:=⟨rfl,rfl,rfl⟩)
  (e10:=⟨rfl,rfl,rfl⟩) (e11:=⟨rfl,rfl,rfl⟩) (e12:=⟨rfl,rfl,rfl⟩) (e13:=⟨rfl,rfl,rfl⟩) (e14:=⟨rfl,rfl,rfl⟩) (e15:=⟨rfl,rfl,rfl⟩) (e16:=⟨rfl,rfl,rfl⟩) (e17:=⟨rfl,rfl,rfl⟩) (e18:=⟨rfl,rfl,rfl⟩) (e19:=⟨rfl,rfl,rfl⟩)
  (hr:=rfl) (hn:=rfl) (hR:=hR)
end Go.TX.Seat
noncomputable section
namespace Go.TX.F
open Go Go.AE Go.TX Go.TX.Seat Go.Proofs
set_option maxRecDepth 100000
set_option maxHeartbeats 4000000
abbrev ahX:j6:=⟨[(3,.p 0 7),(4,.p 1 1),(5,.p 2 6),(6,.p 3 2),(7,.p 4 6)],[.s false .blk,.g [.nil],.g qq2,.g NU,.s true .sym]⟩
def adk:GtT aQ.z X E (.v (.v (.v (.v (.v (.v (.seq (.v (.block (.loop qq0 (.v (.v (.seq (.block (.v (.v (.v (.seq (.v (.cut ⟨[(3,.p 0 7),(4,.p 1 1),(5,.p 2 6),(6,.p 3 2),(7,.p 4 6),(8,.o 5),(9,.i),(10,.i),(11,.i),(12,.p 6 5),(14,.b),(17,.p 7 1),(18,.p 8 1),(57,.r false .iop),(58,.i),(59,.i)],[.s false .blk,.g [.nil],.g qq2,.g NU,.g [.own 9,.own 10,.i,.nil,.nil,.i],.rows true .poly,.s false .iop,.s true .poly,.g [.nil],.rows true .ev,.rows true .poly]⟩ qq4)) (.seq (.v (.cut qq3 qq4)) (.seq (.v (.cut qq3 (.cond (.v (.seq (.v (.cut ⟨[(3,.p 0 7),(4,.p 1 1),(5,.p 2 6),(6,.p 3 2),(7,.p 4 6),(8,.o 5),(9,.i),(10,.i),(11,.i),(12,.p 6 5),(17,.p 7 1),(18,.p 8 1),(19,.p 9 5),(57,.r false .iop),(58,.i),(59,.i)],[.s false .blk,.g [.nil],.g qq2,.g NU,.g [.own 10,.own 11,.i,.nil,.nil,.i],.rows true .poly,.s false .iop,.s true .poly,.s true .poly,.g [.i,.i,.rows true .mono,.rows true .mono,.own 12],.rows true .ev,.rows true .poly,.rows true .poly]⟩ qq4)) .u)) .u))) (.v (.block (.v (.cut qq0 (.cond .u (.v (.cut qq0 (.cond .u (.v (.cut qq0 (.cond .u (.v (.cut qq0 (.cond .u (.v (.cut qq0 (.cond .u (.v (.cut qq0 qq4)))))))))))))))))))))))))) .u)))))) (.v (.seq (.v (.cut ⟨[(3,.p 0 7),(4,.p 1 1),(5,.p 2 6),(6,.p 3 2),(7,.p 4 6),(8,.o 5),(24,.b)],[.s false .blk,.g [.nil],.g qq2,.g NU,.g [.own 6,.own 7,.i,.rows true .mono,.nil,.i],.rows true .poly,.rows true .ev,.rows true .poly]⟩ qq4)) (.seq (.v (.cut ⟨[(3,.p 0 7),(4,.p 1 1),(5,.p 2 6),(6,.p 3 2),(7,.p 4 6)],[.s false .blk,.g [.nil],.g qq2,.g NU,.g [.own 5,.own 6,.i,.rows true .mono,.rows true .mono,.i],.rows true .ev,.rows true .poly]⟩ qq4)) .u)))))))))) [.sv true .tab,.sv false .blk] ahX Tryz.f20.ntmps (lead 11 (Tryz.f20.body.getD .skip)) [(70,afO),(63,wm),(66,Ui),(65,YB),(68,lS),(35,KU),(39,adX),(69,YC),(64,ad4),(67,ad5)]:=gmT
end Go.TX.F
end
namespace Go.TX.F
open Go Go.AE Go.TX
set_option maxHeartbeats 1000000 in
theorem amv{p1 f1 p2 f2 p3 f3 p4 f4 p5 f5 p7 f7 p9 f9 p10 f10 p11 f11}{p12:List (List ak)×Unit->Bool}{f12:List (List ak)×Unit->List (List ak)×List (List ak)×Unit}(U1:Y54 p1 f1)(U2:Y60 p2 f2)(U3:Y61 p3 f3)(U4:Y53 p4 f4)(U5:Y22 p5 f5)(U7:Y29 p7 f7)(U9:Y30 p9 f9)(U10:Y57 p10 f10)(U11:Y58 p11 f11)(U12:∀a:List (List ak),0<a.length->a.length<1000000000->p12 (a,())=true/\f12 (a,())=(a,a,()))(t:List Atom)(b:Blk)(ht:ShT t)(hb:b.ops.length<1000000000)(c:aR t/\t.length<=100/\qI b):adk.F (p1,f1,p2,f2,p3,f3,p4,f4,p5,f5,p7,f7,p9,f9,p10,f10,p11,f11,p12,f12,()) (t,b,()) (λy=>y.1=b/\y.2.2.2.1=(gZ t b).t/\y.2.2.2.2.2.1=qJ b (gZ t b)):=by
 have hlt:=ht.1;dsimp only [adk,gmT];simp (disch:=omega) only [RR,RB,U7 t ht,U2 b hb];obtain⟨c1,c2,c3⟩:=c;simp (disch:=omega) only [RR,eO c1,eO c3,U11 t false c1 ah];have sz:=c3.sz;have hop:=c3.op;have hk3:=c3.k3;have i0:=Jz c1 ah;have siw:∀j:Nat,j<=b.ops.length->SI (t.length+4) j (SW t b j):=λj hj=>by
  have:=(yV (b.ops.take j) 0 (s0 t) i0 (λo ho=>hk3 o (List.mem_of_mem_take ho)) (by rw [List.length_take];omega) (by rw [List.length_take];omega)).1;rw [List.length_take,Nat.min_eq_left hj,Nat.zero_add]at this;exact this
 refine⟨λh=>absurd h ah,λ_=>⟨ah,ah,?_⟩⟩
 refine aG (λ(y:Int×Int×List IOp×Int×Int×Blk×Int×Int×List Atom×Bool×Int×Int×List (List ak)×List Ev×List (List ak)×Unit)=>y.2.2.2.2.2.1=b/\y.2.2.1=b.ops/\y.2.2.2.1=b.ops.length/\y.2.2.2.2.2.2.2.2.2.1=false/\y.2.2.2.2.2.2.2.2.2.2.1=b.fin/\y.2.2.2.2.2.2.2.2.2.2.2.1=b.k/\
   0<=y.2.2.2.2.1/\y.2.2.2.2.1<=b.ops.length/\At t b y.2.2.2.2.1.toNat y.1 y.2.1 y.2.2.2.2.2.2.2.2.1 y.2.2.2.2.2.2.2.2.2.2.2.2.1 y.2.2.2.2.2.2.2.2.2.2.2.2.2.1 y.2.2.2.2.2.2.2.2.2.2.2.2.2.2.1) (λy=>(b.ops.length-y.2.2.2.2.1).toNat)
  ⟨rfl,rfl,rfl,rfl,rfl,rfl,by simp,by simp,⟨rfl,rfl,rfl,rfl,rfl,rfl⟩⟩ ?_
 rintro⟨(ld:Int),(inn:Int),(ops:List IOp),(n:Int),(i:Int),(b':Blk),(z1:Int),(z2:Int),(tb:List Atom),(fl:Bool),(fin:Int),(kk:Int),(V:List (List ak)),(ev:List Ev),(rg:List (List ak)),⟨⟩⟩ hI;dsimp only at hI ⊢;obtain⟨e1,e2,e3,e4,e5,e6,h1,h2,hA⟩:=hI;subst e1 e2 e3 e4 e5 e6;have hl:V.length=b'.ops.length:=hA.al7 (siw i.toNat ah).vl ah;have si:=siw i.toNat ah;obtain⟨a1,a2,a3,a4,a5,a6⟩:=hA;have tl:tb.length<1000000000:=by rw [a3];have:=si.tl;omega
 have r4:rg.length=4:=by rw [a6];exact si.r4
 have evl:ev.length<=i.toNat:=by rw [a5];exact aar i.toNat ah
 by_cases h7:i<b'.ops.length
 case neg=>
  have en:=c3.en;have hf:=en.f;have hpc:=c3.pc;have hln:=c3.ln;have ein:i.toNat=b'.ops.length:=by omega
  have eS:SW t b' i.toNat=gZ t b':=by unfold SW gZ;rw [ein,List.take_of_length_le (Nat.le_refl _)]
  rw [eS]at a1 a2 a3 a4 a5 a6 si;have eV:V=(gZ t b').vals:=by rw [a4,ein,Nat.sub_self];simp
  clear a4
  subst a1 a2 a3 a5 a6 eV;have x1:=en.x1;have y1:=en.y1;have sl:=si.vl;have E:qJ b' (gZ t b')=⟨(gZ t b').evs,(gZ t b').regs,b'.fin,if b'.fin=1 then []else(((gZ t b').vals).getD (b'.x).toNat default),if 3<=b'.fin then(((gZ t b').vals).getD (b'.y).toNat default)else [],b'.k⟩:=rfl;rcases(by omega:b'.fin=1\/b'.fin=2\/3<=b'.fin)with c | c | c
  .have n2:¬3<=b'.fin:=by omega
   simp (disch:=omega) only [RR,RB,h7,U1,decide_eq_false n2,c,ne_eq,not_true_eq_false,decide_false];rw [E,if_pos c,if_neg n2,c];exact⟨λh=>absurd h ah,λ_=>rfl⟩
  .have n1:b'.fin≠1:=by omega
   have n2:¬3<=b'.fin:=by omega
   obtain⟨v1,v2,_⟩:=x1 n1;simp (disch:=omega) only [RR,RB,h7,U1,decide_eq_true n1,decide_eq_false n2];rw [E,if_neg n1,if_neg n2];exact⟨v1,ah,v1,ah,rfl⟩
  .have n1:b'.fin≠1:=by omega
   obtain⟨v1,v2,_⟩:=x1 n1;obtain⟨w1,w2,_⟩:=y1 c;simp (disch:=omega) only [RR,RB,h7,U1,decide_eq_true n1,decide_eq_true c];rw [E,if_neg n1,if_pos c];exact⟨v1,ah,v1,ah,w1,ah,w1,ah,rfl⟩
 have hok:=hop i h1 h7;have nxt:=λ{ld' aas:Int} {tb':List Atom} {V':List (List ak)} {ev':List Ev} {rg':List (List ak)}=>At.next (t:=t) (b:=b') (i:=i.toNat) (o:=((b'.ops).getD (i).toNat default)) ⟨a1,a2,a3,a4,a5,a6⟩ si.vl ah rfl (ld':=ld') (aas:=aas) (tb':=tb') (V':=V') (ev':=ev') (rg':=rg')
 have ei:(i+1).toNat=i.toNat+1:=by omega
 have vx:∀j:Int,0<=j->j<i->((V).getD (j).toNat default)=(((SW t b' i.toNat).vals).getD (j).toNat default):=λj j1 j2=>by
  have:=si.vl;rw [a4,getD_lt (by rw [List.length_append];omega),getD_lt ah,List.getElem_append_left]
 have ex:hX ((b'.ops).getD (i).toNat default)->((V).getD ((((b'.ops).getD (i).toNat default)).x).toNat default)=xOf (SW t b' i.toNat) ((b'.ops).getD (i).toNat default):=λh=>by
  unfold xOf;rw [if_pos h];exact vx _ (hok.x1 h).1 (hok.x1 h).2.1
 have ey:hY ((b'.ops).getD (i).toNat default)->((V).getD ((((b'.ops).getD (i).toNat default)).y).toNat default)=yOf (SW t b' i.toNat) ((b'.ops).getD (i).toNat default):=λh=>by
  unfold yOf;rw [if_pos h];exact vx _ (hok.y1 h).1 (hok.y1 h).2.1
 have v0:V.set i.toNat []=V:=by
  have:=si.vl;rw [a4,List.set_append_right _ _ ah,this,Nat.sub_self,show b'.ops.length-i.toNat=(b'.ops.length- (i.toNat+1))+1 by omega,List.replicate_succ,List.set_cons_zero]
 obtain⟨sn,so⟩:=Gc (o:=((b'.ops).getD (i).toNat default)) si hok.k3 ah ah;have gl:=si.ld;have gi:=si.inn;have shx:=(si.x ((b'.ops).getD (i).toNat default)).1.sh;have shy:=(si.y ((b'.ops).getD (i).toNat default)).1.sh;generalize hs:SW t b' i.toNat=s at*;generalize ho:((b'.ops).getD (i).toNat default)=o at*;have kd:=hok.kd;subst a1 a2 a3 a5 a6;have L0:o.kind≠4->s.ld=if o.kind=4 then s.ld+1 else s.ld:=λh=>by rw [if_neg h]
 have I0:o.kind≠6->s.inn=if o.kind=6 then s.inn+1 else s.inn:=λh=>by rw [if_neg h]
 have T0:o.kind≠3->o.kind≠4->o.kind≠6->s.t=nT s o:=λh3 h4 h6=>by unfold nT;rw [if_neg h3,if_neg ah]
 have R0:o.kind≠8->s.regs=nR s o:=λh=>by unfold nR;rw [if_neg h]
 have E0:¬evO o->s.evs=nE s o:=λh=>by unfold nE;rw [if_neg h]
 have V0:o.kind=5\/o.kind=7\/o.kind=8->V=V.set i.toNat (nV s o):=λh=>by
  rw [show nV s o=[] by unfold nV;rw [if_neg ah,if_neg ah,if_neg ah,if_neg ah],v0]
 have P0:∀kd k,0<=(cu s.t ⟨kd,k,[],[]⟩).2->f10 (kd,k,s.t,false,())=(jN (cu s.t ⟨kd,k,[],[]⟩).2,(cu s.t ⟨kd,k,[],[]⟩).1,false,()):=λkd k h=>by
  rw [(U10 _ _ _ _ tl).2,if_neg ah]
 have y0:¬hY o->yOf s o=[]:=λh=>by unfold yOf;rw [if_neg h]
 have x0:¬hX o->xOf s o=[]:=λh=>by unfold xOf;rw [if_neg h]
 rcases(by omega:o.kind=1\/o.kind=2\/o.kind=3\/o.kind=4\/o.kind=5\/o.kind=6\/o.kind=7\/o.kind=8)with c | c | c | c | c | c | c | c
 .have dX:decide (hX o)=false:=decide_eq_false (by unfold hX;omega);have dY:decide (hY o)=false:=decide_eq_false (by unfold hY;omega);have dE:decide (evO o)=false:=decide_eq_false (by unfold evO;omega);have N:At t b' (i.toNat+1) s.ld s.inn s.t (V.set i.toNat (gF o.k)) s.evs s.regs:=nxt (L0 ah) (I0 ah) (T0 ah ah ah) (by unfold nV;rw [if_pos c]) (E0 (by unfold evO;omega)) (R0 ah);simp (disch:=omega) only [RR,RB,ho,h7,U4,U3,dX,dY,dE,c,Int.reduceEq,List.length_cons,List.length_nil,U5]
  repeat' apply And.intro
  all_goals first | omega | (rw [ei];exact N)
 .have dX:decide (hX o)=false:=decide_eq_false (by unfold hX;omega);have dY:decide (hY o)=false:=decide_eq_false (by unfold hY;omega);have dE:decide (evO o)=false:=decide_eq_false (by unfold evO;omega);have k2:=hok.k2 (Or.inl c);have N:At t b' (i.toNat+1) s.ld s.inn s.t (V.set i.toNat ((s.regs).getD (o.k).toNat default)) s.evs s.regs:=nxt (L0 ah) (I0 ah) (T0 ah ah ah) (by unfold nV;rw [if_neg ah,if_pos c]) (E0 (by unfold evO;omega)) (R0 ah);simp (disch:=omega) only [RR,RB,ho,h7,U4,U3,dX,dY,dE,c,Int.reduceEq,List.length_cons,List.length_nil,r4]
  repeat' apply And.intro
  all_goals first | omega | (rw [ei];exact N)
 .have dX:decide (hX o)=true:=decide_eq_true (by unfold hX;omega);have dY:decide (hY o)=true:=decide_eq_true (by unfold hY;omega);have dE:decide (evO o)=false:=decide_eq_false (by unfold evO;omega);have v1:=hok.x1 (by unfold hX;omega);have v2:=hok.y1 (by unfold hY;omega);have u1:=v1.2.1;have u2:=v2.2.1;have w1:=v1.1;have w2:=v2.1;obtain⟨d1,d2,d3⟩:=(U9 s.t o.k _ _ tl shx shy).2;have d4:=(so.d c).ok;have N:At t b' (i.toNat+1) s.ld s.inn (tDo s.t o.k (xOf s o) (yOf s o)).1 (V.set i.toNat (tDo s.t o.k (xOf s o) (yOf s o)).2) s.evs s.regs:=nxt (L0 ah) (I0 ah) (by unfold nT;rw [if_pos c]) (by unfold nV;rw [if_neg ah,if_neg ah,if_pos c]) (E0 (by unfold evO;omega)) (R0 ah);simp (disch:=omega) only [RR,RB,ho,h7,U4,U3,dX,dY,dE,c,Int.reduceEq,List.length_cons,List.length_nil,ex (by unfold hX;omega),ey (by unfold hY;omega),(U9 s.t o.k _ _ tl shx shy).1,d1,d2,d3,d4]
  repeat' apply And.intro
  all_goals first | omega | (rw [ei];exact N)
 .have dX:decide (hX o)=true:=decide_eq_true (by unfold hX;omega);have dY:decide (hY o)=false:=decide_eq_false (by unfold hY;omega);have dE:decide (evO o)=true:=decide_eq_true (by unfold evO;omega);have v1:=hok.x1 (by unfold hX;omega);have u1:=v1.2.1;have w1:=v1.1;have ea:aOf s o=⟨2,s.ld,[],[]⟩:=by unfold aOf;rw [if_pos c]
  have pp:=so.p (Or.inl c);rw [ea]at pp;have N:At t b' (i.toNat+1) (s.ld+1) s.inn (cu s.t ⟨2,s.ld,[],[]⟩).1 (V.set i.toNat (jN (cu s.t ⟨2,s.ld,[],[]⟩).2)) (s.evs++ [⟨4,o.at_,xOf s o,[],s.regs⟩]) s.regs:=nxt (by rw [if_pos c]) (I0 ah) (by unfold nT;rw [if_neg ah,if_pos (Or.inl c),ea]) (by unfold nV;rw [if_neg ah,if_neg ah,if_neg ah,if_pos (Or.inl c),ea]) (by unfold nE;rw [if_pos (by unfold evO;omega),if_pos (Or.inl c),c,y0 (by unfold hY;omega)]) (R0 ah);simp (disch:=omega) only [RR,RB,ho,h7,U4,U3,dX,dY,dE,c,Int.reduceEq,List.length_cons,List.length_nil,ex (by unfold hX;omega),U12 s.regs ah ah,(U10 2 s.ld s.t false tl).1,P0 2 s.ld pp]
  repeat' apply And.intro
  all_goals first | omega | (rw [ei];exact N)
 .have dX:decide (hX o)=true:=decide_eq_true (by unfold hX;omega);have dY:decide (hY o)=true:=decide_eq_true (by unfold hY;omega);have dE:decide (evO o)=true:=decide_eq_true (by unfold evO;omega);have v1:=hok.x1 (by unfold hX;omega);have v2:=hok.y1 (by unfold hY;omega);have u1:=v1.2.1;have u2:=v2.2.1;have w1:=v1.1;have w2:=v2.1;have N:At t b' (i.toNat+1) s.ld s.inn s.t V (s.evs++ [⟨5,o.at_,xOf s o,yOf s o,s.regs⟩]) s.regs:=nxt (L0 ah) (I0 ah) (T0 ah ah ah) (V0 ah) (by unfold nE;rw [if_pos (by unfold evO;omega),if_pos (Or.inr c),c]) (R0 ah);simp (disch:=omega) only [RR,RB,ho,h7,U4,U3,dX,dY,dE,c,Int.reduceEq,List.length_cons,List.length_nil,ex (by unfold hX;omega),ey (by unfold hY;omega),U12 s.regs ah ah]
  repeat' apply And.intro
  all_goals first | omega | (rw [ei];exact N)
 .have dX:decide (hX o)=false:=decide_eq_false (by unfold hX;omega);have dY:decide (hY o)=false:=decide_eq_false (by unfold hY;omega);have dE:decide (evO o)=true:=decide_eq_true (by unfold evO;omega);have ea:aOf s o=⟨3,s.inn,[],[]⟩:=by unfold aOf;rw [if_neg ah]
  have pp:=so.p (Or.inr c);rw [ea]at pp;have N:At t b' (i.toNat+1) s.ld (s.inn+1) (cu s.t ⟨3,s.inn,[],[]⟩).1 (V.set i.toNat (jN (cu s.t ⟨3,s.inn,[],[]⟩).2)) (s.evs++ [⟨6,o.at_,[],[],[]⟩]) s.regs:=nxt (L0 ah) (by rw [if_pos c]) (by unfold nT;rw [if_neg ah,if_pos (Or.inr c),ea]) (by unfold nV;rw [if_neg ah,if_neg ah,if_neg ah,if_pos (Or.inr c),ea]) (by unfold nE;rw [if_pos (by unfold evO;omega),if_neg ah,c,x0 (by unfold hX;omega),y0 (by unfold hY;omega)]) (R0 ah);simp (disch:=omega) only [RR,RB,ho,h7,U4,U3,dX,dY,dE,c,Int.reduceEq,List.length_cons,List.length_nil,(U10 3 s.inn s.t false tl).1,P0 3 s.inn pp]
  repeat' apply And.intro
  all_goals first | omega | (rw [ei];exact N)
 .have dX:decide (hX o)=true:=decide_eq_true (by unfold hX;omega);have dY:decide (hY o)=false:=decide_eq_false (by unfold hY;omega);have dE:decide (evO o)=true:=decide_eq_true (by unfold evO;omega);have v1:=hok.x1 (by unfold hX;omega);have u1:=v1.2.1;have w1:=v1.1;have N:At t b' (i.toNat+1) s.ld s.inn s.t V (s.evs++ [⟨7,o.at_,xOf s o,[],[]⟩]) s.regs:=nxt (L0 ah) (I0 ah) (T0 ah ah ah) (V0 ah) (by unfold nE;rw [if_pos (by unfold evO;omega),if_neg ah,c,y0 (by unfold hY;omega)]) (R0 ah);simp (disch:=omega) only [RR,RB,ho,h7,U4,U3,dX,dY,dE,c,Int.reduceEq,List.length_cons,List.length_nil,ex (by unfold hX;omega)]
  repeat' apply And.intro
  all_goals first | omega | (rw [ei];exact N)
 .have dX:decide (hX o)=true:=decide_eq_true (by unfold hX;omega);have dY:decide (hY o)=false:=decide_eq_false (by unfold hY;omega);have dE:decide (evO o)=false:=decide_eq_false (by unfold evO;omega);have v1:=hok.x1 (by unfold hX;omega);have u1:=v1.2.1;have w1:=v1.1;have k2:=hok.k2 (Or.inr c);have N:At t b' (i.toNat+1) s.ld s.inn s.t V s.evs (s.regs.set o.k.toNat (xOf s o)):=nxt (L0 ah) (I0 ah) (T0 ah ah ah) (V0 ah) (E0 (by unfold evO;omega)) (by unfold nR;rw [if_pos c]);simp (disch:=omega) only [RR,RB,ho,h7,U4,U3,dX,dY,dE,c,Int.reduceEq,List.length_cons,List.length_nil,ex (by unfold hX;omega),r4]
  repeat' apply And.intro
  all_goals first | omega | (rw [ei];exact N)
end Go.TX.F
namespace Go.TX.Seat
open Go Go.AE Go.TX Go.TX.F Go.Proofs
attribute [local go_sem] aH AE.ev fD aB aD bZ nD St.put aA AE.look Ej bF nJ fF qG mh iU.agg List.getElem?_cons Nat.add_zero Nat.zero_add ne_eq not_false_eq_true true_and Nat.one_ne_zero Nat.succ_ne_self Bool.false_eq_true List.length List.drop List.take if_true if_false List.cons_ne_nil Nat.le_refl and_true unA uU xG forall_const false_implies implies_true AE.cb Bool.not_true Bool.not_false Bool.true_eq_false aX dO aI splice List.nil_append List.append_nil List.cons_append dw jy fnA iK jf List.map
set_option maxHeartbeats 1000000
section
variable {G:fO} {ops r:List Oper} {o:Oper} {K:St->Prop} {s:St} {j d:Nat} {w f b:Bool}
def dB(m:Nat):Option Nat->Bool
 | none=>true
 | some d=>Nat.blt d m
theorem wJ{m:Nat}{o:Option Nat}(h:dB m o=true):dOK m o:=by
 cases o with
 | none=>trivial
 | some d=>exact Nat.le_of_ble_eq_true h
theorem oo1(hg:o.guard=none)(h0:bQ o.op=0)(hd:dB s.m o.dst=true)(h:aH E o.op s.t s.h λv=>aF E G ops r K (s.put o.dst (some v))):aF E G ops (o::r) K s:=bX hg (cZ h0 (wJ hd) h)
theorem oo2(hg:o.guard=some (j,w))(hj:gslot ops j=some d)(hl:aA s.t d=some (.c (.d f (.bool b))))(hb:b=w)(h0:bQ o.op=0)(hd:dB s.m o.dst=true)(h:aH E o.op s.t s.h λv=>aF E G ops r K (s.put o.dst (some v))):aF E G ops (o::r) K s:=XE hg hj hl hb (wJ hd) (cZ h0 (wJ hd) h)
theorem oo3(hg:o.guard=some (j,w))(hj:gslot ops j=some d)(hl:aA s.t d=some (.c (.d f (.bool b))))(hb:b≠w)(hd:dB s.m o.dst=true)(h:aF E G ops r K (s.put o.dst (some nC))):aF E G ops (o::r) K s:=aiR hg hj hl hb (wJ hd) h
theorem oo4(hg:o.guard=some (j,w))(hj:gslot ops j=some d)(hl:aA s.t d=some nC)(hd:dB s.m o.dst=true)(h:aF E G ops r K (s.put o.dst (some nC))):aF E G ops (o::r) K s:=aiS hg hj hl (wJ hd) h
theorem oo5(hg:o.guard=none)(h0:bQ o.op=1)(hd:dB s.m o.dst=true)(h:aX E o.op s.t s.h s.n s.k λv h k=>aF E G ops r K (St.put {s with h:=h,k:=k} o.dst (some v))):aF E G ops (o::r) K s:=bX hg (gQ h0 (wJ hd) h)
theorem oo6(hg:o.guard=none)(h0:bQ o.op=2)(hd:dB s.m o.dst=true)(h:dw E G o.op s λv h k=>aF E G ops r K (St.put {s with h:=h,k:=k} o.dst (some v))):aF E G ops (o::r) K s:=bX hg (Kt h0 (wJ hd) h)
theorem oo7(hg:o.guard=some (j,w))(hj:gslot ops j=some d)(hl:aA s.t d=some (.c (.d f (.bool b))))(hb:b=w)(h0:bQ o.op=2)(hd:dB s.m o.dst=true)(h:dw E G o.op s λv h k=>aF E G ops r K (St.put {s with h:=h,k:=k} o.dst (some v))):aF E G ops (o::r) K s:=XE hg hj hl hb (wJ hd) (Kt h0 (wJ hd) h)
variable [aQ] {i:Nat} {rs cs:List Nat} {rr:List dK} {hs:List Held}
theorem oo8(ho:ops[i]? =some o)(hk:kindOf o.op=0)(hd:dB s.m o.dst=true)(hg:o.guard=none)(h:aH E o.op (cut s.t rs) s.h λv=>aZ E G ops rr ((i,o,cut s.t rs,some v)::hs) K (s.put o.dst (some v))):aZ E G ops ((i,rs,cs)::rr) hs K s:=aY ho hk (wJ hd) hg h
theorem oo9(ho:ops[i]? =some o)(hk:kindOf o.op=3)(hd:dB s.m o.dst=true)(hg:o.guard=none)(h:xu E G o (cut s.t rs) s λv h k=>jS E ops h hs cs/\aZ E G ops rr hs K (St.put {s with h:=h,k:=k} o.dst (some v))):aZ E G ops ((i,rs,cs)::rr) hs K s:=iq ho hk (wJ hd) hg h
end
def ae0:Trans:=λargs h n K=>∃p:List ak,args=[.agg [.d true (bW p)]]/\F.Sh p/\∀f g,K (.tup [.c (.d f (.int .i64 (bI p).1)),.c (.d g (.bool (bI p).2))]) h 0
def ae1:Trans:=λargs h n K=>∃p q:List ak,args=[.agg [.d true (bW p)],.agg [.d true (bW q)]]/\F.Sh p/\∀f,K (.c (.d f (.int .i64 (iD p q)))) h 0
def adl(r a b:Int):Bool:=inB a 0 65535&&inB b 0 65535&&decide (r=1/\a=b\/r=2/\a<b)
def ae2:Trans:=λargs h n K=>∃(r a b:Int) (f g e:Bool),args=[.c (.d f (.int .i64 r)),.c (.d g (.int .i64 a)),.c (.d e (.int .i64 b))]/\∀f,K (.c (.d f (.bool (adl r a b)))) h 0
def A8(s:Sym)(f2 f5:Bool):List Cell:=[.d true (.rows 5 (s.events.map evR)),.d true (.rows 1 (s.regs.map jA)),.d f2 (.int .i64 s.fin),.d true (bW s.x),.d true (bW s.y),.d f5 (.int .i64 s.k)]
def A9:Trans:=λargs h n K=>∃(s:Sym) (bh:Int) (f f2 f5:Bool),args=[.agg (A8 s f2 f5),.c (.d f (.int .i64 bh))]/\ahW s/\F.Sh s.x/\F.Sh s.y/\0<=s.fin/\s.fin<=4/\
 ∀h' j cs M,bO h' 6 cs (DC (symEnd s bh)) M->(∀i x,i<6->M i x->n<=x/\x<n+j)->(∀l,l<n->AE.look h' l=AE.look h l)->K (.agg cs) h' j
def SLo(t:Slots):List (Nat×PV)->Prop
 | []=>True
 | p::r=>aA t p.1=some p.2/\SLo t r
structure PLo(n k:Nat)(h:Heap)(s:St):Prop where
 m:s.m=126
 n:s.n=n
 k:s.k=k
 h:s.h=h
section
variable {s:Sym} {bh:Int} (hb:bp (aV s.x/\aV s.y)=true)
include hb
theorem abN(h:(decide (s.fin=2)&& (bI s.x).2)=true):symEnd s bh=⟨s.events,s.regs,1,[],[],(bI s.x).1⟩:=by
 unfold symEnd;rw [if_neg (by rw [hb];simp),if_pos (by simpa using h)]
theorem abO(h:(decide (s.fin=2)&& (bI s.x).2)=false)(h2:(!decide (s.fin=3)&& !decide (s.fin=4))=true):symEnd s bh=s:=by
 unfold symEnd;rw [if_neg (by rw [hb];simp),if_neg (by intro c;rw [decide_eq_true c.1,c.2]at h;cases h),if_pos (by simpa using h2)]
noncomputable def GN (s:Sym):Bool:=decide (iD s.x s.y=0) || (bI s.x).2&& (bI s.y).2
noncomputable def OA (s:Sym):Bool:=decide (iD s.x s.y=0)&&decide (s.fin=3) || (bI s.x).2&& (bI s.y).2&&adl (s.fin-3+1) (bI s.x).1 (bI s.y).1
theorem abP(h2:(!decide (s.fin=3)&& !decide (s.fin=4))=false)(h:(decide (s.fin=2)&& (bI s.x).2)=false)(h3:GN s=true):symEnd s bh=⟨s.events,s.regs,1,[],[],if OA s=true then s.k else bh⟩:=by
 have xy:iD s.x s.y=0↔s.x=s.y:=sU;have rx:(bI s.x).2=true->inB (bI s.x).1 0 65535=true:=λh=>fC.2 (um h).2.2
 have ry:(bI s.y).2=true->inB (bI s.y).1 0 65535=true:=λh=>fC.2 (um h).2.2
 unfold symEnd;rw [if_neg (by rw [hb];simp),if_neg (by intro c;rw [decide_eq_true c.1,c.2]at h;cases h),if_neg (by rintro⟨a,b⟩;rw [decide_eq_false a,decide_eq_false b]at h2;cases h2),if_pos (by unfold GN at h3;rw [<-xy];simpa using h3)];have e:(OA s=true)↔(s.x=s.y/\s.fin=3\/((bI s.x).2=true/\(bI s.y).2=true)/\(s.fin=3/\(bI s.x).1=(bI s.y).1\/s.fin=4/\(bI s.x).1< (bI s.y).1)):=by
  unfold OA adl;rw [<-xy];simp only [Bool.or_eq_true,Bool.and_eq_true,decide_eq_true_eq];constructor
  .rintro(a | ⟨⟨a,b⟩,_,c⟩)
   .exact .inl a
   .exact .inr ⟨⟨a,b⟩,ah⟩
  .rintro(a | ⟨⟨a,b⟩,c⟩)
   .exact .inl a
   .exact .inr ⟨⟨a,b⟩,⟨rx a,ry b⟩,ah⟩
 by_cases c:OA s=true
 .rw [if_pos (e.1 c),if_pos c]
 .rw [if_neg λa=>c (e.2 a),if_neg c]
theorem abQ(h2:(!decide (s.fin=3)&& !decide (s.fin=4))=false)(h:(decide (s.fin=2)&& (bI s.x).2)=false)(h3:GN s=false):symEnd s bh=if(decide (s.fin=3)&&decide (0<iD s.x s.y))=true then⟨s.events,s.regs,s.fin,s.y,s.x,s.k⟩else s:=by
 have xy:iD s.x s.y=0↔s.x=s.y:=sU;unfold symEnd;rw [if_neg (by rw [hb];simp),if_neg (by intro c;rw [decide_eq_true c.1,c.2]at h;cases h),if_neg (by rintro⟨a,b⟩;rw [decide_eq_false a,decide_eq_false b]at h2;cases h2),if_neg (by
  intro c;have:GN s=true:=by unfold GN;rw [<-xy]at c;simpa using c
  rw [this]at h3;cases h3)]
 simp only [Bool.and_eq_true,decide_eq_true_eq]
end
theorem VT{h:Heap}{y0 y1 y3 y4:Cell}{f f':Bool}{a b:Int}{d0 d1 d3 d4:D}{N0 N1 N3 N4:Nat->Prop}(T0:aN h y0 d0 N0)(T1:aN h y1 d1 N1)(T3:aN h y3 d3 N3)(T4:aN h y4 d4 N4)(h01:∀l,N0 l->¬N1 l)(h03:∀l,N0 l->¬N3 l)(h04:∀l,N0 l->¬N4 l)(h13:∀l,N1 l->¬N3 l)(h14:∀l,N1 l->¬N4 l)(h34:∀l,N3 l->¬N4 l):
  bO h 6 [y0,y1,.d f (.int .i64 a),y3,y4,.d f' (.int .i64 b)] [d0,d1,.int .i64 a,d3,d4,.int .i64 b] (λi=>match i with | 0=>N0 | 1=>N1 | 3=>N3 | 4=>N4 | _=>λ_=>False):=by
 refine⟨rfl,λi hi=> ?_,λi i' x hi hi' hx hx'=> ?_⟩
 .match i,hi with
  | 0,_=>exact T0
  | 1,_=>exact T1
  | 2,_=>exact .int _ _ _
  | 3,_=>exact T3
  | 4,_=>exact T4
  | 5,_=>exact .int _ _ _
 .have c:∀i,i<6->i=0\/i=1\/i=2\/i=3\/i=4\/i=5:=λi hi=>by omega
  rcases c i hi with rfl | rfl | rfl | rfl | rfl | rfl<;>rcases c i' hi' with rfl | rfl | rfl | rfl | rfl | rfl<;>
   first | rfl | exact hx.elim | exact hx'.elim | exact(h01 x hx hx').elim | exact(h01 x hx' hx).elim | exact(h03 x hx hx').elim | exact(h03 x hx' hx).elim | exact(h04 x hx hx').elim | exact(h04 x hx' hx).elim | exact(h13 x hx hx').elim | exact(h13 x hx' hx).elim | exact(h14 x hx hx').elim | exact(h14 x hx' hx).elim | exact(h34 x hx hx').elim | exact(h34 x hx' hx).elim
theorem ahY{E:Tab}{G:fO}{dr:jI}{a b:Code}{Q:Exit->St->Prop}{P:St->Prop}{s:St}(h1:∀s',P s'->aw E G dr b Q s')(h2:∀Q':Exit->St->Prop,(∀s',P s'->Q' .normal s')->aw E G dr a Q' s):aw E G dr (.seq a b) Q s:=h2 (zF (aw E G dr b Q) Q) h1
theorem JD{h:Heap}:∀j,j<6->aN h ([.nil,.nil,z0,.nil,.nil,z0].getD j default) ((DC Ll).getD j default) (λ_=>False)
 | 0,_=> .nil 5
 | 1,_=> .nil 1
 | 2,_=> .int _ _ _
 | 3,_=> .nil 2
 | 4,_=> .nil 2
 | 5,_=> .int _ _ _
theorem abR{G:fO}(h37:G 37=some (L_b .poly F.Sh λx=>bp (aV x)))(h119:G 119=some y8)(akP:G 120=some ae0)(akQ:G 121=some (aiW .poly F.Sh λa b=>decide (iD a b=0)))(h122:G 122=some ae2)(amw:G 102=some ae1){dr:jI}
  {args:List PV} {h:Heap} {n:Nat} {K:PV->Heap->Nat->Prop} (hR:A9 args h n K):dh E G dr Tryz.f71 (Tryz.f71.body.getD .skip) args h n K:=by
 obtain⟨s,bh,f,f2,f5,rfl,sb,sx,sy,hf0,hf4,hK⟩:=hR;have t52:E.ty 52=some ⟨.struct [(0,49),(1,50),(2,3),(3,35),(4,35),(5,3)],6,112,[.nil,.nil,z0,.nil,.nil,z0]⟩:=rfl;have t35:E.ty 35=some ⟨.struct [(0,33)],1,24,[.nil]⟩:=rfl;have t3:E.ty 3=some u0:=rfl;have t49:E.ty 49=some ⟨.slice 97,1,24,[.nil]⟩:=rfl;have t50:E.ty 50=some ⟨.slice 35,1,24,[.nil]⟩:=rfl;unfold dh;dsimp only [Tryz.f71,Option.getD,slotsOf,List.length];unfold A8;refine aP ?_;refine oo5 rfl rfl rfl ?_;simp only [t52,go_sem,reduceIte,Nat.reduceEqDiff,Nat.reduceSub,Nat.reduceAdd,reduceCtorEq,Nat.reduceLeDiff];refine oo5 rfl rfl rfl ?_;simp only [t52,aF,go_sem,reduceIte,Nat.reduceEqDiff,Nat.reduceSub,Nat.reduceAdd,reduceCtorEq,Nat.reduceLeDiff];generalize hh:(_::_::h:Heap)=h1;have a0:AE.look h1 (nm n 0)=some (.box (A8 s f2 f5)):=by rw [<-hh];simp only [A8,go_sem,reduceIte,Nat.reduceEqDiff,Nat.reduceSub,Nat.reduceAdd,reduceCtorEq,Nat.reduceLeDiff]
 have a1:AE.look h1 (nm n 1)=some (.box [.nil,.nil,z0,.nil,.nil,z0]):=by rw [<-hh];simp only [go_sem,reduceIte,Nat.reduceEqDiff,Nat.reduceSub,Nat.reduceAdd,reduceCtorEq,Nat.reduceLeDiff]
 have afr:∀l,l<n->AE.look h1 l=AE.look h l:=λl hl=>by rw [<-hh,aj _ _ (by unfold nm;omega),aj _ _ (by unfold nm;omega)]
 clear hh
 unfold A8 at a0;have hP:∃P:St->Prop,P=λs'=>PLo n 2 h1 s'/\SLo s'.t [(1,.c (.d f (.int .i64 bh))),(2,.c (.ptr (nm n 0) 6 0 0)),(4,.c (.ptr (nm n 1) 6 0 0))]/\∃g,aA s'.t 21=some (.c (.d g (.bool (!(bp (aV s.x)&&bp (aV s.y)))))):=⟨_,rfl⟩
 obtain⟨P,hP⟩:=hP;refine aP (yM (P:=P) (λs' hs=> ?_) (λKK hKK=> ?_))
 rotate_left
 .subst hP
  iterate 2 ((first | refine oo1 rfl rfl rfl ?_ | refine oo2 rfl rfl rfl rfl rfl rfl ?_ | refine oo3 rfl rfl rfl (by decide) rfl ?_ | refine oo4 rfl rfl rfl rfl ?_);simp only [t52,t35,a0,go_sem,reduceIte,Nat.reduceEqDiff,Nat.reduceSub,Nat.reduceAdd,reduceCtorEq,Nat.reduceLeDiff])
  refine oo6 rfl rfl rfl ?_;simp only [h37,go_sem,reduceIte,Nat.reduceEqDiff,Nat.reduceSub,Nat.reduceAdd,reduceCtorEq,Nat.reduceLeDiff];refine⟨_,s.x,rfl,.cons (.d true _) .nil,sx,λg0=> ?_⟩
  iterate 2 ((first | refine oo1 rfl rfl rfl ?_ | refine oo2 rfl rfl rfl rfl rfl rfl ?_ | refine oo3 rfl rfl rfl (by decide) rfl ?_ | refine oo4 rfl rfl rfl rfl ?_);simp only [go_sem,reduceIte,Nat.reduceEqDiff,Nat.reduceSub,Nat.reduceAdd,reduceCtorEq,Nat.reduceLeDiff])
  cases c0:bp (aV s.x)
  .iterate 5 ((first | refine oo1 rfl rfl rfl ?_ | refine oo2 rfl rfl rfl rfl rfl rfl ?_ | refine oo3 rfl rfl rfl (by decide) rfl ?_ | refine oo4 rfl rfl rfl rfl ?_);simp only [go_sem,reduceIte,Nat.reduceEqDiff,Nat.reduceSub,Nat.reduceAdd,reduceCtorEq,Nat.reduceLeDiff])
   simp only [aF];exact hKK _ ⟨⟨rfl,rfl,rfl,rfl⟩,⟨rfl,rfl,rfl,trivial⟩,_,by rw [c0];rfl⟩
  .iterate 2 ((first | refine oo1 rfl rfl rfl ?_ | refine oo2 rfl rfl rfl rfl rfl rfl ?_ | refine oo3 rfl rfl rfl (by decide) rfl ?_ | refine oo4 rfl rfl rfl rfl ?_);simp only [t52,t35,a0,go_sem,reduceIte,Nat.reduceEqDiff,Nat.reduceSub,Nat.reduceAdd,reduceCtorEq,Nat.reduceLeDiff])
   refine oo7 rfl rfl rfl rfl rfl rfl ?_;simp only [h37,go_sem,reduceIte,Nat.reduceEqDiff,Nat.reduceSub,Nat.reduceAdd,reduceCtorEq,Nat.reduceLeDiff];refine⟨_,s.y,rfl,.cons (.d true _) .nil,sy,λg1=> ?_⟩
   (first | refine oo1 rfl rfl rfl ?_ | refine oo2 rfl rfl rfl rfl rfl rfl ?_ | refine oo3 rfl rfl rfl (by decide) rfl ?_ | refine oo4 rfl rfl rfl rfl ?_);simp only [go_sem,reduceIte,Nat.reduceEqDiff,Nat.reduceSub,Nat.reduceAdd,reduceCtorEq,Nat.reduceLeDiff]
   cases c1:bp (aV s.y)<;>
   ·(first | refine oo1 rfl rfl rfl ?_ | refine oo2 rfl rfl rfl rfl rfl rfl ?_ | refine oo3 rfl rfl rfl (by decide) rfl ?_ | refine oo4 rfl rfl rfl rfl ?_);simp only [go_sem,reduceIte,Nat.reduceEqDiff,Nat.reduceSub,Nat.reduceAdd,reduceCtorEq,Nat.reduceLeDiff]
    simp only [aF];exact hKK _ ⟨⟨rfl,rfl,rfl,rfl⟩,⟨rfl,rfl,rfl,trivial⟩,_,by rw [c0,c1];rfl⟩
 subst hP;obtain⟨tt,hh,nn,kk,mm⟩:=s';obtain⟨⟨q1,q2,q3,q4⟩,⟨e1,e2,e4,_⟩,g,e21⟩:=hs;dsimp only at q1 q2 q3 q4 e1 e2 e4 e21;subst q1 q2 q3 q4;refine bG (fM (iH e21) (λhb=> ?_) (λhb=> ?_))
 .have hb:bp (aV s.x/\aV s.y)=false:=by rw [Ca];revert hb;cases (bp (aV s.x)&&bp (aV s.y))<;>decide
  refine aP ?_
  (first | refine oo1 rfl rfl rfl ?_ | refine oo2 rfl rfl rfl rfl rfl rfl ?_ | refine oo3 rfl rfl rfl (by decide) rfl ?_ | refine oo4 rfl rfl rfl rfl ?_);simp only [jX,jW,t52,t49,t50,t35,t3,go_sem,reduceIte,Nat.reduceEqDiff,Nat.reduceSub,Nat.reduceAdd,reduceCtorEq,Nat.reduceLeDiff]
  refine⟨by decide,?_⟩;refine oo5 rfl rfl rfl ?_;simp only [t52,e4,a1,aF,go_sem,reduceIte,Nat.reduceEqDiff,Nat.reduceSub,Nat.reduceAdd,reduceCtorEq,Nat.reduceLeDiff];refine lQ ?_;simp only [zF,pX,oh,one,e4,t52,go_sem,reduceIte,Nat.reduceEqDiff,Nat.reduceSub,Nat.reduceAdd,reduceCtorEq,Nat.reduceLeDiff];have e:symEnd s bh=Ll:=by unfold symEnd;rw [if_pos hb]
  rw [e]at hK;exact hK _ _ _ (λ_ _=>False) ⟨rfl,λj hj=>JD j hj,λ_ _ _ _ _ a=>a.elim⟩ (λ_ _ _ a=>a.elim) λl hl=>by rw [aj _ _ (by unfold nm;omega)];exact afr l hl
 have hb:bp (aV s.x/\aV s.y)=true:=by rw [Ca];revert hb;cases (bp (aV s.x)&&bp (aV s.y))<;>decide
 refine mQ (aP ?_)
 (first | refine oo1 rfl rfl rfl ?_ | refine oo2 rfl rfl rfl rfl rfl rfl ?_ | refine oo3 rfl rfl rfl (by decide) rfl ?_ | refine oo4 rfl rfl rfl rfl ?_);simp only [t52,e2,a0,go_sem,reduceIte,Nat.reduceEqDiff,Nat.reduceSub,Nat.reduceAdd,reduceCtorEq,Nat.reduceLeDiff]
 refine oo6 rfl rfl rfl ?_;simp only [h119,go_sem,reduceIte,Nat.reduceEqDiff,Nat.reduceSub,Nat.reduceAdd,reduceCtorEq,Nat.reduceLeDiff];refine⟨_,_,_,_,f2,f5,s,rfl,.inl ⟨true,rfl⟩,.inl ⟨true,rfl⟩,.inl ⟨true,rfl⟩,.inl ⟨true,rfl⟩,sb,λh2 j y0 y1 y3 y4 N0 N1 N3 N4 T0 T1 T3 T4 d0 d1 d3 fr=> ?_⟩;simp only [go_sem,reduceIte,Nat.reduceEqDiff,Nat.reduceSub,Nat.reduceAdd,reduceCtorEq,Nat.reduceLeDiff];refine oo5 rfl rfl rfl ?_;simp only [t52,go_sem,reduceIte,Nat.reduceEqDiff,Nat.reduceSub,Nat.reduceAdd,reduceCtorEq,Nat.reduceLeDiff];refine oo5 rfl rfl rfl ?_;simp only [t52,aF,go_sem,reduceIte,Nat.reduceEqDiff,Nat.reduceSub,Nat.reduceAdd,reduceCtorEq,Nat.reduceLeDiff];generalize hh3:(_::_::h2:Heap)=h3;have lt2:∀q,q<2+j->nm nn (2+j)≠nm nn q:=λq hq=>by unfold nm;omega
 have b0:AE.look h3 (nm nn 0)=some (.box (A8 s f2 f5)):=by rw [<-hh3,aj _ _ (lt2 0 ah),aj _ _ (lt2 0 ah),fr.2 _ (by unfold nm;omega)];exact a0
 have b1:AE.look h3 (nm nn 1)=some (.box [.nil,.nil,z0,.nil,.nil,z0]):=by rw [<-hh3,aj _ _ (lt2 1 ah),aj _ _ (lt2 1 ah),fr.2 _ (by unfold nm;omega)];exact a1
 have b5:AE.look h3 (nm nn (2+j))=some (.box [y0,y1,.d f2 (.int .i64 s.fin),y3,y4,.d f5 (.int .i64 s.k)]):=by rw [<-hh3,ay]
 have bfr:∀l,l<nn->AE.look h3 l=AE.look h l:=λl hl=>by rw [<-hh3,aj _ _ (by unfold nm;omega),aj _ _ (by unfold nm;omega),fr.2 _ (by unfold nm;omega)];exact afr l hl
 have sep:∀l,(N0 l\/N1 l\/N3 l\/N4 l)->nm nn 2<=l/\l<nm nn (2+j):=λl hl=>by have:=fr.1 l hl;unfold nm at*;omega
 have fr3:∀l,(N0 l\/N1 l\/N3 l\/N4 l)->AE.look h3 l=AE.look h2 l:=λl hl=>by rw [<-hh3,aj _ _ (by have:=sep l hl;omega),aj _ _ (by have:=sep l hl;omega)]
 have T0:=T0.frame (h':=h3) λl hl=>fr3 l (.inl hl)
 have T1:=T1.frame (h':=h3) λl hl=>fr3 l (.inr (.inl hl))
 have T3:=T3.frame (h':=h3) λl hl=>fr3 l (.inr (.inr (.inl hl)))
 have T4:=T4.frame (h':=h3) λl hl=>fr3 l (.inr (.inr (.inr hl)))
 clear hh3 fr fr3 lt2 a0 a1 afr
 unfold A8 at b0;refine aP ?_
 iterate 2 ((first | refine oo1 rfl rfl rfl ?_ | refine oo2 rfl rfl rfl rfl rfl rfl ?_ | refine oo3 rfl rfl rfl (by decide) rfl ?_ | refine oo4 rfl rfl rfl rfl ?_);simp only [t52,t35,e2,b0,go_sem,reduceIte,Nat.reduceEqDiff,Nat.reduceSub,Nat.reduceAdd,reduceCtorEq,Nat.reduceLeDiff])
 refine oo6 rfl rfl rfl ?_;simp only [akP,go_sem,reduceIte,Nat.reduceEqDiff,Nat.reduceSub,Nat.reduceAdd,reduceCtorEq,Nat.reduceLeDiff];refine⟨s.x,rfl,sx,λg1 g2=> ?_⟩
 iterate 5 ((first | refine oo1 rfl rfl rfl ?_ | refine oo2 rfl rfl rfl rfl rfl rfl ?_ | refine oo3 rfl rfl rfl (by decide) rfl ?_ | refine oo4 rfl rfl rfl rfl ?_);simp only [kY,List.getElem?_cons_zero,List.getElem?_cons_succ,go_sem,reduceIte,Nat.reduceEqDiff,Nat.reduceSub,Nat.reduceAdd,reduceCtorEq,Nat.reduceLeDiff])
 simp only [aF];refine aP ?_
 iterate 2 ((first | refine oo1 rfl rfl rfl ?_ | refine oo2 rfl rfl rfl rfl rfl rfl ?_ | refine oo3 rfl rfl rfl (by decide) rfl ?_ | refine oo4 rfl rfl rfl rfl ?_);simp only [t52,t35,e2,b0,go_sem,reduceIte,Nat.reduceEqDiff,Nat.reduceSub,Nat.reduceAdd,reduceCtorEq,Nat.reduceLeDiff])
 refine oo6 rfl rfl rfl ?_;simp only [akP,go_sem,reduceIte,Nat.reduceEqDiff,Nat.reduceSub,Nat.reduceAdd,reduceCtorEq,Nat.reduceLeDiff];refine⟨s.y,rfl,sy,λg3 g4=> ?_⟩
 iterate 5 ((first | refine oo1 rfl rfl rfl ?_ | refine oo2 rfl rfl rfl rfl rfl rfl ?_ | refine oo3 rfl rfl rfl (by decide) rfl ?_ | refine oo4 rfl rfl rfl rfl ?_);simp only [kY,List.getElem?_cons_zero,List.getElem?_cons_succ,go_sem,reduceIte,Nat.reduceEqDiff,Nat.reduceSub,Nat.reduceAdd,reduceCtorEq,Nat.reduceLeDiff])
 simp only [aF];refine aP ?_
 iterate 3 ((first | refine oo1 rfl rfl rfl ?_ | refine oo2 rfl rfl rfl rfl rfl rfl ?_ | refine oo3 rfl rfl rfl (by decide) rfl ?_ | refine oo4 rfl rfl rfl rfl ?_);simp only [t52,t3,e2,b0,mq,iB,ci,true_or,go_sem,reduceIte,Nat.reduceEqDiff,Nat.reduceSub,Nat.reduceAdd,reduceCtorEq,Nat.reduceLeDiff])
 rw [w64 ah ah]
 (first | refine oo1 rfl rfl rfl ?_ | refine oo2 rfl rfl rfl rfl rfl rfl ?_ | refine oo3 rfl rfl rfl (by decide) rfl ?_ | refine oo4 rfl rfl rfl rfl ?_);simp only [mq,iB,ci,true_or,go_sem,reduceIte,Nat.reduceEqDiff,Nat.reduceSub,Nat.reduceAdd,reduceCtorEq,Nat.reduceLeDiff]
 rw [w64 ah ah]
 (first | refine oo1 rfl rfl rfl ?_ | refine oo2 rfl rfl rfl rfl rfl rfl ?_ | refine oo3 rfl rfl rfl (by decide) rfl ?_ | refine oo4 rfl rfl rfl rfl ?_);simp only [go_sem,reduceIte,Nat.reduceEqDiff,Nat.reduceSub,Nat.reduceAdd,reduceCtorEq,Nat.reduceLeDiff]
 simp only [aF]
 have hR:∃R:St->Prop,R=λs'=>s'.m=126/\s'.n=nn/\s'.k=2+j+1/\aA s'.t 4=some (.c (.ptr (nm nn 1) 6 0 0))/\aA s'.t 5=some (.c (.ptr (nm nn (2+j)) 6 0 0))/\∃x0 x1 x2 x3 x4 x5 M,AE.look s'.h (nm nn (2+j))=some (.box [x0,x1,x2,x3,x4,x5])/\
   (∀l,l≠nm nn (2+j)->AE.look s'.h l=AE.look h3 l)/\bO h3 6 [x0,x1,x2,x3,x4,x5] (DC (symEnd s bh)) M/\∀i x,i<6->M i x->nm nn 2<=x/\x<nm nn (2+j):=⟨_,rfl⟩
 obtain⟨R,hR⟩:=hR;refine ahY (P:=R) (λs' hs=> ?_) (λQ' hQ'=> ?_)
 .subst hR;obtain⟨tt,hh,nn',kk,mm⟩:=s';obtain⟨q1,q2,q3,e4,e5,x0,x1,x2,x3,x4,x5,M,c5,cfr,TT,rg⟩:=hs;dsimp only at q1 q2 q3 e4 e5 c5 cfr;subst q1 q2 q3;have ne1:nm nn' 1≠nm nn' (2+j):=by unfold nm;omega
  have c1:=(cfr _ ne1).trans b1;refine aP ?_
  (first | refine oo1 rfl rfl rfl ?_ | refine oo2 rfl rfl rfl rfl rfl rfl ?_ | refine oo3 rfl rfl rfl (by decide) rfl ?_ | refine oo4 rfl rfl rfl rfl ?_);simp only [t52,e5,c5,go_sem,reduceIte,Nat.reduceEqDiff,Nat.reduceSub,Nat.reduceAdd,reduceCtorEq,Nat.reduceLeDiff]
  refine oo5 rfl rfl rfl ?_;simp only [t52,e4,c1,aF,go_sem,reduceIte,Nat.reduceEqDiff,Nat.reduceSub,Nat.reduceAdd,reduceCtorEq,Nat.reduceLeDiff];refine lQ ?_;simp only [zF,pX,oh,one,e4,t52,go_sem,reduceIte,Nat.reduceEqDiff,Nat.reduceSub,Nat.reduceAdd,reduceCtorEq,Nat.reduceLeDiff];have low:∀l,l≠nm nn' 1->l≠nm nn' (2+j)->AE.look ((nm nn' 1,dx.box [x0,x1,x2,x3,x4,x5])::hh) l=AE.look h3 l:=λl h1 h2=>by rw [aj _ _ (Ne.symm h1)];exact cfr l h2
  exact hK _ _ _ M (TT.frame λi x hi hx=>low x (by have:=rg i x hi hx;unfold nm at*;omega) (by have:=rg i x hi hx;omega)) (λi x hi hx=>by have:=rg i x hi hx;unfold nm at*;omega) λl hl=>by rw [low l (by unfold nm;omega) (by unfold nm;omega)];exact bfr l hl
 have goR:∀(t':Slots) (h':Heap) (x2 x3 x4 x5:Cell) (r:Sym) (M3 M4:Nat->Prop),aA t' 4=some (.c (.ptr (nm nn 1) 6 0 0))->aA t' 5=some (.c (.ptr (nm nn (2+j)) 6 0 0))->AE.look h' (nm nn (2+j))=some (.box [y0,y1,x2,x3,x4,x5])->(∀l,l≠nm nn (2+j)->AE.look h' l=AE.look h3 l)->
   symEnd s bh=r->r.events=s.events->r.regs=s.regs->(∃f,x2= .d f (.int .i64 r.fin))->(∃f,x5= .d f (.int .i64 r.k))->aN h3 x3 (bW r.x) M3->aN h3 x4 (bW r.y) M4->(∀l,M3 l->N3 l\/N4 l)->(∀l,M4 l->N3 l\/N4 l)->(∀l,M3 l->¬M4 l)->Q' .normal ⟨t',h',nn,2+j+1,126⟩:=by
  rintro t' h' x2 x3 x4 x5 r M3 M4 e4 e5 c5 cfr er r0 r1 ⟨fa,rfl⟩ ⟨fb,rfl⟩ U3 U4 k3 k4 k34;refine hQ' _ ?_;subst hR;refine⟨rfl,rfl,rfl,e4,e5,_,_,_,_,_,_,λi=>match i with | 0=>N0 | 1=>N1 | 3=>M3 | 4=>M4 | _=>λ_=>False,c5,cfr,?_,λi x hi hx=> ?_⟩
  .rw [er];have w3:∀l,(N3 l\/N4 l)->¬N0 l/\¬N1 l:=λl hl=>⟨λa=>hl.elim (d0 l a).2.1 (d0 l a).2.2,λa=>hl.elim (d1 l a).1 (d1 l a).2⟩
   have e:DC r=[.rows 5 (s.events.map evR),.rows 1 (s.regs.map jA),.int .i64 r.fin,bW r.x,bW r.y,.int .i64 r.k]:=by rw [<-r0,<-r1];rfl
   rw [e];exact VT T0 T1 U3 U4 (λl a=>(d0 l a).1) (λl a b=>(w3 l (k3 l b)).1 a) (λl a b=>(w3 l (k4 l b)).1 a) (λl a b=>(w3 l (k3 l b)).2 a) (λl a b=>(w3 l (k4 l b)).2 a) k34
  .match i,hi with
   | 0,_=>exact sep x (.inl hx)
   | 1,_=>exact sep x (.inr (.inl hx))
   | 2,_=>exact hx.elim
   | 5,_=>exact hx.elim
   | 3,_=>exact sep x ((k3 x hx).elim (λa=> .inr (.inr (.inl a))) λa=> .inr (.inr (.inr a)))
   | 4,_=>exact sep x ((k4 x hx).elim (λa=> .inr (.inr (.inl a))) λa=> .inr (.inr (.inr a)))
 refine rD ?_;have hsl:∃sl:List (Nat×PV),sl=[(1,.c (.d f (.int .i64 bh))),(2,.c (.ptr (nm nn 0) 6 0 0)),(4,.c (.ptr (nm nn 1) 6 0 0)),(5,.c (.ptr (nm nn (2+j)) 6 0 0)),(6,.c (.d g1 (.int .i64 (bI s.x).1))),(7,.c (.d g2 (.bool (bI s.x).2))),(8,.c (.d g3 (.int .i64 (bI s.y).1))),(9,.c (.d g4 (.bool (bI s.y).2))),(10,.c (.d true (.int .i64 (s.fin-3+1))))]:=⟨_,rfl⟩;obtain⟨sl,hsl⟩:=hsl;have hP:∃P:Nat->Bool->St->Prop,P=λd b s'=>PLo nn (2+j+1) h3 s'/\SLo s'.t sl/\∃g,aA s'.t d=some (.c (.d g (.bool b))):=⟨_,rfl⟩
 obtain⟨P,hP⟩:=hP;have inP:∀ {d b s'},P d b s'->∃tt g,s'=⟨tt,h3,nn,2+j+1,126⟩/\SLo tt sl/\aA tt d=some (.c (.d g (.bool b))):=λ{d b s'} hs=>by
  subst hP;obtain⟨tt,hh,nn',kk,mm⟩:=s';obtain⟨⟨q1,q2,q3,q4⟩,q,g,eb⟩:=hs;dsimp only at q1 q2 q3 q4 q eb;subst q1 q2 q3 q4;exact⟨_,g,rfl,q,eb⟩
 have ofP:∀ {d b tt},SLo tt sl->(∃g,aA tt d=some (.c (.d g (.bool b))))->P d b ⟨tt,h3,nn,2+j+1,126⟩:=λa b=>by subst hP;exact⟨⟨rfl,rfl,rfl,rfl⟩,a,b⟩
 clear hP
 refine aP (yM (P:=P 41 (decide (s.fin=2)&& (bI s.x).2)) (λs' hs=> ?_) (λKK hKK=> ?_))
 rotate_left
 .iterate 4 ((first | refine oo1 rfl rfl rfl ?_ | refine oo2 rfl rfl rfl rfl rfl rfl ?_ | refine oo3 rfl rfl rfl (by decide) rfl ?_ | refine oo4 rfl rfl rfl rfl ?_);simp only [t52,t3,e2,b0,mq,iB,ci,true_or,go_sem,reduceIte,Nat.reduceEqDiff,Nat.reduceSub,Nat.reduceAdd,reduceCtorEq,Nat.reduceLeDiff])
  cases c0:decide (s.fin=2)
  .iterate 3 ((first | refine oo1 rfl rfl rfl ?_ | refine oo2 rfl rfl rfl rfl rfl rfl ?_ | refine oo3 rfl rfl rfl (by decide) rfl ?_ | refine oo4 rfl rfl rfl rfl ?_);simp only [go_sem,reduceIte,Nat.reduceEqDiff,Nat.reduceSub,Nat.reduceAdd,reduceCtorEq,Nat.reduceLeDiff])
   simp only [aF];subst hsl;exact hKK _ (ofP ⟨e1,e2,e4,rfl,rfl,rfl,rfl,rfl,rfl,trivial⟩ ⟨_,by rw [c0];rfl⟩)
  .iterate 3 ((first | refine oo1 rfl rfl rfl ?_ | refine oo2 rfl rfl rfl rfl rfl rfl ?_ | refine oo3 rfl rfl rfl (by decide) rfl ?_ | refine oo4 rfl rfl rfl rfl ?_);simp only [go_sem,reduceIte,Nat.reduceEqDiff,Nat.reduceSub,Nat.reduceAdd,reduceCtorEq,Nat.reduceLeDiff])
   simp only [aF];subst hsl;exact hKK _ (ofP ⟨e1,e2,e4,rfl,rfl,rfl,rfl,rfl,rfl,trivial⟩ ⟨_,by rw [c0];rfl⟩)
 obtain⟨tt,g,rfl,hs,e41⟩:=inP hs;refine fM (iH e41) (λk7=> ?_) (λk7=> ?_)
 .rw [hsl]at hs;obtain⟨e1,e2,e4,e5,e6,e7,e8,e9,e10,_⟩:=hs;refine kI ?_
  (first | refine oo1 rfl rfl rfl ?_ | refine oo2 rfl rfl rfl rfl rfl rfl ?_ | refine oo3 rfl rfl rfl (by decide) rfl ?_ | refine oo4 rfl rfl rfl rfl ?_);simp only [jX,jW,t35,go_sem,reduceIte,Nat.reduceEqDiff,Nat.reduceSub,Nat.reduceAdd,reduceCtorEq,Nat.reduceLeDiff]
  refine⟨by decide,?_⟩
  (first | refine oo1 rfl rfl rfl ?_ | refine oo2 rfl rfl rfl rfl rfl rfl ?_ | refine oo3 rfl rfl rfl (by decide) rfl ?_ | refine oo4 rfl rfl rfl rfl ?_);simp only [jX,jW,t35,go_sem,reduceIte,Nat.reduceEqDiff,Nat.reduceSub,Nat.reduceAdd,reduceCtorEq,Nat.reduceLeDiff]
  refine⟨by decide,?_⟩
  iterate 2 ((first | refine oo1 rfl rfl rfl ?_ | refine oo2 rfl rfl rfl rfl rfl rfl ?_ | refine oo3 rfl rfl rfl (by decide) rfl ?_ | refine oo4 rfl rfl rfl rfl ?_);simp only [e6,t52,t3,e5,go_sem,reduceIte,Nat.reduceEqDiff,Nat.reduceSub,Nat.reduceAdd,reduceCtorEq,Nat.reduceLeDiff])
  refine oo5 rfl rfl rfl ?_;simp only [t3,b5,ci,go_sem,reduceIte,Nat.reduceEqDiff,Nat.reduceSub,Nat.reduceAdd,reduceCtorEq,Nat.reduceLeDiff]
  (first | refine oo1 rfl rfl rfl ?_ | refine oo2 rfl rfl rfl rfl rfl rfl ?_ | refine oo3 rfl rfl rfl (by decide) rfl ?_ | refine oo4 rfl rfl rfl rfl ?_);simp only [t52,t35,e5,go_sem,reduceIte,Nat.reduceEqDiff,Nat.reduceSub,Nat.reduceAdd,reduceCtorEq,Nat.reduceLeDiff]
  refine oo5 rfl rfl rfl ?_;simp only [t35,go_sem,reduceIte,Nat.reduceEqDiff,Nat.reduceSub,Nat.reduceAdd,reduceCtorEq,Nat.reduceLeDiff]
  (first | refine oo1 rfl rfl rfl ?_ | refine oo2 rfl rfl rfl rfl rfl rfl ?_ | refine oo3 rfl rfl rfl (by decide) rfl ?_ | refine oo4 rfl rfl rfl rfl ?_);simp only [t52,t35,e5,go_sem,reduceIte,Nat.reduceEqDiff,Nat.reduceSub,Nat.reduceAdd,reduceCtorEq,Nat.reduceLeDiff]
  refine oo5 rfl rfl rfl ?_;simp only [t35,go_sem,reduceIte,Nat.reduceEqDiff,Nat.reduceSub,Nat.reduceAdd,reduceCtorEq,Nat.reduceLeDiff]
  (first | refine oo1 rfl rfl rfl ?_ | refine oo2 rfl rfl rfl rfl rfl rfl ?_ | refine oo3 rfl rfl rfl (by decide) rfl ?_ | refine oo4 rfl rfl rfl rfl ?_);simp only [t52,t3,e5,go_sem,reduceIte,Nat.reduceEqDiff,Nat.reduceSub,Nat.reduceAdd,reduceCtorEq,Nat.reduceLeDiff]
  refine oo5 rfl rfl rfl ?_;simp only [t3,aF,go_sem,reduceIte,Nat.reduceEqDiff,Nat.reduceSub,Nat.reduceAdd,reduceCtorEq,Nat.reduceLeDiff];refine goR _ _ _ _ _ _ ⟨s.events,s.regs,1,[],[],(bI s.x).1⟩ (λ_=>False) (λ_=>False) e4 e5 (ay _ _ _) (λl hl=> ?_) (abN hb k7) rfl rfl ⟨_,rfl⟩ ⟨_,rfl⟩ (.nil 2) (.nil 2) (λ_ a=>a.elim) (λ_ a=>a.elim) (λ_ a=>a.elim);rw [aj _ _ (Ne.symm hl),aj _ _ (Ne.symm hl),aj _ _ (Ne.symm hl),aj _ _ (Ne.symm hl)]
 refine aP (yM (P:=P 55 (!decide (s.fin=3)&& !decide (s.fin=4))) (λs' hs=> ?_) (λKK hKK=> ?_))
 rotate_left
 .have hs':=hs;rw [hsl]at hs';obtain⟨e1,e2,e4,e5,e6,e7,e8,e9,e10,_⟩:=hs'
  iterate 4 ((first | refine oo1 rfl rfl rfl ?_ | refine oo2 rfl rfl rfl rfl rfl rfl ?_ | refine oo3 rfl rfl rfl (by decide) rfl ?_ | refine oo4 rfl rfl rfl rfl ?_);simp only [t52,t3,e2,b0,mq,iB,ci,true_or,go_sem,reduceIte,Nat.reduceEqDiff,Nat.reduceSub,Nat.reduceAdd,reduceCtorEq,Nat.reduceLeDiff])
  cases c0:decide (s.fin=3)
  .iterate 5 ((first | refine oo1 rfl rfl rfl ?_ | refine oo2 rfl rfl rfl rfl rfl rfl ?_ | refine oo3 rfl rfl rfl (by decide) rfl ?_ | refine oo4 rfl rfl rfl rfl ?_);simp only [t52,t3,e2,b0,mq,iB,ci,true_or,go_sem,reduceIte,Nat.reduceEqDiff,Nat.reduceSub,Nat.reduceAdd,reduceCtorEq,Nat.reduceLeDiff])
   simp only [aF];subst hsl;exact hKK _ (ofP ⟨e1,e2,e4,e5,e6,e7,e8,e9,e10,trivial⟩ ⟨_,by rw [c0];rfl⟩)
  .iterate 5 ((first | refine oo1 rfl rfl rfl ?_ | refine oo2 rfl rfl rfl rfl rfl rfl ?_ | refine oo3 rfl rfl rfl (by decide) rfl ?_ | refine oo4 rfl rfl rfl rfl ?_);simp only [go_sem,reduceIte,Nat.reduceEqDiff,Nat.reduceSub,Nat.reduceAdd,reduceCtorEq,Nat.reduceLeDiff])
   simp only [aF];subst hsl;exact hKK _ (ofP ⟨e1,e2,e4,e5,e6,e7,e8,e9,e10,trivial⟩ ⟨_,by rw [c0];rfl⟩)
 obtain⟨tt,g,rfl,hs,e55⟩:=inP hs;refine fM (iH e55) (λk9=> ?_) (λk9=> ?_)
 .rw [hsl]at hs;obtain⟨e1,e2,e4,e5,e6,e7,e8,e9,e10,_⟩:=hs;exact goR _ _ _ _ _ _ s N3 N4 e4 e5 b5 (λ_ _=>rfl) (abO hb k7 k9) rfl rfl ⟨_,rfl⟩ ⟨_,rfl⟩ T3 T4 (λ_=> .inl) (λ_=> .inr) d3
 refine aP (yM (P:=P 64 (GN s)) (λs' hs=> ?_) (λKK hKK=> ?_))
 rotate_left
 .have hs':=hs;rw [hsl]at hs';obtain⟨e1,e2,e4,e5,e6,e7,e8,e9,e10,_⟩:=hs'
  iterate 4 ((first | refine oo1 rfl rfl rfl ?_ | refine oo2 rfl rfl rfl rfl rfl rfl ?_ | refine oo3 rfl rfl rfl (by decide) rfl ?_ | refine oo4 rfl rfl rfl rfl ?_);simp only [t52,t35,e2,b0,go_sem,reduceIte,Nat.reduceEqDiff,Nat.reduceSub,Nat.reduceAdd,reduceCtorEq,Nat.reduceLeDiff])
  refine oo6 rfl rfl rfl ?_;simp only [akQ,go_sem,reduceIte,Nat.reduceEqDiff,Nat.reduceSub,Nat.reduceAdd,reduceCtorEq,Nat.reduceLeDiff];refine⟨_,_,s.x,s.y,rfl,.cons (.d true _) .nil,.cons (.d true _) .nil,sx,λg0=> ?_⟩
  (first | refine oo1 rfl rfl rfl ?_ | refine oo2 rfl rfl rfl rfl rfl rfl ?_ | refine oo3 rfl rfl rfl (by decide) rfl ?_ | refine oo4 rfl rfl rfl rfl ?_);simp only [go_sem,reduceIte,Nat.reduceEqDiff,Nat.reduceSub,Nat.reduceAdd,reduceCtorEq,Nat.reduceLeDiff]
  subst hsl;have eB:GN s=(decide (iD s.x s.y=0) || (bI s.x).2&& (bI s.y).2):=rfl;cases c0:decide (iD s.x s.y=0)
  .iterate 2 ((first | refine oo1 rfl rfl rfl ?_ | refine oo2 rfl rfl rfl rfl rfl rfl ?_ | refine oo3 rfl rfl rfl (by decide) rfl ?_ | refine oo4 rfl rfl rfl rfl ?_);simp only [e7,go_sem,reduceIte,Nat.reduceEqDiff,Nat.reduceSub,Nat.reduceAdd,reduceCtorEq,Nat.reduceLeDiff])
   rw [c0,Bool.false_or]at eB;cases c1:(bI s.x).2
   .iterate 4 ((first | refine oo1 rfl rfl rfl ?_ | refine oo2 rfl rfl rfl rfl rfl rfl ?_ | refine oo3 rfl rfl rfl (by decide) rfl ?_ | refine oo4 rfl rfl rfl rfl ?_);simp only [go_sem,reduceIte,Nat.reduceEqDiff,Nat.reduceSub,Nat.reduceAdd,reduceCtorEq,Nat.reduceLeDiff])
    simp only [aF];exact hKK _ (ofP ⟨e1,e2,e4,e5,e6,e7,e8,e9,e10,trivial⟩ ⟨_,by rw [eB,c1];rfl⟩)
   .iterate 4 ((first | refine oo1 rfl rfl rfl ?_ | refine oo2 rfl rfl rfl rfl rfl rfl ?_ | refine oo3 rfl rfl rfl (by decide) rfl ?_ | refine oo4 rfl rfl rfl rfl ?_);simp only [e9,go_sem,reduceIte,Nat.reduceEqDiff,Nat.reduceSub,Nat.reduceAdd,reduceCtorEq,Nat.reduceLeDiff])
    simp only [aF];exact hKK _ (ofP ⟨e1,e2,e4,e5,e6,e7,e8,e9,e10,trivial⟩ ⟨_,by rw [eB,c1];rfl⟩)
  .iterate 6 ((first | refine oo1 rfl rfl rfl ?_ | refine oo2 rfl rfl rfl rfl rfl rfl ?_ | refine oo3 rfl rfl rfl (by decide) rfl ?_ | refine oo4 rfl rfl rfl rfl ?_);simp only [go_sem,reduceIte,Nat.reduceEqDiff,Nat.reduceSub,Nat.reduceAdd,reduceCtorEq,Nat.reduceLeDiff])
   simp only [aF];exact hKK _ (ofP ⟨e1,e2,e4,e5,e6,e7,e8,e9,e10,trivial⟩ ⟨_,by rw [eB,c0];rfl⟩)
 obtain⟨tt,g,rfl,hs,e64⟩:=inP hs;refine fM (iH e64) (λk10=> ?_) (λk10=> ?_)
 .refine aP (yM (P:=P 11 (OA s)) (λs' hs=> ?_) (λKK hKK=> ?_))
  rotate_left
  .have hs':=hs;rw [hsl]at hs';obtain⟨e1,e2,e4,e5,e6,e7,e8,e9,e10,_⟩:=hs'
   iterate 4 ((first | refine oo1 rfl rfl rfl ?_ | refine oo2 rfl rfl rfl rfl rfl rfl ?_ | refine oo3 rfl rfl rfl (by decide) rfl ?_ | refine oo4 rfl rfl rfl rfl ?_);simp only [t52,t35,e2,b0,go_sem,reduceIte,Nat.reduceEqDiff,Nat.reduceSub,Nat.reduceAdd,reduceCtorEq,Nat.reduceLeDiff])
   refine oo6 rfl rfl rfl ?_;simp only [akQ,go_sem,reduceIte,Nat.reduceEqDiff,Nat.reduceSub,Nat.reduceAdd,reduceCtorEq,Nat.reduceLeDiff];refine⟨_,_,s.x,s.y,rfl,.cons (.d true _) .nil,.cons (.d true _) .nil,sx,λg0=> ?_⟩
   (first | refine oo1 rfl rfl rfl ?_ | refine oo2 rfl rfl rfl rfl rfl rfl ?_ | refine oo3 rfl rfl rfl (by decide) rfl ?_ | refine oo4 rfl rfl rfl rfl ?_);simp only [go_sem,reduceIte,Nat.reduceEqDiff,Nat.reduceSub,Nat.reduceAdd,reduceCtorEq,Nat.reduceLeDiff]
   subst hsl;have eB:OA s=(decide (iD s.x s.y=0)&&decide (s.fin=3) || (bI s.x).2&& (bI s.y).2&&adl (s.fin-3+1) (bI s.x).1 (bI s.y).1):=rfl;cases c0:decide (iD s.x s.y=0)
   .iterate 6 ((first | refine oo1 rfl rfl rfl ?_ | refine oo2 rfl rfl rfl rfl rfl rfl ?_ | refine oo3 rfl rfl rfl (by decide) rfl ?_ | refine oo4 rfl rfl rfl rfl ?_);simp only [e7,go_sem,reduceIte,Nat.reduceEqDiff,Nat.reduceSub,Nat.reduceAdd,reduceCtorEq,Nat.reduceLeDiff])
    cases c1:(bI s.x).2
    .iterate 11 ((first | refine oo1 rfl rfl rfl ?_ | refine oo2 rfl rfl rfl rfl rfl rfl ?_ | refine oo3 rfl rfl rfl (by decide) rfl ?_ | refine oo4 rfl rfl rfl rfl ?_);simp only [go_sem,reduceIte,Nat.reduceEqDiff,Nat.reduceSub,Nat.reduceAdd,reduceCtorEq,Nat.reduceLeDiff])
     simp only [aF];exact hKK _ (ofP ⟨e1,e2,e4,e5,e6,e7,e8,e9,e10,trivial⟩ ⟨_,by rw [eB,c0,c1];rfl⟩)
    .iterate 4 ((first | refine oo1 rfl rfl rfl ?_ | refine oo2 rfl rfl rfl rfl rfl rfl ?_ | refine oo3 rfl rfl rfl (by decide) rfl ?_ | refine oo4 rfl rfl rfl rfl ?_);simp only [e9,go_sem,reduceIte,Nat.reduceEqDiff,Nat.reduceSub,Nat.reduceAdd,reduceCtorEq,Nat.reduceLeDiff])
     cases c2:(bI s.y).2
     .iterate 7 ((first | refine oo1 rfl rfl rfl ?_ | refine oo2 rfl rfl rfl rfl rfl rfl ?_ | refine oo3 rfl rfl rfl (by decide) rfl ?_ | refine oo4 rfl rfl rfl rfl ?_);simp only [go_sem,reduceIte,Nat.reduceEqDiff,Nat.reduceSub,Nat.reduceAdd,reduceCtorEq,Nat.reduceLeDiff])
      simp only [aF];exact hKK _ (ofP ⟨e1,e2,e4,e5,e6,e7,e8,e9,e10,trivial⟩ ⟨_,by rw [eB,c0,c1,c2];rfl⟩)
     .iterate 3 ((first | refine oo1 rfl rfl rfl ?_ | refine oo2 rfl rfl rfl rfl rfl rfl ?_ | refine oo3 rfl rfl rfl (by decide) rfl ?_ | refine oo4 rfl rfl rfl rfl ?_);simp only [e10,e6,e8,go_sem,reduceIte,Nat.reduceEqDiff,Nat.reduceSub,Nat.reduceAdd,reduceCtorEq,Nat.reduceLeDiff])
      refine oo7 rfl rfl rfl rfl rfl rfl ?_;simp only [h122,go_sem,reduceIte,Nat.reduceEqDiff,Nat.reduceSub,Nat.reduceAdd,reduceCtorEq,Nat.reduceLeDiff];refine⟨_,_,_,_,_,_,rfl,λg1=> ?_⟩
      iterate 3 ((first | refine oo1 rfl rfl rfl ?_ | refine oo2 rfl rfl rfl rfl rfl rfl ?_ | refine oo3 rfl rfl rfl (by decide) rfl ?_ | refine oo4 rfl rfl rfl rfl ?_);simp only [go_sem,reduceIte,Nat.reduceEqDiff,Nat.reduceSub,Nat.reduceAdd,reduceCtorEq,Nat.reduceLeDiff])
      simp only [aF];exact hKK _ (ofP ⟨e1,e2,e4,e5,e6,e7,e8,e9,e10,trivial⟩ ⟨_,by rw [eB,c0,c1,c2];rfl⟩)
   .iterate 5 ((first | refine oo1 rfl rfl rfl ?_ | refine oo2 rfl rfl rfl rfl rfl rfl ?_ | refine oo3 rfl rfl rfl (by decide) rfl ?_ | refine oo4 rfl rfl rfl rfl ?_);simp only [t52,t3,e2,b0,mq,iB,ci,true_or,go_sem,reduceIte,Nat.reduceEqDiff,Nat.reduceSub,Nat.reduceAdd,reduceCtorEq,Nat.reduceLeDiff])
    cases c3:decide (s.fin=3)
    ·(first | refine oo1 rfl rfl rfl ?_ | refine oo2 rfl rfl rfl rfl rfl rfl ?_ | refine oo3 rfl rfl rfl (by decide) rfl ?_ | refine oo4 rfl rfl rfl rfl ?_);simp only [e7,go_sem,reduceIte,Nat.reduceEqDiff,Nat.reduceSub,Nat.reduceAdd,reduceCtorEq,Nat.reduceLeDiff]
     cases c1:(bI s.x).2
     .iterate 11 ((first | refine oo1 rfl rfl rfl ?_ | refine oo2 rfl rfl rfl rfl rfl rfl ?_ | refine oo3 rfl rfl rfl (by decide) rfl ?_ | refine oo4 rfl rfl rfl rfl ?_);simp only [go_sem,reduceIte,Nat.reduceEqDiff,Nat.reduceSub,Nat.reduceAdd,reduceCtorEq,Nat.reduceLeDiff])
      simp only [aF];exact hKK _ (ofP ⟨e1,e2,e4,e5,e6,e7,e8,e9,e10,trivial⟩ ⟨_,by rw [eB,c0,c3,c1];rfl⟩)
     .iterate 4 ((first | refine oo1 rfl rfl rfl ?_ | refine oo2 rfl rfl rfl rfl rfl rfl ?_ | refine oo3 rfl rfl rfl (by decide) rfl ?_ | refine oo4 rfl rfl rfl rfl ?_);simp only [e9,go_sem,reduceIte,Nat.reduceEqDiff,Nat.reduceSub,Nat.reduceAdd,reduceCtorEq,Nat.reduceLeDiff])
      cases c2:(bI s.y).2
      .iterate 7 ((first | refine oo1 rfl rfl rfl ?_ | refine oo2 rfl rfl rfl rfl rfl rfl ?_ | refine oo3 rfl rfl rfl (by decide) rfl ?_ | refine oo4 rfl rfl rfl rfl ?_);simp only [go_sem,reduceIte,Nat.reduceEqDiff,Nat.reduceSub,Nat.reduceAdd,reduceCtorEq,Nat.reduceLeDiff])
       simp only [aF];exact hKK _ (ofP ⟨e1,e2,e4,e5,e6,e7,e8,e9,e10,trivial⟩ ⟨_,by rw [eB,c0,c3,c1,c2];rfl⟩)
      .iterate 3 ((first | refine oo1 rfl rfl rfl ?_ | refine oo2 rfl rfl rfl rfl rfl rfl ?_ | refine oo3 rfl rfl rfl (by decide) rfl ?_ | refine oo4 rfl rfl rfl rfl ?_);simp only [e10,e6,e8,go_sem,reduceIte,Nat.reduceEqDiff,Nat.reduceSub,Nat.reduceAdd,reduceCtorEq,Nat.reduceLeDiff])
       refine oo7 rfl rfl rfl rfl rfl rfl ?_;simp only [h122,go_sem,reduceIte,Nat.reduceEqDiff,Nat.reduceSub,Nat.reduceAdd,reduceCtorEq,Nat.reduceLeDiff];refine⟨_,_,_,_,_,_,rfl,λg1=> ?_⟩
       iterate 3 ((first | refine oo1 rfl rfl rfl ?_ | refine oo2 rfl rfl rfl rfl rfl rfl ?_ | refine oo3 rfl rfl rfl (by decide) rfl ?_ | refine oo4 rfl rfl rfl rfl ?_);simp only [go_sem,reduceIte,Nat.reduceEqDiff,Nat.reduceSub,Nat.reduceAdd,reduceCtorEq,Nat.reduceLeDiff])
       simp only [aF];exact hKK _ (ofP ⟨e1,e2,e4,e5,e6,e7,e8,e9,e10,trivial⟩ ⟨_,by rw [eB,c0,c3,c1,c2];rfl⟩)
    .iterate 12 ((first | refine oo1 rfl rfl rfl ?_ | refine oo2 rfl rfl rfl rfl rfl rfl ?_ | refine oo3 rfl rfl rfl (by decide) rfl ?_ | refine oo4 rfl rfl rfl rfl ?_);simp only [go_sem,reduceIte,Nat.reduceEqDiff,Nat.reduceSub,Nat.reduceAdd,reduceCtorEq,Nat.reduceLeDiff])
     simp only [aF];exact hKK _ (ofP ⟨e1,e2,e4,e5,e6,e7,e8,e9,e10,trivial⟩ ⟨_,by rw [eB,c0,c3];rfl⟩)
  obtain⟨tt,g,rfl,hs,e11⟩:=inP hs;rw [hsl]at hs;obtain⟨e1,e2,e4,e5,e6,e7,e8,e9,e10,_⟩:=hs;refine aP ?_
  (first | refine oo1 rfl rfl rfl ?_ | refine oo2 rfl rfl rfl rfl rfl rfl ?_ | refine oo3 rfl rfl rfl (by decide) rfl ?_ | refine oo4 rfl rfl rfl rfl ?_);simp only [jX,jW,t35,go_sem,reduceIte,Nat.reduceEqDiff,Nat.reduceSub,Nat.reduceAdd,reduceCtorEq,Nat.reduceLeDiff]
  refine⟨by decide,?_⟩
  (first | refine oo1 rfl rfl rfl ?_ | refine oo2 rfl rfl rfl rfl rfl rfl ?_ | refine oo3 rfl rfl rfl (by decide) rfl ?_ | refine oo4 rfl rfl rfl rfl ?_);simp only [jX,jW,t35,go_sem,reduceIte,Nat.reduceEqDiff,Nat.reduceSub,Nat.reduceAdd,reduceCtorEq,Nat.reduceLeDiff]
  refine⟨by decide,?_⟩
  (first | refine oo1 rfl rfl rfl ?_ | refine oo2 rfl rfl rfl rfl rfl rfl ?_ | refine oo3 rfl rfl rfl (by decide) rfl ?_ | refine oo4 rfl rfl rfl rfl ?_);simp only [t52,t3,e5,go_sem,reduceIte,Nat.reduceEqDiff,Nat.reduceSub,Nat.reduceAdd,reduceCtorEq,Nat.reduceLeDiff]
  refine oo5 rfl rfl rfl ?_;simp only [t3,b5,ci,go_sem,reduceIte,Nat.reduceEqDiff,Nat.reduceSub,Nat.reduceAdd,reduceCtorEq,Nat.reduceLeDiff]
  (first | refine oo1 rfl rfl rfl ?_ | refine oo2 rfl rfl rfl rfl rfl rfl ?_ | refine oo3 rfl rfl rfl (by decide) rfl ?_ | refine oo4 rfl rfl rfl rfl ?_);simp only [t52,t35,e5,go_sem,reduceIte,Nat.reduceEqDiff,Nat.reduceSub,Nat.reduceAdd,reduceCtorEq,Nat.reduceLeDiff]
  refine oo5 rfl rfl rfl ?_;simp only [t35,go_sem,reduceIte,Nat.reduceEqDiff,Nat.reduceSub,Nat.reduceAdd,reduceCtorEq,Nat.reduceLeDiff]
  (first | refine oo1 rfl rfl rfl ?_ | refine oo2 rfl rfl rfl rfl rfl rfl ?_ | refine oo3 rfl rfl rfl (by decide) rfl ?_ | refine oo4 rfl rfl rfl rfl ?_);simp only [t52,t35,e5,go_sem,reduceIte,Nat.reduceEqDiff,Nat.reduceSub,Nat.reduceAdd,reduceCtorEq,Nat.reduceLeDiff]
  refine oo5 rfl rfl rfl ?_;simp only [t35,aF,go_sem,reduceIte,Nat.reduceEqDiff,Nat.reduceSub,Nat.reduceAdd,reduceCtorEq,Nat.reduceLeDiff];refine aP ?_
  iterate 2 ((first | refine oo1 rfl rfl rfl ?_ | refine oo2 rfl rfl rfl rfl rfl rfl ?_ | refine oo3 rfl rfl rfl (by decide) rfl ?_ | refine oo4 rfl rfl rfl rfl ?_);simp only [e11,go_sem,reduceIte,Nat.reduceEqDiff,Nat.reduceSub,Nat.reduceAdd,reduceCtorEq,Nat.reduceLeDiff])
  simp only [aF];have eC:=abP (bh:=bh) hb k9 k7 k10;refine fM (iH rfl) (λk11=> ?_) (λk11=> ?_)
  .have k11:OA s=false:=by simpa using k11
   refine kI ?_
   iterate 2 ((first | refine oo1 rfl rfl rfl ?_ | refine oo2 rfl rfl rfl rfl rfl rfl ?_ | refine oo3 rfl rfl rfl (by decide) rfl ?_ | refine oo4 rfl rfl rfl rfl ?_);simp only [e1,t52,t3,e5,go_sem,reduceIte,Nat.reduceEqDiff,Nat.reduceSub,Nat.reduceAdd,reduceCtorEq,Nat.reduceLeDiff])
   refine oo5 rfl rfl rfl ?_;simp only [t3,aF,go_sem,reduceIte,Nat.reduceEqDiff,Nat.reduceSub,Nat.reduceAdd,reduceCtorEq,Nat.reduceLeDiff];refine goR _ _ _ _ _ _ ⟨s.events,s.regs,1,[],[],bh⟩ (λ_=>False) (λ_=>False) e4 e5 (ay _ _ _) (λl hl=> ?_) (by rw [eC,k11];rfl) rfl rfl ⟨_,rfl⟩ ⟨_,rfl⟩ (.nil 2) (.nil 2) (λ_ a=>a.elim) (λ_ a=>a.elim) (λ_ a=>a.elim);rw [aj _ _ (Ne.symm hl),aj _ _ (Ne.symm hl),aj _ _ (Ne.symm hl),aj _ _ (Ne.symm hl)]
  .have k11:OA s=true:=by simpa using k11
   refine goR _ _ _ _ _ _ ⟨s.events,s.regs,1,[],[],s.k⟩ (λ_=>False) (λ_=>False) e4 e5 (ay _ _ _) (λl hl=> ?_) (by rw [eC,k11];rfl) rfl rfl ⟨_,rfl⟩ ⟨_,rfl⟩ (.nil 2) (.nil 2) (λ_ a=>a.elim) (λ_ a=>a.elim) (λ_ a=>a.elim);rw [aj _ _ (Ne.symm hl),aj _ _ (Ne.symm hl),aj _ _ (Ne.symm hl)]
 have eD:=abQ (bh:=bh) hb k9 k7 k10;refine aP (yM (P:=P 107 (decide (s.fin=3)&&decide (0<iD s.x s.y))) (λs' hs=> ?_) (λKK hKK=> ?_))
 rotate_left
 .have hs':=hs;rw [hsl]at hs';obtain⟨e1,e2,e4,e5,e6,e7,e8,e9,e10,_⟩:=hs';subst hsl
  iterate 4 ((first | refine oo1 rfl rfl rfl ?_ | refine oo2 rfl rfl rfl rfl rfl rfl ?_ | refine oo3 rfl rfl rfl (by decide) rfl ?_ | refine oo4 rfl rfl rfl rfl ?_);simp only [t52,t3,e2,b0,mq,iB,ci,true_or,go_sem,reduceIte,Nat.reduceEqDiff,Nat.reduceSub,Nat.reduceAdd,reduceCtorEq,Nat.reduceLeDiff])
  cases c0:decide (s.fin=3)
  .iterate 8 ((first | refine oo1 rfl rfl rfl ?_ | refine oo2 rfl rfl rfl rfl rfl rfl ?_ | refine oo3 rfl rfl rfl (by decide) rfl ?_ | refine oo4 rfl rfl rfl rfl ?_);simp only [go_sem,reduceIte,Nat.reduceEqDiff,Nat.reduceSub,Nat.reduceAdd,reduceCtorEq,Nat.reduceLeDiff])
   simp only [aF];exact hKK _ (ofP ⟨e1,e2,e4,e5,e6,e7,e8,e9,e10,trivial⟩ ⟨_,by rw [c0];rfl⟩)
  .iterate 4 ((first | refine oo1 rfl rfl rfl ?_ | refine oo2 rfl rfl rfl rfl rfl rfl ?_ | refine oo3 rfl rfl rfl (by decide) rfl ?_ | refine oo4 rfl rfl rfl rfl ?_);simp only [t52,t35,e2,b0,go_sem,reduceIte,Nat.reduceEqDiff,Nat.reduceSub,Nat.reduceAdd,reduceCtorEq,Nat.reduceLeDiff])
   refine oo7 rfl rfl rfl rfl rfl rfl ?_;simp only [amw,go_sem,reduceIte,Nat.reduceEqDiff,Nat.reduceSub,Nat.reduceAdd,reduceCtorEq,Nat.reduceLeDiff];refine⟨s.x,s.y,rfl,sx,λg0=> ?_⟩
   iterate 3 ((first | refine oo1 rfl rfl rfl ?_ | refine oo2 rfl rfl rfl rfl rfl rfl ?_ | refine oo3 rfl rfl rfl (by decide) rfl ?_ | refine oo4 rfl rfl rfl rfl ?_);simp only [mq,iB,ci,true_or,go_sem,reduceIte,Nat.reduceEqDiff,Nat.reduceSub,Nat.reduceAdd,reduceCtorEq,Nat.reduceLeDiff])
   simp only [aF];exact hKK _ (ofP ⟨e1,e2,e4,e5,e6,e7,e8,e9,e10,trivial⟩ ⟨_,by rw [c0];rfl⟩)
 obtain⟨tt,g,rfl,hs,amx⟩:=inP hs;rw [hsl]at hs;obtain⟨e1,e2,e4,e5,e6,e7,e8,e9,e10,_⟩:=hs;refine fM (iH amx) (λk15=> ?_) (λk15=> ?_)
 .rw [if_pos k15]at eD;refine kI ?_
  iterate 5 ((first | refine oo1 rfl rfl rfl ?_ | refine oo2 rfl rfl rfl rfl rfl rfl ?_ | refine oo3 rfl rfl rfl (by decide) rfl ?_ | refine oo4 rfl rfl rfl rfl ?_);simp only [t52,t35,e5,b5,go_sem,reduceIte,Nat.reduceEqDiff,Nat.reduceSub,Nat.reduceAdd,reduceCtorEq,Nat.reduceLeDiff])
  refine oo5 rfl rfl rfl ?_;simp only [t35,b5,go_sem,reduceIte,Nat.reduceEqDiff,Nat.reduceSub,Nat.reduceAdd,reduceCtorEq,Nat.reduceLeDiff]
  (first | refine oo1 rfl rfl rfl ?_ | refine oo2 rfl rfl rfl rfl rfl rfl ?_ | refine oo3 rfl rfl rfl (by decide) rfl ?_ | refine oo4 rfl rfl rfl rfl ?_);simp only [t52,t35,e5,go_sem,reduceIte,Nat.reduceEqDiff,Nat.reduceSub,Nat.reduceAdd,reduceCtorEq,Nat.reduceLeDiff]
  refine oo5 rfl rfl rfl ?_;simp only [t35,aF,go_sem,reduceIte,Nat.reduceEqDiff,Nat.reduceSub,Nat.reduceAdd,reduceCtorEq,Nat.reduceLeDiff];refine goR _ _ _ _ _ _ ⟨s.events,s.regs,s.fin,s.y,s.x,s.k⟩ N4 N3 e4 e5 (ay _ _ _) (λl hl=> ?_) eD rfl rfl ⟨_,rfl⟩ ⟨_,rfl⟩ T4 T3 (λ_=> .inr) (λ_=> .inl) (λl a b=>d3 l b a);rw [aj _ _ (Ne.symm hl),aj _ _ (Ne.symm hl)]
 .rw [if_neg (by rw [k15];decide)]at eD;exact goR _ _ _ _ _ _ s N3 N4 e4 e5 b5 (λ_ _=>rfl) eD rfl rfl ⟨_,rfl⟩ ⟨_,rfl⟩ T3 T4 (λ_=> .inl) (λ_=> .inr) d3
end Go.TX.Seat
namespace Go.TX.Seat
open Go Go.AE Go.TX Go.TX.F Go.Proofs
attribute [local go_sem] aH AE.ev fD aB aD bZ nD St.put aA AE.look Ej bF nJ fF qG mh iU.agg List.getElem?_cons Nat.add_zero Nat.zero_add ne_eq not_false_eq_true true_and Nat.one_ne_zero Nat.succ_ne_self Bool.false_eq_true List.length List.drop List.take if_true if_false List.cons_ne_nil Nat.le_refl and_true unA uU xG forall_const false_implies implies_true AE.cb Bool.not_true Bool.not_false Bool.true_eq_false aX dO aI splice List.nil_append List.append_nil List.cons_append dw jy fnA iK jf List.map cut jS iF eH
def qF(c:List Atom->Blk->Prop):Trans:=λargs h n K=>h=[]/\n=0/\∃(t:List Atom) (b:Blk),args=[.agg [.d true (.rows 4 (t.map iG))],.agg ((oJ b).map (.d true))]/\ShT t/\b.ops.length<1000000000/\c t b/\
 ∀h' j y0 cs M,cs.length=6->bO h' 7 (y0::cs) (.rows 4 ((dI t b).1.map iG)::DC (dI t b).2) M->(∀i x,i<7->M i x->x<j)->K (.tup [.agg [y0],.agg cs]) h' j
def Sl(t:List Atom)(b:Blk):Prop:=aR t/\t.length<=100/\qI b
theorem GQ{h:Heap}{y0:Cell}{cs:List Cell}{d0:D}{ds:List D}{N:Nat->Prop}{M:Nat->Nat->Prop}{m:Nat}(t0:aN h y0 d0 N)(t:bO h m cs ds M)(d:∀i x,i<m->N x->¬M i x):
  bO h (m+1) (y0::cs) (d0::ds) (λi=>match i with | 0=>N | i+1=>M i):=by
 refine⟨by rw [List.length_cons,t.len],λi hi=> ?_,λi i' x hi hi' hx hx'=> ?_⟩
 .cases i with
  | zero=>exact t0
  | succ i=>exact t.cell i ah
 .cases i with
  | zero=>
   cases i' with
   | zero=>rfl
   | succ i'=>exact(d i' x ah hx hx').elim
  | succ i=>
   cases i' with
   | zero=>exact(d i x ah hx' hx).elim
   | succ i'=>rw [t.one i i' x ah ah hx hx']
section
variable {t:List Atom} {b:Blk}
theorem adn(c:Sl t b):F.ShY (qJ b (gZ t b))/\ShT (gZ t b).t:=by
 obtain⟨c1,c2,c3⟩:=c;have sz:=c3.sz;have i0:=Jz c1 ah;have hk3:=c3.k3;have hs:=Gd b.ops 0 (s0 t) i0 hk3 ah ah ⟨by simp [s0],λe he=>absurd he (by simp [s0])⟩;have si:=(yV b.ops 0 (s0 t) i0 hk3 ah ah).1;have pk:=D6 (b:=b) si;exact⟨⟨⟨by have:=hs.1;show(b.ops.foldl stp (s0 t)).evs.length<_;omega,hs.2⟩,si.regs,pk.1.sh,pk.2.sh⟩,si.tok.sh⟩
end
theorem oG{p:List ak}(h:F.Sh p):rT p:=⟨by have:=h.1;unfold gX;omega,λm hm=>by have:=h.2 m hm;unfold gX;omega⟩
theorem ado{s:Sym}(h:F.ShY s):ahW s:=by
 obtain⟨⟨e1,e2⟩,⟨r1,r2⟩,x,y⟩:=h;refine⟨by unfold gX;omega,λe he=> ?_,by unfold gX;omega,λp hp=>oG (r2 p hp),oG x,oG y⟩;obtain⟨a,b,c1,c2⟩:=e2 e he;exact⟨oG a,oG b,by unfold gX;omega,λp hp=>oG (c2 p hp)⟩
theorem LY{t:List Atom}(h:ShT t):t.length<=gX/\∀a∈t,rT a.x/\rT a.y:=⟨by have:=h.1;unfold gX;omega,λa ha=>⟨oG (h.2 a ha).1,oG (h.2 a ha).2⟩⟩
theorem abS{l s i j:Nat}{K:PV->Prop}:Me (.c (.ptr l s i j)) K↔K (.c (.ptr l s i j)):=Iff.rfl
theorem abT{G:fO}(h40:G 40=some uw)(h71:G 71=some A9){tbl:Nat->List dK}(ht:tbl 47=[(0,[6],[]),(1,[213],[]),(2,[214],[]),(3,[215],[]),(5,[7],[]),(6,[3],[]),(7,[219],[]),(8,[3],[]),(9,[221],[]),(10,[220,222],[]),(4,[216],[5,7,9]),(11,[218,223],[]),(12,[4,217],[]),(13,[5,224],[])])
  {t:List Atom} {b:Blk} (c:Sl t b) {K:PV->Heap->Nat->Prop} (hK:∀h' j y0 cs M,cs.length=6->bO h' 7 (y0::cs) (.rows 4 ((dI t b).1.map iG)::DC (dI t b).2) M->(∀i x,i<7->M i x->x<j)->K (.tup [.agg [y0],.agg cs]) h' j)
  {tt:Slots} {h1:Heap} {g0 g1 g2 f2 f5:Bool} {r0 r1 r2 r3 r4:Cell} {v0 v1:Int} {u0' u1:Bool} {q:Bool} (e3:aA tt 3=some (.c (.ptr 0 7 0 0))) (e4:aA tt 4=some (.c (.ptr 1 1 0 0))) (e5:aA tt 5=some (.c (.ptr 2 6 0 0))) (e6:aA tt 6=some (.c (.ptr 3 2 0 0))) (e7:aA tt 7=some (.c (.ptr 4 6 0 0)))
  (a0:AE.look h1 0=some (.box [.d g0 (.int .i64 b.pc),.d g1 (.int .i64 b.len),r0,r1,r2,r3,r4])) (a1:AE.look h1 1=some (.box [.nil])) (a2:AE.look h1 2=some (.box [.nil,.nil,.d u0' (.int .i64 v0),.nil,.nil,.d u1 (.int .i64 v1)])) (a3:AE.look h1 3=some (.box [.d true (.rows 4 ((gZ t b).t.map iG)),.d g2 (.bool q)]))
  (a4:AE.look h1 4=some (.box (A8 (qJ b (gZ t b)) f2 f5))): @aw E G (@drA ⟨[],[]⟩ E G tbl) (last 11 (Tryz.f20.body.getD .skip)) (pX E Tryz.f20.results.toList 0 K) ⟨tt,h1,0,5,225⟩:=by
 letI:aQ:=⟨[],[]⟩
 obtain⟨sy,st⟩:=adn c;have hf:=c.2.2.en.f;have hpc:=c.2.2.pc;have hln:=c.2.2.ln;rw [yX c.1 c.2.1 c.2.2]at hK;have t57:E.ty 57=some ⟨.struct [(0,3),(1,3),(2,55),(3,3),(4,3),(5,3),(6,3)],7,72,[z0,z0,.nil,z0,z0,z0,z0]⟩:=rfl;have t106:E.ty 106=some ⟨.struct [(0,32),(1,4)],2,32,[.nil,.d true (.bool false)]⟩:=rfl;have t52:E.ty 52=some ⟨.struct [(0,49),(1,50),(2,3),(3,35),(4,35),(5,3)],6,112,[.nil,.nil,z0,.nil,.nil,z0]⟩:=rfl;have t32:E.ty 32=some ⟨.struct [(0,30)],1,24,[.nil]⟩:=rfl;have t3:E.ty 3=some u0:=rfl;dsimp only [Tryz.f20,Option.getD,last];unfold A8 at a4;refine BJ ⟨?_,?_⟩
 .unfold Static;rw [ht];kernel_rfl
 rw [ht];refine oo8 rfl rfl rfl rfl ?_;simp only [e6,go_sem,reduceIte,Nat.reduceEqDiff,Nat.reduceSub,Nat.reduceAdd,reduceCtorEq,Nat.reduceLeDiff];refine oo8 rfl rfl rfl rfl ?_;simp only [abS,go_sem,reduceIte,Nat.reduceEqDiff,Nat.reduceSub,Nat.reduceAdd,reduceCtorEq,Nat.reduceLeDiff];refine oo8 rfl rfl rfl rfl ?_;simp only [t106,t32,go_sem,reduceIte,Nat.reduceEqDiff,Nat.reduceSub,Nat.reduceAdd,reduceCtorEq,Nat.reduceLeDiff];refine oo8 rfl rfl rfl rfl ?_;simp only [t32,a3,go_sem,reduceIte,Nat.reduceEqDiff,Nat.reduceSub,Nat.reduceAdd,reduceCtorEq,Nat.reduceLeDiff];refine oo8 rfl rfl rfl rfl ?_;simp only [e7,a4,t52,go_sem,reduceIte,Nat.reduceEqDiff,Nat.reduceSub,Nat.reduceAdd,reduceCtorEq,Nat.reduceLeDiff];refine oo8 rfl rfl rfl rfl ?_;simp only [e3,t57,t3,go_sem,reduceIte,Nat.reduceEqDiff,Nat.reduceSub,Nat.reduceAdd,reduceCtorEq,Nat.reduceLeDiff];refine oo8 rfl rfl rfl rfl ?_;simp only [t3,a0,go_sem,reduceIte,Nat.reduceEqDiff,Nat.reduceSub,Nat.reduceAdd,reduceCtorEq,Nat.reduceLeDiff];refine oo8 rfl rfl rfl rfl ?_;simp only [e3,t57,t3,go_sem,reduceIte,Nat.reduceEqDiff,Nat.reduceSub,Nat.reduceAdd,reduceCtorEq,Nat.reduceLeDiff];refine oo8 rfl rfl rfl rfl ?_;simp only [t3,a0,go_sem,reduceIte,Nat.reduceEqDiff,Nat.reduceSub,Nat.reduceAdd,reduceCtorEq,Nat.reduceLeDiff];refine oo8 rfl rfl rfl rfl ?_;simp only [mq,iB,ci,true_or,go_sem,reduceIte,Nat.reduceEqDiff,Nat.reduceSub,Nat.reduceAdd,reduceCtorEq,Nat.reduceLeDiff];rw [w64 ah ah];refine oo9 rfl rfl rfl rfl (iW rfl ?_);simp only [h40,go_sem,reduceIte,Nat.reduceEqDiff,Nat.reduceSub,Nat.reduceAdd,reduceCtorEq,Nat.reduceLeDiff];refine⟨_,(gZ t b).t,rfl,.inl ⟨true,rfl⟩,(LY st).1,(LY st).2,λh2 j y0 N0 tr0 fr0=> ?_⟩;have lo:∀l,l<5->AE.look h2 l=AE.look h1 l:=λl hl=>fr0.2 l (by unfold nm;omega)
 have b0:=(lo 0 (by decide)).trans a0;have b1:=(lo 1 (by decide)).trans a1;have b2:=(lo 2 (by decide)).trans a2;have b4:=(lo 4 (by decide)).trans a4;simp only [jS,iF,eH,cut,b0,b4,t52,t3,go_sem,reduceIte,Nat.reduceEqDiff,Nat.reduceSub,Nat.reduceAdd,reduceCtorEq,Nat.reduceLeDiff];refine oo9 rfl rfl rfl rfl (iW rfl ?_);simp only [h71,go_sem,reduceIte,Nat.reduceEqDiff,Nat.reduceSub,Nat.reduceAdd,reduceCtorEq,Nat.reduceLeDiff];refine⟨qJ b (gZ t b),b.pc+b.len,true,f2,f5,rfl,ado sy,sy.x,sy.y,by show 0<=b.fin;omega,hf.2,λh3 j1 cs M ts rg lo3=> ?_⟩;have lo':∀l,l<5->AE.look h3 l=AE.look h2 l:=λl hl=>lo3 l (by unfold nm;omega)
 have c1:=(lo' 1 (by decide)).trans b1;have c2:=(lo' 2 (by decide)).trans b2;simp only [jS,iF,eH,cut,go_sem,reduceIte,Nat.reduceEqDiff,Nat.reduceSub,Nat.reduceAdd,reduceCtorEq,Nat.reduceLeDiff];obtain⟨x0,x1,x2,x3,x4,x5,rfl⟩:∃x0 x1 x2 x3 x4 x5,cs=[x0,x1,x2,x3,x4,x5]:=by
  match cs,ts.len with
  | [a,b,c,d,e,f],_=>exact⟨a,b,c,d,e,f,rfl⟩
 refine oo9 rfl rfl rfl rfl (ou rfl ?_);simp only [t32,e4,c1,go_sem,reduceIte,Nat.reduceEqDiff,Nat.reduceSub,Nat.reduceAdd,reduceCtorEq,Nat.reduceLeDiff];refine oo9 rfl rfl rfl rfl (ou rfl ?_);simp only [t52,e5,c2,go_sem,reduceIte,Nat.reduceEqDiff,Nat.reduceSub,Nat.reduceAdd,reduceCtorEq,Nat.reduceLeDiff];refine BK (lQ ?_);simp only [zF,pX,oh,one,e4,e5,c1,c2,t32,t52,go_sem,reduceIte,Nat.reduceEqDiff,Nat.reduceSub,Nat.reduceAdd,reduceCtorEq,Nat.reduceLeDiff];have k0:∀l,N0 l->5<=l/\l<5+j:=λl hl=>by have:=fr0.1 l hl;unfold nm at*;omega
 have k1:∀i x,i<6->M i x->5+j<=x/\x<5+j+j1:=λi x hi hx=>by have:=rg i x hi hx;unfold nm at*;omega
 refine hK _ _ y0 _ (λi=>match i with | 0=>N0 | i+1=>M i) rfl (GQ ((tr0.frame λl hl=>lo3 l (by have:=(k0 l hl).2;unfold nm;omega)).frame λl hl=> ?_) (ts.frame λi x hi hx=> ?_) λi x hi h0 h1=>by have:=k0 x h0;have:=k1 i x hi h1;omega) λi x hi hx=> ?_
 .have:=k0 l hl;rw [aj _ _ ah,aj _ _ ah]
 .have:=k1 i x hi hx;rw [aj _ _ ah,aj _ _ ah]
 .cases i with
  | zero=>have:=k0 x hx;omega
  | succ i=>have:=k1 i x ah hx;omega
theorem abU{G:fO}(h35:G 35=some (L_b .tab ShT λt=>bp (aR t)))(h63:G 63=some (L_b .blk (λb=>b.ops.length<1000000000) λb=>bp (qI b))){dr:jI}
  {args:List PV} {h:Heap} {n:Nat} {K:PV->Heap->Nat->Prop} (hR:qF (λt b=>¬Sl t b) args h n K):dh E G dr Tryz.f20 (Tryz.f20.body.getD .skip) args h n K:=by
 obtain⟨rfl,rfl,t,b,rfl,st,hb,hc,hK⟩:=hR;have hc':¬(aR t/\t.length<=100/\qI b):=hc;have eN:dI t b=([],Ll):=by unfold dI;rw [bU hc'];rfl
 rw [eN]at hK;have t57:E.ty 57=some ⟨.struct [(0,3),(1,3),(2,55),(3,3),(4,3),(5,3),(6,3)],7,72,[z0,z0,.nil,z0,z0,z0,z0]⟩:=rfl;have t52:E.ty 52=some ⟨.struct [(0,49),(1,50),(2,3),(3,35),(4,35),(5,3)],6,112,[.nil,.nil,z0,.nil,.nil,z0]⟩:=rfl;have t32:E.ty 32=some ⟨.struct [(0,30)],1,24,[.nil]⟩:=rfl;have t30:E.ty 30=some ⟨.slice 90,1,24,[.nil]⟩:=rfl;unfold dh;dsimp only [Tryz.f20,Option.getD,slotsOf,List.length];unfold oJ;dsimp only [List.map];refine aP ?_;refine oo5 rfl rfl rfl ?_;simp only [t32,go_sem,reduceIte,Nat.reduceEqDiff,Nat.reduceSub,Nat.reduceAdd,reduceCtorEq,Nat.reduceLeDiff];refine oo5 rfl rfl rfl ?_;simp only [t57,go_sem,reduceIte,Nat.reduceEqDiff,Nat.reduceSub,Nat.reduceAdd,reduceCtorEq,Nat.reduceLeDiff];refine oo5 rfl rfl rfl ?_;simp only [t32,go_sem,reduceIte,Nat.reduceEqDiff,Nat.reduceSub,Nat.reduceAdd,reduceCtorEq,Nat.reduceLeDiff];refine oo5 rfl rfl rfl ?_;simp only [t52,aF,go_sem,reduceIte,Nat.reduceEqDiff,Nat.reduceSub,Nat.reduceAdd,reduceCtorEq,Nat.reduceLeDiff]
 have hP:∃P:St->Prop,P=λs=>s.m=225/\s.n=0/\s.k=4/\aA s.t 4=some (.c (.ptr (nm 0 2) 1 0 0))/\aA s.t 5=some (.c (.ptr (nm 0 3) 6 0 0))/\AE.look s.h (nm 0 2)=some (.box [.nil])/\AE.look s.h (nm 0 3)=some (.box [.nil,.nil,z0,.nil,.nil,z0])/\
   ∃f,aA s.t 39=some (.c (.d f (.bool true))):=⟨_,rfl⟩
 obtain⟨P,hP⟩:=hP;refine aP (yM (P:=P) (λs hs=> ?_) (λKK hKK=> ?_))
 rotate_left
 .subst hP
  (first | refine oo1 rfl rfl rfl ?_ | refine oo2 rfl rfl rfl rfl rfl rfl ?_ | refine oo3 rfl rfl rfl (by decide) rfl ?_ | refine oo4 rfl rfl rfl rfl ?_);simp only [t32,go_sem,reduceIte,Nat.reduceEqDiff,Nat.reduceSub,Nat.reduceAdd,reduceCtorEq,Nat.reduceLeDiff]
  refine oo6 rfl rfl rfl ?_;simp only [h35,go_sem,reduceIte,Nat.reduceEqDiff,Nat.reduceSub,Nat.reduceAdd,reduceCtorEq,Nat.reduceLeDiff];refine⟨_,t,rfl,.cons (.d true _) .nil,st,λg0=> ?_⟩
  iterate 2 ((first | refine oo1 rfl rfl rfl ?_ | refine oo2 rfl rfl rfl rfl rfl rfl ?_ | refine oo3 rfl rfl rfl (by decide) rfl ?_ | refine oo4 rfl rfl rfl rfl ?_);simp only [go_sem,reduceIte,Nat.reduceEqDiff,Nat.reduceSub,Nat.reduceAdd,reduceCtorEq,Nat.reduceLeDiff])
  cases c0:bp (F.aR t)
  .iterate 10 ((first | refine oo1 rfl rfl rfl ?_ | refine oo2 rfl rfl rfl rfl rfl rfl ?_ | refine oo3 rfl rfl rfl (by decide) rfl ?_ | refine oo4 rfl rfl rfl rfl ?_);simp only [go_sem,reduceIte,Nat.reduceEqDiff,Nat.reduceSub,Nat.reduceAdd,reduceCtorEq,Nat.reduceLeDiff])
   simp only [aF];exact hKK _ ⟨rfl,rfl,rfl,rfl,rfl,rfl,rfl,_,rfl⟩
  .iterate 4 ((first | refine oo1 rfl rfl rfl ?_ | refine oo2 rfl rfl rfl rfl rfl rfl ?_ | refine oo3 rfl rfl rfl (by decide) rfl ?_ | refine oo4 rfl rfl rfl rfl ?_);simp only [t32,t30,lT,oW,mq,iB,ci,true_or,go_sem,reduceIte,Nat.reduceEqDiff,Nat.reduceSub,Nat.reduceAdd,reduceCtorEq,Nat.reduceLeDiff])
   cases c1:decide (((t.map iG).length:Int)>100)
   .iterate 3 ((first | refine oo1 rfl rfl rfl ?_ | refine oo2 rfl rfl rfl rfl rfl rfl ?_ | refine oo3 rfl rfl rfl (by decide) rfl ?_ | refine oo4 rfl rfl rfl rfl ?_);simp only [t57,go_sem,reduceIte,Nat.reduceEqDiff,Nat.reduceSub,Nat.reduceAdd,reduceCtorEq,Nat.reduceLeDiff])
    refine oo7 rfl rfl rfl rfl rfl rfl ?_;simp only [h63,go_sem,reduceIte,Nat.reduceEqDiff,Nat.reduceSub,Nat.reduceAdd,reduceCtorEq,Nat.reduceLeDiff];refine⟨_,b,rfl,.cons (.d true _) (.cons (.d true _) (.cons (.d true _) (.cons (.d true _) (.cons (.d true _) (.cons (.d true _) (.cons (.d true _) .nil)))))),hb,λg1=> ?_⟩
    (first | refine oo1 rfl rfl rfl ?_ | refine oo2 rfl rfl rfl rfl rfl rfl ?_ | refine oo3 rfl rfl rfl (by decide) rfl ?_ | refine oo4 rfl rfl rfl rfl ?_);simp only [go_sem,reduceIte,Nat.reduceEqDiff,Nat.reduceSub,Nat.reduceAdd,reduceCtorEq,Nat.reduceLeDiff]
    have c2:bp (qI b)=false:=by
     refine bU λhir=>hc ⟨bD.1 c0,?_,hir⟩
     have:=of_decide_eq_false c1;rw [List.length_map]at this;omega
    (first | refine oo1 rfl rfl rfl ?_ | refine oo2 rfl rfl rfl rfl rfl rfl ?_ | refine oo3 rfl rfl rfl (by decide) rfl ?_ | refine oo4 rfl rfl rfl rfl ?_);simp only [c2,go_sem,reduceIte,Nat.reduceEqDiff,Nat.reduceSub,Nat.reduceAdd,reduceCtorEq,Nat.reduceLeDiff]
    simp only [aF];exact hKK _ ⟨rfl,rfl,rfl,rfl,rfl,rfl,rfl,_,rfl⟩
   .iterate 6 ((first | refine oo1 rfl rfl rfl ?_ | refine oo2 rfl rfl rfl rfl rfl rfl ?_ | refine oo3 rfl rfl rfl (by decide) rfl ?_ | refine oo4 rfl rfl rfl rfl ?_);simp only [go_sem,reduceIte,Nat.reduceEqDiff,Nat.reduceSub,Nat.reduceAdd,reduceCtorEq,Nat.reduceLeDiff])
    simp only [aF];exact hKK _ ⟨rfl,rfl,rfl,rfl,rfl,rfl,rfl,_,rfl⟩
 subst hP;obtain⟨tt,hh,nn,kk,mm⟩:=s;obtain⟨q1,q2,q3,e4,e5,a2,a3,f,e39⟩:=hs;dsimp only at q1 q2 q3 e4 e5 a2 a3 e39;subst q1 q2 q3;refine bG (fM (iH e39) (λ_=> ?_) (λhx=>absurd hx (by decide)));refine aP ?_
 (first | refine oo1 rfl rfl rfl ?_ | refine oo2 rfl rfl rfl rfl rfl rfl ?_ | refine oo3 rfl rfl rfl (by decide) rfl ?_ | refine oo4 rfl rfl rfl rfl ?_);simp only [jX,jW,t32,go_sem,reduceIte,Nat.reduceEqDiff,Nat.reduceSub,Nat.reduceAdd,reduceCtorEq,Nat.reduceLeDiff]
 refine⟨by simp [t30],?_⟩
 (first | refine oo1 rfl rfl rfl ?_ | refine oo2 rfl rfl rfl rfl rfl rfl ?_ | refine oo3 rfl rfl rfl (by decide) rfl ?_ | refine oo4 rfl rfl rfl rfl ?_);simp only [jX,jW,t52,go_sem,reduceIte,Nat.reduceEqDiff,Nat.reduceSub,Nat.reduceAdd,reduceCtorEq,Nat.reduceLeDiff]
 refine⟨by decide,?_⟩;refine oo5 rfl rfl rfl ?_;simp only [t32,e4,a2,go_sem,reduceIte,Nat.reduceEqDiff,Nat.reduceSub,Nat.reduceAdd,reduceCtorEq,Nat.reduceLeDiff];refine oo5 rfl rfl rfl ?_;simp only [t52,e5,a3,aF,go_sem,reduceIte,Nat.reduceEqDiff,Nat.reduceSub,Nat.reduceAdd,reduceCtorEq,Nat.reduceLeDiff];refine lQ ?_;simp only [zF,pX,oh,one,e4,e5,a2,a3,t32,t52,go_sem,reduceIte,Nat.reduceEqDiff,Nat.reduceSub,Nat.reduceAdd,reduceCtorEq,Nat.reduceLeDiff];refine hK _ _ _ _ _ rfl (GQ (N:=λ_=>False) (M:=λ_ _=>False) (.nil 4) ⟨rfl,λj hj=>JD j hj,λ_ _ _ _ _ a=>a.elim⟩ (λ_ _ _ a=>a.elim)) λi x _ a=> ?_
 cases i<;>exact a.elim
end Go.TX.Seat
namespace Go.TX.Seat
open Go Go.AE Go.TX Go.TX.F Go.Proofs
set_option maxRecDepth 100000
def gl(l:List (FuncId×Trans)):fO:=λg=>match l.find? (λp=>p.1==g)with | some p=>some p.2 | none=>none
def UJ{l:List (FuncId×Trans)}(h:∀p∈l,aK E p.1 p.2):jZ E (gl l):=λf R hf=>by
 unfold gl at hf;split at hf
 .rename_i p hp;cases hf;have:=h p (List.mem_of_find?_eq_some hp);have e:p.1=f:=by simpa using List.find?_some hp
  rw [e]at this;exact this
 .cases hf
def iQ{f:FuncId}{fn:Func}{R:Trans}{l:List (FuncId×Trans)}(hl:∀p∈l,aK E p.1 p.2)(k:aQ)(tbl:Nat->List dK)(hf:E.P.funcs[f]? =some fn)(hbody:∀args h n K,R args h n K->dh E (gl l) (@drA k E (gl l) tbl) fn (fn.body.getD .skip) args h n K)
  (hb:fn.body=some (fn.body.getD .skip):=by rfl) (hn:(fn.name== "runtime.NumGoroutine")=false:=by kernel_rfl):aK E f R:=
 XD hE (UJ hl) (@Pp k E hE (gl l) (UJ hl) hm tbl) hf hb (enters_of hf hn hb) hbody
def l0:∀p∈([]:List (FuncId×Trans)),aK E p.1 p.2:=λp hp=>by cases hp
def lc{f:FuncId}{R:Trans}{l:List (FuncId×Trans)}(h:aK E f R)(hl:∀p∈l,aK E p.1 p.2):∀p∈(f,R)::l,aK E p.1 p.2:=λp hp=>by
 rcases List.mem_cons.1 hp with rfl | hp
 .exact h
 .exact hl p hp
abbrev k0:aQ:=⟨[],[]⟩
def nt:Nat->List dK:=λ_=> []
def VU:aK E 134 (yL 1 (NB .i64)):=iQ l0 k0 nt Tryz.func134 λ_ _ _ _ hR=>abF hR
def LZ:aK E 91 (oK 2 OB):=iQ (lc VU l0) k0 nt Tryz.func91 λ_ _ _ _ hR=>Oq rfl hR
def Iq:aK E 34 (yL 2 (ToB false 2 OB)):=iQ (lc LZ l0) k0 nt Tryz.func34 λ_ _ _ _ hR=>LK rfl hR
def L6:aK E 9 (oK 1 PB):=iQ (lc Iq l0) k0 nt Tryz.func9 λ_ _ _ _ hR=>Ou rfl hR
def L8:aK E 90 (oK 4 AB):=iQ (lc L6 l0) k0 nt Tryz.func90 λ_ _ _ _ hR=>Ov rfl hR
def Ir:aK E 33 (yL 4 (ToB false 4 AB)):=iQ (lc L8 l0) k0 nt Tryz.func33 λ_ _ _ _ hR=>LM rfl hR
def OC:aK E 8 (oK 1 TB):=iQ (lc Ir l0) k0 nt Tryz.func8 λ_ _ _ _ hR=>R9 rfl hR
def OD:aK E 108 Sc:=iQ l0 k0 nt Tryz.func108 λ_ _ _ _ hR=>Si hR
def lH:aK E 45 xk:=iQ (lc OD l0) k0 nt Tryz.func45 λ_ _ _ _ hR=>GD rfl hR
def GU:aK E 14 Sd:=iQ (lc lH l0) k0 nt Tryz.func14 λ_ _ _ _ hR=>Io rfl hR
def DJ:aK E 44 LP:=iQ (lc lH l0) k0 nt Tryz.func44 λ_ _ _ _ hR=>GH rfl hR
def Iu:aK E 13 abH:=iQ (lc DJ l0) k0 nt Tryz.func13 λ_ _ _ _ hR=>LQ rfl hR
def L9:aK E 105 wI:=iQ l0 k0 nt Tryz.func105 λ_ _ _ _ hR=>Oy hR
def uz:aK E 41 oF:=iQ (lc L9 l0) ⟨[20],[]⟩ (λ_=> [(0,([3],[])),(1,([13],[])),(2,([5],[])),(3,([15],[])),(4,([5],[])),(5,([17],[])),(6,([18],[1,3])),(7,([16,19],[])),(8,([20],[1])),(9,([14,21],[])),(10,([3],[])),(11,([22,23],[]))]) Tryz.func41 λ_ _ _ _ hR=>Oz rfl rfl hR
def OE:aK E 40 uw:=iQ (lc uz l0) ⟨[25],[]⟩ (λ_=> [(0,([3],[])),(1,([13],[])),(2,([5],[])),(3,([15],[])),(4,([5],[])),(5,([17],[])),(6,([5],[])),(7,([19],[])),(9,([5],[])),(10,([22],[])),(8,([20],[1,3,5,10])),(11,([23],[1,3,5])),(12,([16,18,21,24],[])),(13,([25],[1])),(14,([14,26],[])),(15,([3],[])),(16,([27,28],[]))]) Tryz.func40 λ_ _ _ _ hR=>Sj rfl rfl hR
def VW:aK E 116 (oK 5 IB):=iQ l0 k0 nt Tryz.func116 λ_ _ _ _ hR=>abG hR
def Sn:aK E 62 (yL 5 (ToB true 5 IB)):=iQ (lc VW l0) k0 nt Tryz.func62 λ_ _ _ _ hR=>VR rfl hR
def Ma:aK E 19 (oK 7 BB):=iQ (lc Sn l0) k0 nt Tryz.func19 λ_ _ _ _ hR=>Ow rfl hR
def uO:aK E 77 D7:=iQ (lc lH l0) k0 nt Tryz.func77 λ_ _ _ _ hR=>GI rfl hR
def CF:aK E 76 abI:=iQ (lc lH<| lc uO l0) k0 nt Tryz.func76 λ_ _ _ _ hR=>DF rfl rfl hR
def Iw:aK E 24 abJ:=iQ (lc CF<| lc uO<| lc GU l0) k0 nt Tryz.func24 λ_ _ _ _ hR=>LU rfl rfl rfl hR
def Mc:aK E 75 Sg:=iQ l0 k0 nt Tryz.func75 λ_ _ _ _ hR=>Ox hR
def GV:aK E 23 abK:=iQ (lc Mc l0) k0 nt Tryz.func23 λ_ _ _ _ hR=>Ip rfl hR
def VX:aK E 41 (oK 1 GL):=iN uz adi
def Iy:aK E 155 (acw 1 GL):=iQ (lc VX l0) k0 nt Tryz.func155 λ_ _ _ _ hR=>LW rfl hR
def amy:Nat->List dK
 | 1=> [(0,([1],[])),(1,([6],[])),(3,([1],[])),(4,([9],[])),(5,([1],[])),(6,([11],[])),(8,([1],[])),(9,([14],[])),(11,([1],[])),(12,([17],[])),(2,([7],[4,6,9,12])),(7,([12],[4,9,12])),(10,([15],[4,12])),(13,([8,10,13,16,18],[])),(14,([],[])),(15,([3,19],[]))]
 | _=> [(0,([3],[])),(1,([27],[])),(2,([5],[])),(3,([29],[])),(4,([5],[])),(5,([31],[])),(6,([5],[])),(7,([33],[])),(9,([5],[])),(10,([36],[])),(12,([5],[])),(13,([39],[])),(8,([34],[1,3,5,10,13])),(11,([37],[1,3,5,13])),(14,([40],[1,3,5])),(15,([30,32,35,38,41],[])),(16,([42],[1])),(17,([28,43],[])),(18,([3],[])),(19,([44,45],[]))]
def OH:aK E 119 y8:=iQ (lc uz<| lc Iy l0) ⟨[42],[]⟩ amy Tryz.func119 λ_ _ _ _ hR=>Sk rfl rfl rfl rfl hR
end Go.TX.Seat
namespace Go.TX
open Go Go.AE
theorem dF{α β:Type}{R:α->β->Prop}{x:List α}{b:β}{r:List β}(h:F2 R x (b::r)):∃a y,x=a::y/\R a b/\F2 R y r:=by cases h with | cons h1 h2=>exact⟨_,_,rfl,h1,h2⟩
theorem ze{α β:Type}{R:α->β->Prop}{x:List α}(h:F2 R x []):x=[]:=by cases h;rfl
theorem Ba{N:NM}{x:Cell}{g:Bool}{y:Leaf aJ}(h:RC N x (.d g y)):∃f,x= .d f (l5 y):=by
 cases h with | d a _=>exact⟨_,by rw [a]⟩
theorem abV{N:NM}{x:Cell}{y:Leaf aJ}(h:RC N x (.d true y))(hs:y.scalar=false):x= .d true (l5 y):=by
 cases h with
 | d a b=>
  rcases b rfl with rfl | b
  .rw [a]
  .rw [hs]at b;cases b
theorem abW{N:NM}{x:Cell}(h:RC N x .nil):x= .nil:=by cases h;rfl
variable [aQ]
theorem ahZ{N:NM}{co:Co}{x:co.den}:PVR N (.agg ((lx co x).map (.d true))) (.sv false co x):= .one (.agg rfl (by
 show F2 (RC N) (((dM (std 0) co x 0 co.fields).map l5).map (.d true)) ((dM (std 0) co x 0 co.fields).map (.d false));generalize dM (std 0) co x 0 co.fields=l
 induction l with
 | nil=>exact .nil
 | cons a l ih=>exact .cons (.d rfl λh=>by cases h) ih))
theorem OI{s':St}{s:RSt (std 0)}(S:SR s' s){i l sz j:Nat}(h:eP (std 0) s.t i=some ⟨none,.c (.pb l sz j)⟩):aA s'.t i=some (.c (.ptr l sz 0 j)):=by
 obtain⟨pv,h1,h2⟩:=S.val i _ h;rw [h1];cases h2 with | one h2=>
 cases h2 with
 | c h2=>cases h2;rfl
 | agg a _=>cases a
theorem GX{s':St}{s:RSt (std 0)}(S:SR s' s){l:Nat}{v:SVal}(h:s.h[l]? =some (.box v)):∃cs,AE.look s'.h l=some (.box cs)/\F2 (RC (nmh s.h)) cs (cellsS v):=by
 obtain⟨o,h1,h2⟩:=S.heap.old l _ h;cases h2 with | box h2=>exact⟨_,h1,h2⟩
end Go.TX
namespace Go.TX.Seat
open Go Go.AE Go.TX Go.TX.F Go.Proofs
set_option maxRecDepth 100000
noncomputable def hSR:=hc ahT (hc ahU (hc akL (hc abz (hc UF (hc aa3 (hc aeC (hc abA (hc aeQ (hc aeR hn)))))))))
theorem akR(t:List Atom)(b:Blk)(ht:ShT t)(hb:b.ops.length<1000000000)(c:Sl t b):adk.F hSR.C (t,b,()) (λy=>y.1=b/\y.2.2.2.1=(gZ t b).t/\y.2.2.2.2.2.1=qJ b (gZ t b)):=
 amv nI Dl AX uN oN AA Cv sW AV jH t b ht hb c
theorem adp{N:NM}{r:PV}{g:Bool}{k:Int}(hr:PVR N r (.c (.d g (.int .i64 k)))):∃f,r= .c (.d f (.int .i64 k)):=by
 cases hr with | one hr=>
 cases hr with
 | c hr=>cases hr with | d a _=>subst a;exact⟨_,rfl⟩
 | agg a _=>cases a
theorem ah0:aK E 120 ae0:=iN (Ku Gq.ok) λargs h n K=>by
 rintro⟨p,rfl,hp,hK⟩;obtain⟨q1,q2⟩:=xU p hp;have e3:∃cr,kg (std 0) [] _ Gq.c [.sv true .poly p]=some cr/\cr.ck=[Gq.c.pre (p,())]/\cr.k cr.y=some (.tup [.c (.d true (.int .i64 (Gq.c.fn (p,())).1)),.c (.d true (.bool (Gq.c.fn (p,())).2.1))],[]):=⟨_,rfl,rfl,rfl⟩;obtain⟨cr,e1,e2,e3⟩:=e3;rw [q2]at e3;refine⟨λa ha=> ?_,yJ [.sv true .poly p] (.cons (xM (co:= .poly) (x:=p)) .nil) e1 (λb hb=> ?_) e3 λr h'' j hr _ _=> ?_⟩
 .rw [List.mem_singleton.1 ha];intro c hc;rw [List.mem_singleton.1 hc];trivial
 .rw [e2]at hb;rw [List.mem_singleton.1 hb];exact q1
 .cases hr with
  | one a=>cases a with | agg a=>cases a
  | tup a=>
  cases a with | cons a1 a=>
  cases a with | cons a2 a=>
  cases a;cases a1 with
  | agg a=>cases a
  | c a1=>
  cases a2 with
  | agg a=>cases a
  | c a2=>
  cases a1 with | d d1 _=>
  cases a2 with | d d2 _=>
  subst d1 d2;refine⟨_,.same,λv hv=> ?_,hK _ _⟩;simp only [List.mem_cons,List.not_mem_nil,or_false]at hv;rcases hv with rfl | rfl<;>trivial
theorem ah1:aK E 102 ae1:=iN (Ku Gp.ok) λargs h n K=>by
 rintro⟨p,q,rfl,hp,hK⟩;obtain⟨q1,q2⟩:=oM p q hp;have e3:∃cr,kg (std 0) [] _ Gp.c [.sv true .poly p,.sv true .poly q]=some cr/\cr.ck=[Gp.c.pre (p,q,())]/\cr.k cr.y=some (.c (.d true (.int .i64 (Gp.c.fn (p,q,())).1)),[]):=⟨_,rfl,rfl,rfl⟩;obtain⟨cr,e1,e2,e3⟩:=e3;rw [q2]at e3;refine⟨λa ha=> ?_,yJ [.sv true .poly p,.sv true .poly q] (.cons (xM (co:= .poly) (x:=p)) (.cons (xM (co:= .poly) (x:=q)) .nil)) e1 (λb hb=> ?_) e3 λr h'' j hr _ _=> ?_⟩
 .simp only [List.mem_cons,List.not_mem_nil,or_false]at ha;rcases ha with rfl | rfl<;>(intro c hc;rw [List.mem_singleton.1 hc];trivial)
 .rw [e2]at hb;rw [List.mem_singleton.1 hb];exact q1
 .obtain⟨g,rfl⟩:=adp hr;exact⟨_,.same,trivial,hK g⟩
theorem ah2:aK E 122 ae2:=iN (Ku Oo.ok) λargs h n K=>by
 rintro⟨r,a,b,f,g,e,rfl,hK⟩;obtain⟨q1,q2⟩:=Il r a b;have e3:∃cr,kg (std 0) [] _ Oo.c [.c (.d true (.int .i64 r)),.c (.d true (.int .i64 a)),.c (.d true (.int .i64 b))]=some cr/\cr.ck=[Oo.c.pre (r,a,b,())]/\cr.k cr.y=some (.c (.d true (.bool (Oo.c.fn (r,a,b,())).1)),[]):=⟨_,rfl,rfl,rfl⟩;obtain⟨cr,e1,e2,e3⟩:=e3;rw [q2]at e3;have pv:∀ {N:NM} {f:Bool} {k:Int},PVR N (.c (.d f (.int .i64 k))) (.c (.d true (.int .i64 k))):= .one (.c (.d rfl λ_=> .inr rfl));refine⟨λa ha=> ?_,yJ [.c (.d true (.int .i64 r)),.c (.d true (.int .i64 a)),.c (.d true (.int .i64 b))] (.cons pv (.cons pv (.cons pv .nil))) e1 (λb hb=> ?_) e3 λr h'' j hr _ _=> ?_⟩
 .simp only [List.mem_cons,List.not_mem_nil,or_false]at ha;rcases ha with rfl | rfl | rfl<;>trivial
 .rw [e2]at hb;rw [List.mem_singleton.1 hb];exact q1
 .obtain⟨g,rfl⟩:=XV hr;exact⟨_,.same,trivial,hK g⟩
theorem VY:aK E 71 A9:=iQ (lc (X3 Dj.ok jo)<| lc OH<| lc ah0<| lc (X4 UE.ok kX)<| lc ah2<| lc ah1 l0) k0 nt Tryz.func71 λ_ _ _ _ hR=>abR rfl rfl rfl rfl rfl rfl hR
theorem OJ:aK E 20 (qF λt b=>¬Sl t b):=iQ (lc (X3 aa3.ok AA)<| lc (X3 ahU.ok Dl) l0) k0 nt Tryz.func20 λ_ _ _ _ hR=>abU rfl rfl hR
theorem akS:∀p∈[((40,uw):FuncId×Trans),(71,A9)],aK E p.1 p.2:=lc OE (lc VY l0)
def akT:Nat->List dK:=λ_=> [(0,[6],[]),(1,[213],[]),(2,[214],[]),(3,[215],[]),(5,[7],[]),(6,[3],[]),(7,[219],[]),(8,[3],[]),(9,[221],[]),(10,[220,222],[]),(4,[216],[5,7,9]),(11,[218,223],[]),(12,[4,217],[]),(13,[5,224],[])]
theorem adq{m:Nat}{b:Blk}{i k:Int}{t:List Atom}{q:Bool}{s:Sym}: @qd (std 0) ahX m (b,i,k,t,q,s,())=⟨[(3,⟨none,.c (.pb 0 7 0)⟩),(4,⟨none,.c (.pb 1 1 0)⟩),(5,⟨none,.c (.pb 2 6 0)⟩),(6,⟨none,.c (.pb 3 2 0)⟩),(7,⟨none,.c (.pb 4 6 0)⟩)],[],
 [.box (.sv false .blk b),.box (.agg [.nil]),.box (.agg [.nil,.nil,.d true (.int .i64 i),.nil,.nil,.d true (.int .i64 k)]),.box (.agg [.d true (.rows .atom t),.d true (.bool q)]),.box (.sv true .sym s)],m⟩:=rfl
theorem Sq:aK E 20 (qF Sl):=by
 letI:aQ:=aQ.z
 exact acJ hE xok (Xz hSR.h) hm (TI (l:=NI (lead 11 (Tryz.f20.body.getD .skip)))) (UJ akS) (@Pp k0 E hE (gl _) (UJ akS) hm akT) (code:=Tryz.f20.body.getD .skip) Tryz.func20 rfl (enters_of Tryz.func20 (by kernel_rfl) rfl) (NT (k:=11) (c:=Tryz.f20.body.getD .skip) rfl) (args:=[.sv true .tab,.sv false .blk]) (sk:=ahX) λav h n K=>by
  rintro⟨rfl,rfl,t,b,rfl,st,hb,c,hK⟩;refine⟨rfl,rfl,(t,b,()),[.sv true .tab t,.sv false .blk b],[],rfl,.cons (xM (co:= .tab) (x:=t)) (.cons (ahZ (co:= .blk) (x:=b)) .nil),λy=>y.1=b/\y.2.2.2.1=(gZ t b).t/\y.2.2.2.2.2.1=qJ b (gZ t b),?_,?_⟩
  .have w:=akR t b st hb c;rw [<-adk.h hSR.C (t,b,())]at w;exact w
  .rintro⟨b',(v0:Int),(v1:Int),(tb:List Atom),(q:Bool),(sy:Sym),⟨⟩⟩ ⟨e1,e2,e3⟩ s S hn;dsimp only at e1 e2 e3;subst e1 e2 e3;rw [adq]at S;have s3:=OI S (i:=3) rfl;have s4:=OI S (i:=4) rfl;have s5:=OI S (i:=5) rfl;have s6:=OI S (i:=6) rfl;have s7:=OI S (i:=7) rfl;obtain⟨x0,a0,h0⟩:=GX S (l:=0) rfl;obtain⟨x1,a1,h1⟩:=GX S (l:=1) rfl;obtain⟨x2,a2,h2⟩:=GX S (l:=2) rfl;obtain⟨x3,a3,h3⟩:=GX S (l:=3) rfl;obtain⟨x4,a4,h4⟩:=GX S (l:=4) rfl;have sl:=S.len;have sm:=S.m;obtain⟨p00,y00,rfl,k00,h0⟩:=dF h0;obtain⟨p01,y01,rfl,k01,h0⟩:=dF h0;obtain⟨p02,y02,rfl,k02,h0⟩:=dF h0;obtain⟨p03,y03,rfl,k03,h0⟩:=dF h0;obtain⟨p04,y04,rfl,k04,h0⟩:=dF h0;obtain⟨p05,y05,rfl,k05,h0⟩:=dF h0;obtain⟨p06,y06,rfl,k06,h0⟩:=dF h0;obtain rfl:=ze h0;obtain⟨g00,rfl⟩:=Ba k00;obtain⟨g01,rfl⟩:=Ba k01;obtain⟨p10,y10,rfl,k10,h1⟩:=dF h1;obtain rfl:=ze h1;obtain rfl:=abW k10;obtain⟨p20,y20,rfl,k20,h2⟩:=dF h2;obtain⟨p21,y21,rfl,k21,h2⟩:=dF h2;obtain⟨p22,y22,rfl,k22,h2⟩:=dF h2;obtain⟨p23,y23,rfl,k23,h2⟩:=dF h2;obtain⟨p24,y24,rfl,k24,h2⟩:=dF h2;obtain⟨p25,y25,rfl,k25,h2⟩:=dF h2;obtain rfl:=ze h2;obtain rfl:=abW k20;obtain rfl:=abW k21;obtain⟨g22,rfl⟩:=Ba k22;obtain rfl:=abW k23;obtain rfl:=abW k24;obtain⟨g25,rfl⟩:=Ba k25;obtain⟨p30,y30,rfl,k30,h3⟩:=dF h3;obtain⟨p31,y31,rfl,k31,h3⟩:=dF h3;obtain rfl:=ze h3;obtain rfl:=abV k30 rfl;obtain⟨g31,rfl⟩:=Ba k31;obtain⟨p40,y40,rfl,k40,h4⟩:=dF h4;obtain⟨p41,y41,rfl,k41,h4⟩:=dF h4;obtain⟨p42,y42,rfl,k42,h4⟩:=dF h4;obtain⟨p43,y43,rfl,k43,h4⟩:=dF h4;obtain⟨p44,y44,rfl,k44,h4⟩:=dF h4;obtain⟨p45,y45,rfl,k45,h4⟩:=dF h4;obtain rfl:=ze h4;obtain rfl:=abV k40 rfl;obtain rfl:=abV k41 rfl;obtain⟨g42,rfl⟩:=Ba k42;obtain rfl:=abV k43 rfl;obtain rfl:=abV k44 rfl;obtain⟨g45,rfl⟩:=Ba k45;obtain⟨tt,hh,nn,kk,mm⟩:=s;dsimp only at hn sl sm s3 s4 s5 s6 s7 a0 a1 a2 a3 a4;subst hn;have ek:kk=5:=by
    have:nm 0 kk=5:=sl.symm;unfold nm at this;omega
   have em:mm=225:=sm;subst ek em;exact abT rfl rfl rfl c hK s3 s4 s5 s6 s7 a0 a1 a2 a3 a4
theorem Sr:aK E 20 (qF λ_ _=>True):=iN (VF Sq OJ) λargs h n K=>by
 rintro⟨e1,e2,t,b,e3,st,hb,_,hK⟩;by_cases c:Sl t b
 .exact .inl ⟨e1,e2,t,b,e3,st,hb,c,hK⟩
 .exact .inr ⟨e1,e2,t,b,e3,st,hb,c,hK⟩
theorem VZ:aK E 20 (Ue (qF λ_ _=>True)):=X9 Sr
end Go.TX.Seat
namespace Go.TX.F
open Go Go.AE Go.TX
def abX:∀p:List ak,(∀m∈p,m.atoms.length<=4)->ctM p<=5*p.length
 | [],_=>by simp [ctM]
 | m::r,h=>by
  have h1:=abX r λq hq=>h q (List.mem_cons_of_mem _ hq)
  have h2:=h m (List.mem_cons_self ..);simp only [ctM,List.length_cons,ctI]
  push_cast;omega
def zl{p:List ak}(h:aV p):ctM p<=60:=by
 have:=abX p λm hm=>(h.aok hm).1
 have:=h.len;omega
def abY:∀t:List Atom,(∀a∈t,ctM a.x<=60/\ctM a.y<=60)->ctA t<=122*t.length
 | [],_=>by simp [ctA]
 | a::r,h=>by
  have h1:=abY r λq hq=>h q (List.mem_cons_of_mem _ hq)
  have h2:=h a (List.mem_cons_self ..);simp only [ctA,List.length_cons]
  push_cast;omega
def ah3{t:List Atom}(h:aR t):ctA t<=24400:=by
 have h1:=abY t λa ha=>by
  obtain⟨i,hi,rfl⟩:=List.getElem_of_mem ha;have:=(h.1 i ah ah).1;rw [show(i:Int).toNat=i from rfl,getD_lt hi]at this;unfold kr at this;split at this
  .exact⟨zl this.2.1,zl this.2.2.1⟩
  .rw [this.1.1,this.1.2];exact⟨by decide,by decide⟩
 have:=h.2;omega
def abZ:∀l:List (List ak),(∀p∈l,ctM p<=60)->ctP l<=60*l.length
 | [],_=>by simp [ctP]
 | a::r,h=>by
  have h1:=abZ r λq hq=>h q (List.mem_cons_of_mem _ hq)
  have h2:=h a (List.mem_cons_self ..);simp only [ctP,List.length_cons]
  push_cast;omega
def EvB(e:Ev):Prop:=ctM e.x<=60/\ctM e.y<=60/\ctP e.regs<=240
def ab0:∀l:List Ev,(∀e∈l,EvB e)->ctE l<=362*l.length
 | [],_=>by simp [ctE]
 | a::r,h=>by
  have h1:=ab0 r λq hq=>h q (List.mem_cons_of_mem _ hq)
  obtain⟨h2,h3,h4⟩:=h a (List.mem_cons_self ..);simp only [ctE,List.length_cons]
  push_cast;omega
def SI.ctP{n:Int}{i:Nat}{s:SS}(h:SI n i s):ctP s.regs<=240:=by
 have:=abZ s.regs λp hp=>zl (h.rok p hp).1
 have:=h.r4;omega
def UK{n:Int}:∀(ops:List IOp) (i:Nat) (s:SS),SI n i s->(∀o∈ops,o.kind=3->1<=o.k/\o.k<=5)->n+i+ops.length<=200->i+ops.length<=200->(∀e∈s.evs,EvB e)->∀e∈(ops.foldl stp s).evs,EvB e
 | [],i,s,h,_,_,_,h3=>h3
 | o::r,i,s,h,hk,h1,h2,h3=>by
  rw [List.length_cons]at h1 h2;obtain⟨a1,a2⟩:=Gc h (hk o List.mem_cons_self) ah ah;refine UK r (i+1) (stp s o) a1 (λo ho=>hk o (List.mem_cons_of_mem _ ho)) ah ah λe he=> ?_
  have he:e∈nE s o:=he;unfold nE at he;split at he
  .rcases List.mem_append.1 he with he | he
   .exact h3 e he
   .rw [List.mem_singleton.1 he];refine⟨zl (h.x o).1,zl (h.y o).1,?_⟩;show ctP (if o.kind=4\/o.kind=5 then s.regs else [])<=240;split
    .exact h.ctP
    .decide
  .exact h3 e he
theorem ads(s:Sym)(n:Int):ctS (symEnd s n)<=ctS s:=by
 have e0:=BN s.events;have e1:=rE s.regs;have e2:=dV s.x;have e3:=dV s.y;have z:ctM []=0:=rfl;unfold symEnd;split
 .show(0:Int)<=_;unfold ctS;omega
 split
 .simp only [ctS,z];omega
 split
 .exact Int.le_refl _
 split
 .simp only [ctS,z];omega
 split
 .simp only [ctS];omega
 .exact Int.le_refl _
theorem V3(t:List Atom)(b:Blk):ctA (dI t b).1<=24400/\ctS (dI t b).2<=20000:=by
 by_cases c:aR t/\t.length<=100/\qI b
 .obtain⟨c1,c2,c3⟩:=c;refine⟨ah3 (JA c1 c2 c3).1,?_⟩;rw [yX c1 c2 c3];have sz:=c3.sz;have i0:=Jz c1 ah;have hk3:=c3.k3;have hs:=Gd b.ops 0 (s0 t) i0 hk3 ah ah ⟨by simp [s0],λe he=>absurd he (by simp [s0])⟩;have hv:=UK b.ops 0 (s0 t) i0 hk3 ah ah λe he=>absurd he (by simp [s0])
  have si:=(yV b.ops 0 (s0 t) i0 hk3 ah ah).1;have pk:=D6 (b:=b) si;have h1:=ab0 _ hv;have h2:=hs.1;have h3:=si.ctP;have h4:=zl pk.1;have h5:=zl pk.2;have h6:=ads (qJ b (gZ t b)) (b.pc+b.len);have h7:ctS (qJ b (gZ t b))=ctE (b.ops.foldl stp (s0 t)).evs+ctP (b.ops.foldl stp (s0 t)).regs+ctM (qJ b (b.ops.foldl stp (s0 t))).x+ctM (qJ b (b.ops.foldl stp (s0 t))).y:=rfl;show ctS (symEnd (qJ b (gZ t b)) (b.pc+b.len))<=20000;omega
 .unfold dI;rw [bU c,if_neg (by simp)];exact⟨by decide,by decide⟩
def GY{p:List ak}{k:Int}(h:Sh p):Sh (mkM k p):=by
 refine⟨by rw [Kv];exact h.1,?_⟩;have key:∀(p:List ak) (k:Int),(∀m∈p,m.atoms.length<1000000000)->∀m∈mkM k p,m.atoms.length<1000000000:=by
  intro p
  induction p with
  | nil=>intro k _ m hm;cases hm
  | cons a r ih=>
   intro k h m hm;rcases List.mem_cons.1 hm with rfl | hm
   .show(mkI _ _).length<_;rw [Ah];exact h a (List.mem_cons_self ..)
   .exact ih _ (λq hq=>h q (List.mem_cons_of_mem _ hq)) m hm
 exact key p k h.2
def ab1{l:List (List ak)}{k:Int}(h:ShP l):ShP (mkP k l):=by
 refine⟨by rw [KF];exact h.1,?_⟩;have key:∀(p:List (List ak)) (k:Int),(∀m∈p,Sh m)->∀m∈mkP k p,Sh m:=by
  intro p
  induction p with
  | nil=>intro k _ m hm;cases hm
  | cons a r ih=>
   intro k h m hm;rcases List.mem_cons.1 hm with rfl | hm
   .exact GY (h a (List.mem_cons_self ..))
   .exact ih _ (λq hq=>h q (List.mem_cons_of_mem _ hq)) m hm
 exact key l k h.2
def ah4{l:List Ev}{k:Int}(h:Lp l):Lp (mkE k l):=by
 refine⟨by rw [KG];exact h.1,?_⟩;have key:∀(p:List Ev) (k:Int),(∀m∈p,ShE m)->∀m∈mkE k p,ShE m:=by
  intro p
  induction p with
  | nil=>intro k _ m hm;cases hm
  | cons a r ih=>
   intro k h m hm;rcases List.mem_cons.1 hm with rfl | hm
   .have:=h a (List.mem_cons_self ..);exact⟨GY this.1,GY this.2.1,ab1 this.2.2⟩
   .exact ih _ (λq hq=>h q (List.mem_cons_of_mem _ hq)) m hm
 exact key l k h.2
def ah5{s:Sym}{k:Int}(h:ShY s):ShY (mkS k s):=⟨ah4 h.e,ab1 h.r,GY h.x,GY h.y⟩
end Go.TX.F
namespace Go.TX.Seat
open Go Go.AE Go.TX Go.TX.F Go.Proofs
def UL(co:Co)(G:co.den->Prop):Trans:=λargs h n K=>∃(cs ds:List Cell) (a:co.den),args=[.agg cs,.agg ds]/\F2 (jL h) cs ((lx co a).map (.d true))/\F2 (jL h) ds ((lx co a).map (.d true))/\G a/\∀g,K (.c (.d g (.bool true))) h 0
def Sv{f:FuncId}{co:Co}{G:co.den->Prop}{ct:Ct aJ ⟨[.sv false co,.sv false co],[],[.c .bool],[]⟩}(h:aK E f (bT ct))(hp:∀x y,G x->ct.pre (x,y,())=true/\ct.fn (x,y,())=(bp (x=y),())):aK E f (UL co G):=
 iN (X4 h hp) λargs hh n K=>by
  rintro⟨cs,ds,a,rfl,hc,hd,hG,hK⟩;exact⟨cs,ds,a,a,rfl,hc,hd,hG,λg=>by show K (.c (.d g (.bool (bp (a=a))))) hh 0;rw [eO rfl];exact hK g⟩
def ah6(co:Co)(mk:Int->co.den->co.den)(c:co.den->Int)(B:co.den->Prop):Trans:=λargs h n K=>∃(cs:List Cell) (a:co.den) (k:Int) (f:Bool),args=[.agg cs,.c (.d f (.int .i64 k))]/\F2 (jL h) cs ((lx co (mk k a)).map (.d true))/\B a/\0<=k/\k+c a<=4000000000000000000/\∀g,K (.c (.d g (.int .i64 (k+c a)))) h 0
def ae3{f:FuncId}{co:Co}{mk:Int->co.den->co.den}{c:co.den->Int}{B:co.den->Prop}{ct:Ct aJ ⟨[.sv false co,.c (.int .i64)],[],[.c (.int .i64)],[]⟩}(h:aK E f (bT ct))
  (hp:∀x k,B x->0<=k->k+c x<=4000000000000000000->ct.pre (mk k x,k,())=true/\ct.fn (mk k x,k,())=(k+c x,())):aK E f (ah6 co mk c B):=
 iN (DX h) λargs hh n K=>by
  rintro⟨cs,a,k,f,rfl,hl,hB,h0,h1,hK⟩;obtain⟨q1,q2⟩:=hp a k hB h0 h1;exact TU (x:=mk k a) hl q1 λg=>by rw [q2];exact hK g
def ah7{cs:List Cell}(h:cs.length=6):∃a b c d e f,cs=[a,b,c,d,e,f]:=by
 match cs,h with
 | [a,b,c,d,e,f],_=>exact⟨a,b,c,d,e,f,rfl⟩
def Md{cs:List Cell}(h:cs.length=7):∃a b c d e f g,cs=[a,b,c,d,e,f,g]:=by
 match cs,h with
 | [a,b,c,d,e,f,g],_=>exact⟨a,b,c,d,e,f,g,rfl⟩
def UN{f:Bool}{a b c d e g i:D}:∀j,j<7->Da ([Cell.d f a,.d f b,.d f c,.d f d,.d f e,.d f g,.d f i].getD j default) ([a,b,c,d,e,g,i].getD j default)
 | 0,_ | 1,_ | 2,_ | 3,_ | 4,_ | 5,_ | 6,_=> .inl ⟨f,rfl⟩
def GZ{t:List Atom}{b:Blk}{cs c2:List Cell}{h:Heap}{n:Nat}{K:PV->Heap->Nat->Prop}(h0:F2 (jL h) cs ((Sb t).map (.d true)))(h2:F2 (jL h) c2 ((oJ b).map (.d true)))(st:ShT t)(hb:b.ops.length<1000000000)
  (hK:∀h' j y0 x0 x1 x2 x3 x4 x5 M,bO h' 7 [y0,x0,x1,x2,x3,x4,x5] (Sb (dI t b).1++DC (dI t b).2) M->(∀i x,i<7->M i x->n<=x/\x<n+j)->(∀l,l<n->AE.look h' l=AE.look h l)->K (.tup [.agg [y0],.agg [x0,x1,x2,x3,x4,x5]]) h' j):
  Ue (qF λ_ _=>True) [.agg cs,.agg c2] h n K:=by
 refine⟨[.agg ((Sb t).map (.d true)),.agg ((oJ b).map (.d true))],.cons (.agg h0) (.cons (.agg h2) .nil),rfl,rfl,t,b,rfl,st,hb,trivial,λh1 j y0 cs M hl ts rg=> ?_⟩;obtain⟨x0,x1,x2,x3,x4,x5,rfl⟩:=ah7 hl;refine⟨λl=>∃i,i<7/\M i l,λl ⟨i,hi,hl⟩=>(ts.cell i hi).kf.2 l hl,?_,λh2 a b=> ?_⟩
 .intro v hv;have k:=λi (hi:i<7)=>(ts.cell i hi).kf.1
  simp only [List.mem_cons,List.not_mem_nil,or_false]at hv;rcases hv with rfl | rfl
  .intro c hc;rw [List.mem_singleton.1 hc];exact k 0 (by decide)
  .intro c hc;simp only [List.mem_cons,List.not_mem_nil,or_false]at hc;rcases hc with rfl | rfl | rfl | rfl | rfl | rfl
   .exact k 1 (by decide)
   .exact k 2 (by decide)
   .exact k 3 (by decide)
   .exact k 4 (by decide)
   .exact k 5 (by decide)
   .exact k 6 (by decide)
 .have ts':=ts.shift (n:=n) (h2:=h2) λi l hi hl=>a l ⟨i,hi,hl⟩
  exact hK h2 j _ _ _ _ _ _ _ _ ts' (λi x hi ⟨l,e,hl⟩=>by have:=rg i l hi hl;omega) b
def ab2{f g:Bool}(ct:Ct aJ ⟨[.sv false .tab,.sv false .blk],[],[.sv false .tab,.sv false .sym],[]⟩)(t:List Atom)(b:Blk):
 ∃cr,kg (std 0) [] _ ct [.sv f .tab t,.sv g .blk b]=some cr/\cr.ck=[ct.pre (t,b,())]/\cr.k cr.y=some (.tup [.sv false .tab (ct.fn (t,b,())).1,.sv false .sym (ct.fn (t,b,())).2.1],[]):=⟨_,rfl,rfl,rfl⟩
def V4{ct:Ct aJ ⟨[.sv false .tab,.sv false .blk],[],[.sv false .tab,.sv false .sym],[]⟩}{t:List Atom}{b:Blk}{cs c2:List Cell}{h:Heap}{n:Nat}{K:PV->Heap->Nat->Prop}{N:Nat->Prop}
  (h0:F2 (Hq h N) cs ((Sb t).map (.d true))) (h2:F2 (Hq h N) c2 ((oJ b).map (.d true))) (hp:ct.pre (t,b,())=true) {r:List Atom×Sym} (hr:ct.fn (t,b,())=(r.1,r.2,()))
  (hK:∀f f0 f1 f2 f3 f4 f5,K (.tup [.agg [.d f (.rows 4 (r.1.map iG))],.agg [.d f0 (.rows 5 (r.2.events.map evR)),.d f1 (.rows 1 (r.2.regs.map jA)),.d f2 (.int .i64 r.2.fin),.d f3 (bW r.2.x),.d f4 (bW r.2.y),.d f5 (.int .i64 r.2.k)]]) (mP (λl=>¬N l) h) 0):XI (bT ct) [.agg cs,.agg c2] h n K:=by
 obtain⟨cr,e1,e2,e3⟩:=ab2 (f:=true) (g:=true) ct t b;rw [hr]at e3;refine⟨[.agg ((Sb t).map (.d true)),.agg ((oJ b).map (.d true))],N,.cons (.agg h0) (.cons (.agg h2) .nil),?_,?_⟩
 .intro a ha;simp only [List.mem_cons,List.not_mem_nil,or_false]at ha;rcases ha with rfl | rfl<;>(intro c hc;obtain⟨d,_,rfl⟩:=List.mem_map.1 hc;trivial)
 .refine yJ [.sv true .tab t,.sv true .blk b] (.cons (xM (co:= .tab) (x:=t)) (.cons (xM (co:= .blk) (x:=b)) .nil)) e1 (λb hb=> ?_) e3 λrr h'' j hrr hh _=> ?_
  .rw [e2]at hb;rw [List.mem_singleton.1 hb];exact hp
  .cases hrr with
   | one a=>cases a with | agg a=>cases a
   | tup a=>
   cases a with | cons a1 a=>
   cases a with | cons a2 a=>
   cases a;cases a1 with | agg _ a1=>
   cases a2 with | agg _ a2=>
   obtain⟨p0,y0,rfl,k0,a1⟩:=dF a1;obtain rfl:=ze a1;obtain⟨p1,y1,rfl,k1,a2⟩:=dF a2;obtain⟨p2,y2,rfl,k2,a2⟩:=dF a2;obtain⟨p3,y3,rfl,k3,a2⟩:=dF a2;obtain⟨p4,y4,rfl,k4,a2⟩:=dF a2;obtain⟨p5,y5,rfl,k5,a2⟩:=dF a2;obtain⟨p6,y6,rfl,k6,a2⟩:=dF a2;obtain rfl:=ze a2;obtain⟨g0,rfl⟩:=Ba k0;obtain⟨g1,rfl⟩:=Ba k1;obtain⟨g2,rfl⟩:=Ba k2;obtain⟨g3,rfl⟩:=Ba k3;obtain⟨g4,rfl⟩:=Ba k4;obtain⟨g5,rfl⟩:=Ba k5;obtain⟨g6,rfl⟩:=Ba k6;refine⟨_,.same,λv hv=> ?_,hK _ _ _ _ _ _ _⟩;simp only [List.mem_cons,List.not_mem_nil,or_false]at hv;rcases hv with rfl | rfl
   .intro c hc;rw [List.mem_singleton.1 hc];trivial
   .intro c hc;simp only [List.mem_cons,List.not_mem_nil,or_false]at hc;rcases hc with rfl | rfl | rfl | rfl | rfl | rfl<;>trivial
set_option maxRecDepth 100000
abbrev Bb(t:List Atom):D:= .rows 4 (t.map iG)
def Dm{p:List ak}(h:F.Sh p):PL p:=⟨by have:=h.1;omega,λm hm=>by have:=h.2 m hm;show m.atoms.length<=_;omega⟩
def ae4{t:List Atom}(h:ShT t):TL t:=⟨by have:=h.1;omega,λa ha=>⟨Dm (h.2 a ha).1,Dm (h.2 a ha).2⟩⟩
def akU{s:Sym}(h:F.ShY s):SL s:=by
 obtain⟨⟨e1,e2⟩,⟨r1,r2⟩,x,y⟩:=h;exact⟨⟨ah,λe he=>⟨Dm (e2 e he).1,Dm (e2 e he).2.1,by have:=(e2 e he).2.2.1;omega,λp hp=>Dm ((e2 e he).2.2.2 p hp)⟩⟩,⟨ah,λp hp=>Dm (r2 p hp)⟩,Dm x,Dm y⟩
def ah8(s:Sym):0<=ctS s:=by
 have:=BN s.events;have:=rE s.regs;have:=dV s.x;have:=dV s.y;unfold ctS;omega
def OM(args:List PV):Prop:=∃(t:List Atom) (b:Blk),args=[.agg [.d false (Bb t)],.agg ((oJ b).map (.d false))]/\UT t/\b.ops.length<9223372036854775808
abbrev ae5(t:List Atom)(k:Int):Prop:=UT t/\0<=k/\k<=1048576
abbrev ae6(b:Blk)(k:Int):Prop:=b.ops.length<9223372036854775808/\0<=k/\k<=1048576
theorem DK{G:fO}{ct:Ct aJ ⟨[.sv false .tab,.sv false .blk],[],[.sv false .tab,.sv false .sym],[]⟩}(amA:∀t b,ShT t->b.ops.length<1000000000->ct.pre (t,b,())=true/\ct.fn (t,b,())=((dI t b).1,(dI t b).2,()))
  (gf5:G 5=some (afJ .tab ae5 λt k=>szL (cA t) k)) (amB:G 17=some (afJ .blk ae6 λb k=>szL (b.ops.length:Int) k)) (amC:G 18=some (XI (bT ct))) (gf8:G 8=some (oK 1 TB)) (adt:G 19=some (oK 7 BB)) (akV:G 20=some (Ue (qF λ_ _=>True)))
  (adu:G 11=some (UL .tab ShT)) (ah9:G 21=some (UL .sym F.ShY)) (amD:G 22=some (UL .blk λb=>b.ops.length<1000000000)) (akW:G 13=some abH) (amE:G 23=some abK) (amF:G 24=some abJ) (akX:G 15=some (ah6 .tab mkA ctA Any)) (akY:G 25=some (ah6 .sym mkS ctS F.ShY))
  {tbl:Nat->List dK} (q8:tbl 8=[(0,[2],[]),(2,[3],[]),(1,[28],[2]),(3,[30],[]),(4,[29,31],[]),(5,[32],[]),(6,[27],[]),(7,[27],[]),(8,[],[]),(9,[],[]),(10,[6,33],[]),(11,[7,34],[])])
  (q14:tbl 14=[(0,[8],[]),(1,[2],[]),(2,[56],[0]),(3,[55,57],[]),(4,[58],[])]) (q16:tbl 16=[(0,[9],[]),(1,[3],[]),(2,[61],[0]),(3,[60,62],[]),(4,[63],[])])
  (q35:tbl 35=[(0,[2],[]),(2,[3],[]),(1,[105],[2]),(3,[107],[]),(4,[106,108],[]),(5,[109],[]),(6,[104],[]),(7,[104],[]),(8,[],[]),(9,[],[]),(10,[15,110],[]),(11,[16,111],[])])
  {args:List PV} {h:Heap} {n:Nat} {K:PV->Heap->Nat->Prop} (hR:aaE OM args h n K): @dh E G (@drA ⟨[],[]⟩ E G tbl) Tryz.f4 (Tryz.f4.body.getD .skip) args h n K:=by
 letI:aQ:=⟨[],[]⟩
 obtain⟨⟨t,b,rfl,ut,ub⟩,rfl,rfl,hK⟩:=hR;unfold dh;dsimp only [Tryz.f4,Option.getD,slotsOf,List.length,Nat.reduceAdd,Nat.reduceSub,oJ,List.map];have H0:HS [] (nm 0 0) [] []:=HS.nil;refine aP ?_;refine X7 H0 ⟨rfl,rfl,rfl⟩ (by decide) rfl (Nat.succ_ne_zero _) λh1 H1=> ?_
 refine X7 H1 ⟨rfl,rfl,rfl⟩ (by decide) rfl (Nat.succ_ne_zero _) λh2 H2=> ?_
 refine sP ⟨rfl,rfl,rfl⟩ (by decide) rfl ?_;simp only [aF];refine aP ?_;refine sP ⟨rfl,rfl,rfl⟩ (by decide) rfl ?_;simp only [aF];refine aP ?_;refine dR H2 ⟨rfl,rfl,rfl⟩ (by decide) rfl (a:=1) rfl rfl rfl rfl ?_;refine dS ⟨rfl,rfl,rfl⟩ (by decide) rfl ?_;refine gB ⟨rfl,rfl,rfl⟩ (by decide) rfl rfl gf5 ⟨_,t,_,_,rfl,(.cons (.d _ _) .nil),⟨ut,by decide,by decide⟩,λg=> ?_⟩;refine rF ⟨rfl,rfl,rfl⟩ (by decide) rfl ?_;simp only [aF];refine aP ?_;refine dS ⟨rfl,rfl,rfl⟩ (by decide) rfl ?_;refine yN ⟨rfl,rfl,rfl⟩ (by decide) rfl ?_;simp only [aF];refine bG (fM (iH rfl) (λ_=>Qj (n:=0) (by rfl) (by decide) rfl rfl (by exact λ_ h=>h) hK) (λhb=>mQ ?_));have n1:0<=szL (cA t) 1048576:=by have:=of_decide_eq_false hb;omega
 have z1:=(szZ (aaz t) (by decide) (by decide)).2 n1;refine aP ?_;refine dR H2 ⟨rfl,rfl,rfl⟩ (by decide) rfl (a:=0) rfl rfl rfl rfl ?_;refine dS ⟨rfl,rfl,rfl⟩ (by decide) rfl ?_;refine gB ⟨rfl,rfl,rfl⟩ (by decide) rfl rfl amB ⟨_,b,_,_,rfl,(.cons (.d _ _) (.cons (.d _ _) (.cons (.d _ _) (.cons (.d _ _) (.cons (.d _ _) (.cons (.d _ _) (.cons (.d _ _) .nil))))))),⟨ub,n1,z1.2⟩,λg=> ?_⟩;refine rF ⟨rfl,rfl,rfl⟩ (by decide) rfl ?_;simp only [aF];refine aP ?_;refine dS ⟨rfl,rfl,rfl⟩ (by decide) rfl ?_;refine yN ⟨rfl,rfl,rfl⟩ (by decide) rfl ?_;simp only [aF];refine bG (fM (iH rfl) (λ_=>Qj (n:=0) (by rfl) (by decide) rfl rfl (by exact λ_ h=>h) hK) (λhb=>mQ ?_));have n2:0<=szL (b.ops.length:Int) (szL (cA t) 1048576):=by have:=of_decide_eq_false hb;omega
 have z2:=(szZ (Int.natCast_nonneg _) (n1) (z1.2)).2 n2;have b1:cA t<=1048576:=by omega
 have b2:(b.ops.length:Int)<=1048576:=by have:=aaz t;omega
 have st:=ahn b1;have hb:b.ops.length<1000000000:=by omega
 obtain⟨pt,ht⟩:=amA t b st hb;have sr:=Lu t b;have cr:=V3 t b;generalize hr:dI t b=r at ht sr cr;have m1:=aaC t;have m5:=FH t;have m8:=FH r.1;have m9:=ah8 r.2;have m2:ctB b=5*b.ops.length:=rfl;have tb:TB [Bb t]:=⟨t,rfl,(LY st).1,(LY st).2⟩;have bb:BB (oJ b):=⟨b,rfl,by unfold gX;omega⟩;refine BJ ⟨?_,?_⟩
 .unfold Static;rw [q8];kernel_rfl
 rw [q8];refine oC H2 rfl rfl ⟨rfl,rfl,rfl⟩ (by decide) rfl (idx:=1) rfl rfl rfl rfl ?_;refine oC H2 rfl rfl ⟨rfl,rfl,rfl⟩ (by decide) rfl (idx:=0) rfl rfl rfl rfl ?_;refine pO rfl rfl ⟨rfl,rfl,rfl⟩ (by decide) rfl gf8 ⟨_,[Bb t],rfl,rfl,rfl,Ub,tb,λh3 j3 cs3 M3 tr3 r3 f3=> ?_⟩;obtain⟨a0,rfl⟩:=one_cell tr3.len;have H3:=H2.xO (d:=[Bb t]) tr3 r3 f3;refine⟨(DZ H3 rfl ⟨rfl,rfl,rfl⟩ rfl (idx:=0) rfl rfl rfl rfl rG),?_⟩;refine pO rfl rfl ⟨rfl,rfl,rfl⟩ (by decide) rfl adt ⟨_,oJ b,rfl,rfl,rfl,UN,bb,λh4 j4 cs4 M4 tr4 r4 f4=> ?_⟩;obtain⟨anf,ang,anh,ani,anj,ank,anl,rfl⟩:=Md tr4.len;have H4:=H3.xO (d:=oJ b) tr4 r4 f4;refine⟨rG,?_⟩;obtain⟨N,gv,HN⟩:=H4.give;refine wV rfl rfl ⟨rfl,rfl,rfl⟩ (by decide) rfl rfl amC (V4 (t:=t) (b:=b) (r:=r) (gv 1 _ _ rfl) (gv 0 _ _ rfl) pt ht λe e0 e1 e2 e3 e4 e5=> ?_);refine⟨rG,?_⟩;have H5:=HN;refine NR rfl rfl ⟨rfl,rfl,rfl⟩ (by decide) rfl ?_;refine Ak rfl rfl ⟨rfl,rfl,rfl⟩ (by decide) rfl rfl ?_;refine Ak rfl rfl ⟨rfl,rfl,rfl⟩ (by decide) rfl rfl ?_;refine NS H5 rfl rfl rfl rfl rfl rfl rfl rfl ⟨rfl,rfl,rfl⟩ ⟨rfl,rfl,rfl⟩ ⟨rfl,rfl,rfl⟩ ⟨rfl,rfl,rfl⟩ (by decide) (by decide) rfl rfl rfl rfl (by decide) rfl rfl rfl rfl rfl rfl (Nat.succ_ne_zero _) (Nat.succ_ne_zero _) λh6 H6=> ?_
 refine BK ?_;refine aP ?_;refine dR H6 ⟨rfl,rfl,rfl⟩ (by decide) rfl (a:=3) rfl rfl rfl rfl ?_;refine NQ ⟨rfl,rfl,rfl⟩ (by decide) rfl gf8 ⟨_,[Bb t],rfl,rfl,rfl,Ub,tb,λh7 j7 cs7 M7 tr7 r7 f7=> ?_⟩;obtain⟨x0,rfl⟩:=one_cell tr7.len;have H7:=H6.xO (d:=[Bb t]) tr7 r7 f7;refine X6 H7 ⟨rfl,rfl,rfl⟩ ⟨rfl,rfl,rfl⟩ (by decide) rfl (by decide) rfl rfl rfl (List.cons_ne_nil _ _) λh8 H8=> ?_
 simp only [aF];refine aP ?_;refine dR H8 ⟨rfl,rfl,rfl⟩ (by decide) rfl (a:=3) rfl rfl rfl rfl ?_;refine NQ ⟨rfl,rfl,rfl⟩ (by decide) rfl adt ⟨_,oJ b,rfl,rfl,rfl,UN,bb,λh9 j9 cs9 M9 tr9 r9 f9=> ?_⟩;obtain⟨anm,ano,anp,anq,anr,ant,anu,rfl⟩:=Md tr9.len;have H9:=H8.xO (d:=oJ b) tr9 r9 f9;refine X6 H9 ⟨rfl,rfl,rfl⟩ ⟨rfl,rfl,rfl⟩ (by decide) rfl (by decide) rfl rfl rfl (List.cons_ne_nil _ _) λh10 H10=> ?_
 simp only [aF];refine aP ?_;refine dR H10 ⟨rfl,rfl,rfl⟩ (by decide) rfl (a:=1) rfl rfl rfl rfl ?_;refine dR H10 ⟨rfl,rfl,rfl⟩ (by decide) rfl (a:=0) rfl rfl rfl rfl ?_;refine gB ⟨rfl,rfl,rfl⟩ (by decide) rfl rfl akV (GZ (t:=t) (b:=b) (H10.sO (i:=1) rfl) (H10.sO (i:=0) rfl) st hb λh11 j11 g0 amG amH amI amJ amK amL M11 akZ r11 f11=> ?_);rw [hr]at akZ;have H11:=(H10.xO (cs:=[g0]++ [amG,amH,amI,amJ,amK,amL]) (d:=[Bb r.1]++DC r.2) akZ r11 f11).split rfl;refine dS ⟨rfl,rfl,rfl⟩ (by decide) rfl ?_;refine Ua ⟨rfl,rfl,rfl⟩ (by decide) rfl rfl ?_;refine Ua ⟨rfl,rfl,rfl⟩ (by decide) rfl rfl ?_;refine acF H11 ⟨rfl,rfl,rfl⟩ ⟨rfl,rfl,rfl⟩ ⟨rfl,rfl,rfl⟩ ⟨rfl,rfl,rfl⟩ (by decide) (by decide) rfl rfl (by decide) rfl rfl rfl rfl rfl rfl (Nat.succ_ne_zero _) (Nat.succ_ne_zero _) λh12 H12=> ?_
 simp only [aF];refine aP ?_;refine dR H12 ⟨rfl,rfl,rfl⟩ (by decide) rfl (a:=1) rfl rfl rfl rfl ?_;refine dR H12 ⟨rfl,rfl,rfl⟩ (by decide) rfl (a:=5) rfl rfl rfl rfl ?_;refine gB ⟨rfl,rfl,rfl⟩ (by decide) rfl rfl adu ⟨_,_,r.1,rfl,(H12.sO (i:=0) rfl),(.cons (.d _ _) .nil),sr.2,λg=> ?_⟩;refine BS ⟨rfl,rfl,rfl⟩ (by decide) rfl ?_;refine dS ⟨rfl,rfl,rfl⟩ (by decide) rfl ?_;refine xA rfl rfl rfl (by simp only [dOK];decide) ?_;refine dR H12 ⟨rfl,rfl,rfl⟩ (by decide) rfl (a:=0) rfl rfl rfl rfl ?_;refine xA rfl rfl rfl (by simp only [dOK];decide) ?_;refine dR H12 ⟨rfl,rfl,rfl⟩ (by decide) rfl (a:=4) rfl rfl rfl rfl ?_;refine xA rfl rfl rfl (by simp only [dOK];decide) ?_;refine gB ⟨rfl,rfl,rfl⟩ (by decide) rfl rfl ah9 ⟨_,_,r.2,rfl,(H12.sO (i:=1) rfl),(.cons (.d _ _) (.cons (.d _ _) (.cons (.d _ _) (.cons (.d _ _) (.cons (.d _ _) (.cons (.d _ _) .nil)))))),sr.1,λg=> ?_⟩;refine xA rfl rfl rfl (by simp only [dOK];decide) ?_;refine BS ⟨rfl,rfl,rfl⟩ (by decide) rfl ?_;refine Aj ⟨rfl,rfl,rfl⟩ (by decide) rfl rfl ?_;simp only [aF];refine bG (fM (iH rfl) (λhb=>absurd hb (by decide)) (λ_=>mQ ?_));refine BJ ⟨?_,?_⟩
 .unfold Static;rw [q14];kernel_rfl
 rw [q14];refine oC H12 rfl rfl ⟨rfl,rfl,rfl⟩ (by decide) rfl (idx:=3) rfl rfl rfl rfl ?_;refine oC H12 rfl rfl ⟨rfl,rfl,rfl⟩ (by decide) rfl (idx:=7) rfl rfl rfl rfl ?_;refine pO rfl rfl ⟨rfl,rfl,rfl⟩ (by decide) rfl gf8 ⟨_,[Bb t],rfl,rfl,rfl,Ub,tb,λh13 j13 anv M13 ak0 r13 f13=> ?_⟩;obtain⟨u14,rfl⟩:=one_cell ak0.len;have H13:=H12.xO (d:=[Bb t]) ak0 r13 f13;refine⟨(DZ H13 rfl ⟨rfl,rfl,rfl⟩ rfl (idx:=3) rfl rfl rfl rfl rG),?_⟩;refine wV rfl rfl ⟨rfl,rfl,rfl⟩ (by decide) rfl rfl adu ⟨_,_,t,rfl,(H13.sO (i:=4) rfl),(H13.sO (i:=0) rfl),st,λg=>⟨rG,?_⟩⟩;refine Ud rfl rfl ⟨rfl,rfl,rfl⟩ (by decide) rfl ?_;refine BK ?_;refine bG (fM (iH rfl) (λhb=>absurd hb (by decide)) (λ_=>mQ ?_));refine BJ ⟨?_,?_⟩
 .unfold Static;rw [q16];kernel_rfl
 rw [q16];refine oC H13 rfl rfl ⟨rfl,rfl,rfl⟩ (by decide) rfl (idx:=2) rfl rfl rfl rfl ?_;refine oC H13 rfl rfl ⟨rfl,rfl,rfl⟩ (by decide) rfl (idx:=6) rfl rfl rfl rfl ?_;refine pO rfl rfl ⟨rfl,rfl,rfl⟩ (by decide) rfl adt ⟨_,oJ b,rfl,rfl,rfl,UN,bb,λh14 j14 anw M14 ak1 r14 f14=> ?_⟩;obtain⟨amX,amY,amZ,am0,am1,am2,am3,rfl⟩:=Md ak1.len;have H14:=H13.xO (d:=oJ b) ak1 r14 f14;refine⟨(DZ H14 rfl ⟨rfl,rfl,rfl⟩ rfl (idx:=2) rfl rfl rfl rfl rG),?_⟩;refine wV rfl rfl ⟨rfl,rfl,rfl⟩ (by decide) rfl rfl amD ⟨_,_,b,rfl,(H14.sO (i:=4) rfl),(H14.sO (i:=0) rfl),hb,λg=>⟨rG,?_⟩⟩;refine Ud rfl rfl ⟨rfl,rfl,rfl⟩ (by decide) rfl ?_;refine BK ?_;refine bG (fM (iH rfl) (λhb=>absurd hb (by decide)) (λ_=>mQ ?_));refine aP ?_;refine sP ⟨rfl,rfl,rfl⟩ (by decide) rfl ?_;simp only [aF];refine aP ?_;refine dR H14 ⟨rfl,rfl,rfl⟩ (by decide) rfl (a:=3) rfl rfl rfl rfl ?_;refine dS ⟨rfl,rfl,rfl⟩ (by decide) rfl ?_;obtain⟨M15,t15,r15,f15⟩:=H14.Uc (i:=5) rfl;refine gB ⟨rfl,rfl,rfl⟩ (by decide) rfl rfl akW ⟨_,t,_,_,M15,rfl,t15,r15,(ae4 st),by decide,ah,λh15 g j15 t' f'=> ?_⟩;have H15:=f15 h15 j15 ([Bb (mkA 1 t)]) rfl t' f';refine rF ⟨rfl,rfl,rfl⟩ (by decide) rfl ?_;simp only [aF];refine aP ?_;refine dR H15 ⟨rfl,rfl,rfl⟩ (by decide) rfl (a:=2) rfl rfl rfl rfl ?_;refine dS ⟨rfl,rfl,rfl⟩ (by decide) rfl ?_;obtain⟨M16,t16,r16,f16⟩:=H15.Uc (i:=4) rfl;refine gB ⟨rfl,rfl,rfl⟩ (by decide) rfl rfl amE ⟨_,b,_,_,M16,rfl,t16,r16,ah,ah,ah,λh16 g j16 t' f'=> ?_⟩;have H16:=f16 h16 j16 (oJ (mkB (1+ctA t) b)) rfl t' f';refine rF ⟨rfl,rfl,rfl⟩ (by decide) rfl ?_;simp only [aF];refine aP ?_;refine dS ⟨rfl,rfl,rfl⟩ (by decide) rfl ?_;refine yN ⟨rfl,rfl,rfl⟩ (by decide) rfl ?_;rw [show decide (1+ctA t+ctB b<0)=false from decide_eq_false ah];refine dS ⟨rfl,rfl,rfl⟩ (by decide) rfl ?_;refine xA rfl rfl rfl (by simp only [dOK];decide) ?_;refine dR H16 ⟨rfl,rfl,rfl⟩ (by decide) rfl (a:=1) rfl rfl rfl rfl ?_;refine xA rfl rfl rfl (by simp only [dOK];decide) ?_;refine dR H16 ⟨rfl,rfl,rfl⟩ (by decide) rfl (a:=5) rfl rfl rfl rfl ?_;refine xA rfl rfl rfl (by simp only [dOK];decide) ?_;refine gB ⟨rfl,rfl,rfl⟩ (by decide) rfl rfl adu ⟨_,_,r.1,rfl,(H16.sO (i:=2) rfl),(.cons (.d _ _) .nil),sr.2,λg=> ?_⟩;refine xA rfl rfl rfl (by simp only [dOK];decide) ?_;refine BS ⟨rfl,rfl,rfl⟩ (by decide) rfl ?_;refine Aj ⟨rfl,rfl,rfl⟩ (by decide) rfl rfl ?_;refine dS ⟨rfl,rfl,rfl⟩ (by decide) rfl ?_;refine xA rfl rfl rfl (by simp only [dOK];decide) ?_;refine dR H16 ⟨rfl,rfl,rfl⟩ (by decide) rfl (a:=0) rfl rfl rfl rfl ?_;refine xA rfl rfl rfl (by simp only [dOK];decide) ?_;refine dR H16 ⟨rfl,rfl,rfl⟩ (by decide) rfl (a:=4) rfl rfl rfl rfl ?_;refine xA rfl rfl rfl (by simp only [dOK];decide) ?_;refine gB ⟨rfl,rfl,rfl⟩ (by decide) rfl rfl ah9 ⟨_,_,r.2,rfl,(H16.sO (i:=3) rfl),(.cons (.d _ _) (.cons (.d _ _) (.cons (.d _ _) (.cons (.d _ _) (.cons (.d _ _) (.cons (.d _ _) .nil)))))),sr.1,λg=> ?_⟩;refine xA rfl rfl rfl (by simp only [dOK];decide) ?_;refine BS ⟨rfl,rfl,rfl⟩ (by decide) rfl ?_;refine Aj ⟨rfl,rfl,rfl⟩ (by decide) rfl rfl ?_;simp only [aF];refine bG (fM (iH rfl) (λhb=>absurd hb (by decide)) (λ_=>mQ ?_));refine aP ?_;refine sP ⟨rfl,rfl,rfl⟩ (by decide) rfl ?_;simp only [aF];refine aP ?_;refine dR H16 ⟨rfl,rfl,rfl⟩ (by decide) rfl (a:=1) rfl rfl rfl rfl ?_;refine dS ⟨rfl,rfl,rfl⟩ (by decide) rfl ?_;obtain⟨M17,t17,r17,f17⟩:=H16.Uc (i:=2) rfl;refine gB ⟨rfl,rfl,rfl⟩ (by decide) rfl rfl akW ⟨_,r.1,_,_,M17,rfl,t17,r17,(ae4 sr.2),by decide,ah,λh17 g j17 t' f'=> ?_⟩;have H17:=f17 h17 j17 ([Bb (mkA 1 r.1)]) rfl t' f';refine rF ⟨rfl,rfl,rfl⟩ (by decide) rfl ?_;simp only [aF];refine aP ?_;refine dR H17 ⟨rfl,rfl,rfl⟩ (by decide) rfl (a:=0) rfl rfl rfl rfl ?_;refine dS ⟨rfl,rfl,rfl⟩ (by decide) rfl ?_;obtain⟨M18,t18,r18,f18⟩:=H17.Uc (i:=3) rfl;refine gB ⟨rfl,rfl,rfl⟩ (by decide) rfl rfl amF ⟨_,r.2,_,_,M18,rfl,t18,r18,(akU sr.1),ah,ah,λh18 g j18 t' f'=> ?_⟩;have H18:=f18 h18 j18 (DC (mkS (1+ctA r.1) r.2)) rfl t' f';refine rF ⟨rfl,rfl,rfl⟩ (by decide) rfl ?_;simp only [aF];refine aP ?_;refine sP ⟨rfl,rfl,rfl⟩ (by decide) rfl ?_;simp only [aF];refine aP ?_;refine dR H18 ⟨rfl,rfl,rfl⟩ (by decide) rfl (a:=1) rfl rfl rfl rfl ?_;refine dS ⟨rfl,rfl,rfl⟩ (by decide) rfl ?_;refine gB ⟨rfl,rfl,rfl⟩ (by decide) rfl rfl akX ⟨_,r.1,_,_,rfl,(H18.sO (i:=2) rfl),trivial,by decide,ah,λg=> ?_⟩;refine rF ⟨rfl,rfl,rfl⟩ (by decide) rfl ?_;simp only [aF];refine aP ?_;refine dS ⟨rfl,rfl,rfl⟩ (by decide) rfl ?_;refine yN ⟨rfl,rfl,rfl⟩ (by decide) rfl ?_;simp only [aF];refine bG (fM (iH rfl) (λhb=>absurd (of_decide_eq_true hb) ah) (λ_=>mQ ?_));refine aP ?_;refine dR H18 ⟨rfl,rfl,rfl⟩ (by decide) rfl (a:=0) rfl rfl rfl rfl ?_;refine dS ⟨rfl,rfl,rfl⟩ (by decide) rfl ?_;refine gB ⟨rfl,rfl,rfl⟩ (by decide) rfl rfl akY ⟨_,r.2,_,_,rfl,(H18.sO (i:=3) rfl),sr.1,ah,ah,λg=> ?_⟩;refine rF ⟨rfl,rfl,rfl⟩ (by decide) rfl ?_;simp only [aF];refine aP ?_;refine dS ⟨rfl,rfl,rfl⟩ (by decide) rfl ?_;refine yN ⟨rfl,rfl,rfl⟩ (by decide) rfl ?_;simp only [aF];refine bG (fM (iH rfl) (λhb=>absurd (of_decide_eq_true hb) ah) (λ_=>mQ ?_));refine aP ?_;refine dS ⟨rfl,rfl,rfl⟩ (by decide) rfl ?_;refine dS ⟨rfl,rfl,rfl⟩ (by decide) rfl ?_;refine adH ⟨rfl,rfl,rfl⟩ (by decide) rfl rfl ?_;simp only [aF];refine bG (fM (iH rfl) (λhb=>absurd hb (by simp)) (λ_=>mQ ?_));refine BJ ⟨?_,?_⟩
 .unfold Static;rw [q35];kernel_rfl
 rw [q35];refine oC H18 rfl rfl ⟨rfl,rfl,rfl⟩ (by decide) rfl (idx:=7) rfl rfl rfl rfl ?_;refine oC H18 rfl rfl ⟨rfl,rfl,rfl⟩ (by decide) rfl (idx:=6) rfl rfl rfl rfl ?_;refine pO rfl rfl ⟨rfl,rfl,rfl⟩ (by decide) rfl gf8 ⟨_,[Bb t],rfl,rfl,rfl,Ub,tb,λh19 j19 anx M19 ak2 r19 f19=> ?_⟩;obtain⟨b0,rfl⟩:=one_cell ak2.len;have H19:=H18.xO (d:=[Bb t]) ak2 r19 f19;refine⟨(DZ H19 rfl ⟨rfl,rfl,rfl⟩ rfl (idx:=6) rfl rfl rfl rfl rG),?_⟩;refine pO rfl rfl ⟨rfl,rfl,rfl⟩ (by decide) rfl adt ⟨_,oJ b,rfl,rfl,rfl,UN,bb,λh20 j20 anz M20 ak3 r20 f20=> ?_⟩;obtain⟨anA,anB,anC,anD,anE,anF,anG,rfl⟩:=Md ak3.len;have H20:=H19.xO (d:=oJ b) ak3 r20 f20;refine⟨rG,?_⟩;refine wV rfl rfl ⟨rfl,rfl,rfl⟩ (by decide) rfl rfl akV (GZ (t:=t) (b:=b) (H20.sO (i:=1) rfl) (H20.sO (i:=0) rfl) st hb λh21 j21 k0 amM amN amO amP amQ amR M21 ak4 r21 f21=> ?_);rw [hr]at ak4;have H21:=(H20.xO (cs:=[k0]++ [amM,amN,amO,amP,amQ,amR]) (d:=[Bb r.1]++DC r.2) ak4 r21 f21).split rfl;refine⟨rG,?_⟩;refine NR rfl rfl ⟨rfl,rfl,rfl⟩ (by decide) rfl ?_;refine Ak rfl rfl ⟨rfl,rfl,rfl⟩ (by decide) rfl rfl ?_;refine Ak rfl rfl ⟨rfl,rfl,rfl⟩ (by decide) rfl rfl ?_;refine NS H21 rfl rfl rfl rfl rfl rfl rfl rfl ⟨rfl,rfl,rfl⟩ ⟨rfl,rfl,rfl⟩ ⟨rfl,rfl,rfl⟩ ⟨rfl,rfl,rfl⟩ (by decide) (by decide) rfl rfl rfl rfl (by decide) rfl rfl rfl rfl rfl rfl (Nat.succ_ne_zero _) (Nat.succ_ne_zero _) λh22 H22=> ?_
 refine BK ?_;refine aP ?_;refine dR H22 ⟨rfl,rfl,rfl⟩ (by decide) rfl (a:=1) rfl rfl rfl rfl ?_;refine dR H22 ⟨rfl,rfl,rfl⟩ (by decide) rfl (a:=7) rfl rfl rfl rfl ?_;refine gB ⟨rfl,rfl,rfl⟩ (by decide) rfl rfl adu ⟨_,_,r.1,rfl,(H22.sO (i:=0) rfl),(.cons (.d _ _) .nil),sr.2,λg=> ?_⟩;refine BS ⟨rfl,rfl,rfl⟩ (by decide) rfl ?_;refine dS ⟨rfl,rfl,rfl⟩ (by decide) rfl ?_;refine xA rfl rfl rfl (by simp only [dOK];decide) ?_;refine dR H22 ⟨rfl,rfl,rfl⟩ (by decide) rfl (a:=0) rfl rfl rfl rfl ?_;refine xA rfl rfl rfl (by simp only [dOK];decide) ?_;refine dR H22 ⟨rfl,rfl,rfl⟩ (by decide) rfl (a:=6) rfl rfl rfl rfl ?_;refine xA rfl rfl rfl (by simp only [dOK];decide) ?_;refine gB ⟨rfl,rfl,rfl⟩ (by decide) rfl rfl ah9 ⟨_,_,r.2,rfl,(H22.sO (i:=1) rfl),(.cons (.d _ _) (.cons (.d _ _) (.cons (.d _ _) (.cons (.d _ _) (.cons (.d _ _) (.cons (.d _ _) .nil)))))),sr.1,λg=> ?_⟩;refine xA rfl rfl rfl (by simp only [dOK];decide) ?_;refine BS ⟨rfl,rfl,rfl⟩ (by decide) rfl ?_;refine Aj ⟨rfl,rfl,rfl⟩ (by decide) rfl rfl ?_;simp only [aF];refine bG (fM (iH rfl) (λhb=>absurd hb (by decide)) (λ_=>mQ ?_));refine aP ?_;refine sP ⟨rfl,rfl,rfl⟩ (by decide) rfl ?_;simp only [aF];refine aP ?_;refine dR H22 ⟨rfl,rfl,rfl⟩ (by decide) rfl (a:=3) rfl rfl rfl rfl ?_;refine dS ⟨rfl,rfl,rfl⟩ (by decide) rfl ?_;refine gB ⟨rfl,rfl,rfl⟩ (by decide) rfl rfl akX ⟨_,r.1,_,_,rfl,(H22.sO (i:=6) rfl),trivial,by decide,ah,λg=> ?_⟩;refine rF ⟨rfl,rfl,rfl⟩ (by decide) rfl ?_;simp only [aF];refine aP ?_;refine dS ⟨rfl,rfl,rfl⟩ (by decide) rfl ?_;refine yN ⟨rfl,rfl,rfl⟩ (by decide) rfl ?_;simp only [aF];refine bG (fM (iH rfl) (λhb=>absurd (of_decide_eq_true hb) ah) (λ_=>mQ ?_));refine aP ?_;refine dR H22 ⟨rfl,rfl,rfl⟩ (by decide) rfl (a:=2) rfl rfl rfl rfl ?_;refine dS ⟨rfl,rfl,rfl⟩ (by decide) rfl ?_;refine gB ⟨rfl,rfl,rfl⟩ (by decide) rfl rfl akY ⟨_,r.2,_,_,rfl,(H22.sO (i:=7) rfl),sr.1,ah,ah,λg=> ?_⟩;refine rF ⟨rfl,rfl,rfl⟩ (by decide) rfl ?_;simp only [aF];refine aP ?_;refine dS ⟨rfl,rfl,rfl⟩ (by decide) rfl ?_;refine yN ⟨rfl,rfl,rfl⟩ (by decide) rfl ?_;simp only [aF];refine bG (fM (iH rfl) (λhb=>absurd (of_decide_eq_true hb) ah) (λ_=>mQ ?_));refine aP ?_;refine dS ⟨rfl,rfl,rfl⟩ (by decide) rfl ?_;refine dS ⟨rfl,rfl,rfl⟩ (by decide) rfl ?_;refine adH ⟨rfl,rfl,rfl⟩ (by decide) rfl rfl ?_;simp only [aF];refine bG (fM (iH rfl) (λhb=>absurd hb (by simp)) (λ_=>mQ ?_));exact Qj (n:=0) (by rfl) (by decide) rfl rfl (by exact λ_ h=>h) hK
set_option maxRecDepth 100000
def uS:aK E 4 (aaE OM):=
 iQ (lc (X5 (G:=ae5) aei.ok λx k h=>Dt x k h.1 h.2.1 h.2.2)<| lc (X5 (G:=ae6) aeO.ok λx k h=>Cy x k h.1 h.2.1 h.2.2)<| lc (XJ aby.ok)<| lc OC<| lc Ma<| lc VZ<|
  lc (Sv aeI.ok Dx)<| lc (Sv aeU.ok Dz)<| lc (Sv aeX.ok Cz)<| lc Iu<| lc GV<| lc Iw<|
  lc (ae3 (co:= .tab) (mk:=mkA) (c:=ctA) (B:=Any) aeL.ok λx k _ h0 h1=>by rw [<-Qd k x];exact AQ (mkA k x) k h0 (by rw [Qd];exact h1) (XO k k x).symm)<|
  lc (ae3 (co:= .sym) (mk:=mkS) (c:=ctS) (B:=F.ShY) aeZ.ok λx k hx h0 h1=>by rw [<-XQ k x];exact AZ (mkS k x) k h0 (ah5 hx) (by rw [XQ];exact h1) (afG k k x).symm) l0) k0 (Ko (@acu k0 Tryz.f4)) Tryz.func4
  λ_ _ _ _ hR=>DK Ik rfl rfl rfl rfl rfl rfl rfl rfl rfl rfl rfl rfl rfl rfl (by kernel_rfl) (by kernel_rfl) (by kernel_rfl) (by kernel_rfl) hR
end Go.TX.Seat
