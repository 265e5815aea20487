/- For every input the law returns true, and the input reads as it did. No condition. -/
import Derived.Test.YtkecklmejhogoaaGreatZe
import Derived.ChangeSlices
import Derived.ChangeSame
import Derived.JoinedOf
import Derived.JoinedAt
import Derived.Handed
import Derived.Below
import Derived.Carry
import Derived.OpenShut
import Derived.ChangeKeysEq
import Derived.Test.YtkecklmejhogoaaGreatY
import Derived.Test.YtkecklmejhogoaaGreatRows
set_option linter.all false
set_option linter.unusedSectionVars false
set_option linter.unusedVariables false
set_option linter.unusedSimpArgs false
namespace Go.TX.F
open Go Go.AE Go.TX
theorem RB:(∀o:IOp,jC .iop 0 o=o.kind)∧(∀o:IOp,jC .iop 1 o=o.x)∧(∀o:IOp,jC .iop 2 o=o.y)∧(∀o:IOp,jC .iop 3 o=o.k)∧(∀o:IOp,jC .iop 4 o=o.at_)∧
  (∀b:Blk,jC .blk 0 b=b.pc)∧(∀b:Blk,jC .blk 1 b=b.len)∧(∀b:Blk,oN .blk 2 .iop b=b.ops)∧(∀b:Blk,jC .blk 3 b=b.fin)∧(∀b:Blk,jC .blk 4 b=b.x)∧(∀b:Blk,jC .blk 5 b=b.y)∧(∀b:Blk,jC .blk 6 b=b.k)∧
  (∀x,Co.mk .iop x=⟨x.1,x.2.1,x.2.2.1,x.2.2.2.1,x.2.2.2.2.1⟩)∧(∀x,Co.mk .blk x=⟨x.1,x.2.1,x.2.2.1,x.2.2.2.1,x.2.2.2.2.1,x.2.2.2.2.2.1,x.2.2.2.2.2.2.1⟩)∧
  (∀i:Ins,jC .ins 0 i=i.op)∧(∀i:Ins,jC .ins 1 i=i.d)∧(∀i:Ins,jC .ins 2 i=i.a)∧(∀i:Ins,jC .ins 3 i=i.k)∧(∀x,Co.mk .ins x=⟨x.1,x.2.1,x.2.2.1,x.2.2.2.1⟩)∧
  (∀e:Ev,jC .ev 0 e=e.kind)∧(∀e:Ev,jC .ev 1 e=e.at_)∧(∀e:Ev,oN .ev 2 .mono e=e.x)∧(∀e:Ev,oN .ev 3 .mono e=e.y)∧(∀e:Ev,oN .ev 4 .poly e=e.regs)∧(∀x,Co.mk .ev x=⟨x.1,x.2.1,x.2.2.1,x.2.2.2.1,x.2.2.2.2.1⟩)∧
  (∀s:Sym,oN .sym 0 .ev s=s.events)∧(∀s:Sym,oN .sym 1 .poly s=s.regs)∧(∀s:Sym,jC .sym 2 s=s.fin)∧(∀s:Sym,oN .sym 3 .mono s=s.x)∧(∀s:Sym,oN .sym 4 .mono s=s.y)∧(∀s:Sym,jC .sym 5 s=s.k)∧
  (∀x,Co.mk .sym x=⟨x.1,x.2.1,x.2.2.1,x.2.2.2.1,x.2.2.2.2.1,x.2.2.2.2.2.1⟩)∧(∀x,Co.mk .bool x=x.1)∧(∀x:Bool,akA .bool 0 x=x):=
 ⟨fun _=>rfl,fun _=>rfl,fun _=>rfl,fun _=>rfl,fun _=>rfl,fun _=>rfl,fun _=>rfl,fun _=>rfl,fun _=>rfl,fun _=>rfl,fun _=>rfl,fun _=>rfl,fun _=>rfl,fun _=>rfl,fun _=>rfl,fun _=>rfl,fun _=>rfl,fun _=>rfl,fun _=>rfl,fun _=>rfl,fun _=>rfl,fun _=>rfl,fun _=>rfl,fun _=>rfl,fun _=>rfl,fun _=>rfl,fun _=>rfl,fun _=>rfl,fun _=>rfl,fun _=>rfl,fun _=>rfl,fun _=>rfl,fun _=>rfl,fun _=>rfl⟩
@[reducible] def hK (o : IOp) : Prop := o.kind = 1 ∨ o.kind = 2 ∨ o.kind = 3 ∨ o.kind = 8
theorem aou {p1:Int×Int×Int×Unit→Bool} {f1:Int×Int×Int×Unit→Bool×Unit} (hp1:∀a b c,p1 (a,b,c,())=true) (hf1:∀a b c,f1 (a,b,c,())=(inB a b c,())) (o:IOp):
  XE (std 0) p1 f1 (o,()) (fun y=>y=(decide (hX o),decide (hY o),decide (hK o),decide (evO o),())):=by
 dsimp only [XE,Alg.cl,Alg.cg,Alg.rb,Alg.bd,Alg.l1,Tup.q,Tup.o]
 simp (disch:=omega) only [RR,RB,hp1,hf1]
 refine Prod.ext ?_ (Prod.ext ?_ (Prod.ext ?_ (Prod.ext ?_ rfl)))<;>rw [Bool.eq_iff_iff]<;>simp [hX,hY,hK,evO,inB,or_assoc,and_assoc]
theorem aov {p1:Int×Int×Int×Unit→Bool} {f1:Int×Int×Int×Unit→Bool×Unit} (hp1:∀a b c,p1 (a,b,c,())=true) (hf1:∀a b c,f1 (a,b,c,())=(inB a b c,())) (o:IOp):
  XH (std 0) p1 f1 (o,()) (fun y=>y=(decide (mkV o),())):=by
 dsimp only [XH,Alg.cl,Alg.cg,Alg.rb,Alg.bd,Alg.l1,Tup.q,Tup.o]
 simp (disch:=omega) only [RR,RB,hp1,hf1]
 refine Prod.ext ?_ rfl
 rw [Bool.eq_iff_iff];simp [mkV,inB]
theorem aow {p1:Int×Int×Int×Unit→Bool} {f1:Int×Int×Int×Unit→Bool×Unit} (hp1:∀a b c,p1 (a,b,c,())=true) (hf1:∀a b c,f1 (a,b,c,())=(inB a b c,())) (o:IOp):
  YJ (std 0) p1 f1 (o,()) (fun y=>y=(decide (evO o),())):=by
 dsimp only [YJ,Alg.cl,Alg.cg,Alg.rb,Alg.bd,Alg.l1,Tup.q,Tup.o]
 simp (disch:=omega) only [RR,RB,hp1,hf1]
 refine Prod.ext ?_ rfl
 rw [Bool.eq_iff_iff];simp [evO,inB]
theorem aox {p2:IOp×Unit→Bool} {f2:IOp×Unit→Bool×Unit} (hp2:∀o,p2 (o,())=true) (hf2:∀o,f2 (o,())=(decide (mkV o),()))
  {p1:Int×Int×Int×Unit→Bool} {f1:Int×Int×Int×Unit→Bool×Unit} (hp1:∀a b c,p1 (a,b,c,())=true) (hf1:∀a b c,f1 (a,b,c,())=(inB a b c,())) (b:Blk) (x n:Int) (h0:0≤n) (h1:n≤b.ops.length) (h2:b.ops.length<1000000000):
  XI (std 0) p2 f2 p1 f1 (b,x,n,()) (fun y=>y=(bp (Vl b.ops x n),())):=by
 dsimp only [XI,Alg.cl,Alg.cg,Alg.rb,Alg.bd,Alg.l1,Tup.q,Tup.o]
 simp (disch:=omega) only [RR,RB,hp1,hf1,hp2,hf2,eF,rV]
 refine⟨by omega,by omega,?_⟩
 refine Prod.ext ?_ rfl
 dsimp only
 rw [Bool.eq_iff_iff,bM,Bool.and_eq_true,eF,decide_eq_true_eq]
 unfold Vl
 constructor
 ·rintro⟨⟨a1,a2⟩,a3⟩;exact⟨a1,by omega,a3⟩
 ·rintro⟨a1,a2,a3⟩;exact⟨⟨a1,by omega⟩,a3⟩
theorem OL {ops:List IOp} {len i:Int} {o:IOp}:AB ops len i o↔(1≤o.kind∧o.kind≤8)∧(hX o∧Vl ops o.x i∨¬hX o∧o.x=0)∧(hY o∧Vl ops o.y i∨¬hY o∧o.y=0)∧
  (hK o∧(o.kind=1∧(0≤o.k∧o.k≤65535)∨(o.kind=2∨o.kind=8)∧(0≤o.k∧o.k≤3)∨o.kind=3∧(1≤o.k∧o.k≤5))∨¬hK o∧o.k=0)∧(evO o∧(0≤o.at_∧o.at_<len)∨¬evO o∧o.at_=0):=by
 constructor
 ·rintro⟨kd,x1,x0,y1,y0,k1,k2,k3,k0,a1,a0⟩
  refine⟨kd,?_,?_,?_,?_⟩
  ·by_cases h:hX o
   ·exact Or.inl ⟨h,x1 h⟩
   ·exact Or.inr ⟨h,x0 h⟩
  ·by_cases h:hY o
   ·exact Or.inl ⟨h,y1 h⟩
   ·exact Or.inr ⟨h,y0 h⟩
  ·unfold hK;omega
  ·by_cases h:evO o
   ·exact Or.inl ⟨h,a1 h⟩
   ·exact Or.inr ⟨h,a0 h⟩
 ·rintro⟨kd,x,y,k,a⟩
  refine⟨kd,fun h=> ?_,fun h=> ?_,fun h=> ?_,fun h=> ?_,fun h=> ?_,fun h=> ?_,fun h=> ?_,fun h h'=> ?_,fun h=> ?_,fun h=> ?_⟩
  ·rcases x with x | x
   ·exact x.2
   ·exact absurd h x.1
  ·rcases x with x | x
   ·exact absurd x.1 h
   ·exact x.2
  ·rcases y with y | y
   ·exact y.2
   ·exact absurd h y.1
  ·rcases y with y | y
   ·exact absurd y.1 h
   ·exact y.2
  ·unfold hK at k;omega
  ·unfold hK at k;omega
  ·unfold hK at k;omega
  ·unfold hK at k;omega
  ·rcases a with a | a
   ·exact a.2
   ·exact absurd h a.1
  ·rcases a with a | a
   ·exact absurd a.1 h
   ·exact a.2
theorem aoy {p3:Blk×Int×Int×Unit→Bool} {f3:Blk×Int×Int×Unit→Bool×Unit} (hp3:∀b x n,0≤n→n≤b.ops.length→b.ops.length<1000000000→p3 (b,x,n,())=true) (hf3:∀b x n,0≤n→n≤b.ops.length→b.ops.length<1000000000→f3 (b,x,n,())=(bp (Vl b.ops x n),()))
  {p2:IOp×Unit→Bool} {f2:IOp×Unit→Bool×Bool×Bool×Bool×Unit} (hp2:∀o,p2 (o,())=true) (hf2:∀o,f2 (o,())=(decide (hX o),decide (hY o),decide (hK o),decide (evO o),()))
  {p4:Int×Unit→Bool} {f4:Int×Unit→Bool×Unit} (hp4:∀a,p4 (a,())=true) (hf4:∀a,f4 (a,())=(inB a 0 65535,()))
  {p1:Int×Int×Int×Unit→Bool} {f1:Int×Int×Int×Unit→Bool×Unit} (hp1:∀a b c,p1 (a,b,c,())=true) (hf1:∀a b c,f1 (a,b,c,())=(inB a b c,()))
  {p5:Int×Unit→Bool} {f5:Int×Unit→Bool×Unit} (hp5:∀a,p5 (a,())=true) (hf5:∀a,f5 (a,())=(inB a 1 5,()))
  {p6:Int×Unit→Bool} {f6:Int×Unit→Bool×Unit} (hp6:∀a,p6 (a,())=true) (hf6:∀a,f6 (a,())=(inB a 0 3,()))
  (b:Blk) (i:Int) (h0:0≤i) (h1:i<b.ops.length) (h2:b.ops.length<1000000000) (h3:1≤b.len∧b.len≤8):
  XJ (std 0) p3 f3 p2 f2 p4 f4 p1 f1 p5 f5 p6 f6 (b,i,()) (fun y=>y=(bp (AB b.ops b.len i ((b.ops).getD (i).toNat default)),())):=by
 have Sg:=fun x=>hp3 b x i h0 (by omega) h2
 have Si:=fun x=>hf3 b x i h0 (by omega) h2
 dsimp only [XJ,Alg.cl,Alg.cg,Alg.rb,Alg.bd,Alg.l1,Tup.q,Tup.o]
 simp (disch:=omega) only [RR,RB,hp1,hf1,hp2,hf2,Sg,Si,hp4,hf4,hp5,hf5,hp6,hf6,rV]
 refine⟨by omega,by omega,fun h=> ?_,fun h=> ?_⟩
 ·rw [iB (fun g=>h g.kd)]
 ·have h:=eF.1 h
  refine Prod.ext ?_ rfl
  dsimp only
  rw [Bool.eq_iff_iff,bM,OL]
  generalize ((b.ops).getD (i).toNat default)=o at h ⊢
  simp only [Bool.and_eq_true,Bool.or_eq_true,Bool.not_eq_true',decide_eq_true_eq,decide_eq_false_iff_not,bM,eF,h,true_and,and_true]
  have e:∀ {a:Int},(0≤a∧a≤b.len-1)↔(0≤a∧a<b.len):=fun {a}=>by omega
  have k:(bif decide (o.kind=1)then inB o.k 0 65535 else bif decide (o.kind=2)then inB o.k 0 3 else bif decide (o.kind=3)then inB o.k 1 5 else(decide (o.kind=8)&&inB o.k 0 3))=true↔(o.kind=1∧(0≤o.k∧o.k≤65535)∨(o.kind=2∨o.kind=8)∧(0≤o.k∧o.k≤3)∨o.kind=3∧(1≤o.k∧o.k≤5)):=by
   rcases(by omega:o.kind=1∨o.kind=2∨o.kind=3∨o.kind=8∨(o.kind≠1∧o.kind≠2∧o.kind≠3∧o.kind≠8))with c | c | c | c | ⟨c1,c2,c3,c4⟩
   ·simp [c,inB]
   ·simp [c,inB]
   ·simp [c,inB]
   ·simp [c,inB]
   ·simp [c1,c2,c3,c4]
  rw [k]
  simp only [e,and_assoc]
theorem ac6 (b:Blk):XM (std 0) (b,()) (fun y=>y=(decide (b.fin≠1),decide (3≤b.fin),decide (b.fin≠2),())):=by
 dsimp only [XM,Alg.cl,Alg.cg,Alg.rb,Alg.bd,Alg.l1,Tup.q,Tup.o]
 simp (disch:=omega) only [RR,RB]
 refine Prod.ext ?_ (Prod.ext rfl (Prod.ext ?_ rfl))<;>simp
theorem Jw {b:Blk}:zB b↔(1≤b.fin∧b.fin≤4)∧(b.fin≠1∧Vl b.ops b.x b.ops.length∨¬b.fin≠1∧b.x=0)∧(3≤b.fin∧Vl b.ops b.y b.ops.length∨¬3≤b.fin∧b.y=0)∧(b.fin≠2∧(0≤b.k∧b.k≤65535)∨¬b.fin≠2∧b.k=0):=by
 constructor
 ·rintro⟨f,x1,x0,y1,y0,k1,k0⟩
  refine⟨f,?_,?_,by omega⟩
  ·by_cases h:b.fin=1
   ·exact Or.inr ⟨fun g=>g h,x0 h⟩
   ·exact Or.inl ⟨h,x1 h⟩
  ·by_cases h:3≤b.fin
   ·exact Or.inl ⟨h,y1 h⟩
   ·exact Or.inr ⟨h,y0 (by omega)⟩
 ·rintro⟨f,x,y,k⟩
  refine⟨f,fun h=> ?_,fun h=> ?_,fun h=> ?_,fun h=> ?_,fun h=>by omega,fun h=>by omega⟩
  ·rcases x with x | x
   ·exact x.2
   ·exact absurd h x.1
  ·rcases x with x | x
   ·exact absurd h x.1
   ·exact x.2
  ·rcases y with y | y
   ·exact y.2
   ·exact absurd h y.1
  ·rcases y with y | y
   ·exact absurd y.1 (by omega)
   ·exact y.2
theorem aoz {p2:Blk×Unit→Bool} {f2:Blk×Unit→Bool×Bool×Bool×Unit} (hp2:∀b,p2 (b,())=true) (hf2:∀b,f2 (b,())=(decide (b.fin≠1),decide (3≤b.fin),decide (b.fin≠2),()))
  {p3:Blk×Int×Int×Unit→Bool} {f3:Blk×Int×Int×Unit→Bool×Unit} (hp3:∀b x n,0≤n→n≤b.ops.length→b.ops.length<1000000000→p3 (b,x,n,())=true) (hf3:∀b x n,0≤n→n≤b.ops.length→b.ops.length<1000000000→f3 (b,x,n,())=(bp (Vl b.ops x n),()))
  {p4:Int×Unit→Bool} {f4:Int×Unit→Bool×Unit} (hp4:∀a,p4 (a,())=true) (hf4:∀a,f4 (a,())=(inB a 0 65535,()))
  {p1:Int×Int×Int×Unit→Bool} {f1:Int×Int×Int×Unit→Bool×Unit} (hp1:∀a b c,p1 (a,b,c,())=true) (hf1:∀a b c,f1 (a,b,c,())=(inB a b c,())) (b:Blk) (h2:b.ops.length<1000000000):
  XO (std 0) p2 f2 p3 f3 p4 f4 p1 f1 (b,()) (fun y=>y=(bp (zB b),())):=by
 have Sg:=fun x=>hp3 b x b.ops.length (by omega) (Int.le_refl _) h2
 have Si:=fun x=>hf3 b x b.ops.length (by omega) (Int.le_refl _) h2
 dsimp only [XO,Alg.cl,Alg.cg,Alg.rb,Alg.bd,Alg.l1,Tup.q,Tup.o]
 simp (disch:=omega) only [RR,RB,hp1,hf1,hp2,hf2,Sg,Si,hp4,hf4]
 refine Prod.ext ?_ rfl
 dsimp only
 rw [Bool.eq_iff_iff,bM,Jw]
 simp only [Bool.and_eq_true,Bool.or_eq_true,Bool.not_eq_true',decide_eq_true_eq,decide_eq_false_iff_not,bM,eF,and_assoc]
theorem aoA {p2:Blk×Unit→Bool} {f2:Blk×Unit→Bool×Unit} (hp2:∀b,b.ops.length<1000000000→p2 (b,())=true) (hf2:∀b,b.ops.length<1000000000→f2 (b,())=(bp (zB b),()))
  {p3:Blk×Int×Unit→Bool} {f3:Blk×Int×Unit→Bool×Unit} (hp3:∀(b:Blk) (i:Int),0≤i→i<b.ops.length→b.ops.length<1000000000→1≤b.len∧b.len≤8→p3 (b,i,())=true) (hf3:∀(b:Blk) (i:Int),0≤i→i<b.ops.length→b.ops.length<1000000000→1≤b.len∧b.len≤8→f3 (b,i,())=(bp (AB b.ops b.len i ((b.ops).getD (i).toNat default)),()))
  {p1:Int×Int×Int×Unit→Bool} {f1:Int×Int×Int×Unit→Bool×Unit} (hp1:∀a b c,p1 (a,b,c,())=true) (hf1:∀a b c,f1 (a,b,c,())=(inB a b c,())) (b:Blk) (h2:b.ops.length<1000000000):
  XP (std 0) p2 f2 p3 f3 p1 f1 (b,()) (fun y=>y=(bp (bI b),())):=by
 dsimp only [XP,Alg.cl,Alg.cg,Alg.rb,Alg.bd,Alg.l1,Tup.q,Tup.o]
 simp (disch:=omega) only [RR,RB,hp1,hf1]
 by_cases hl:1≤b.len∧b.len≤8
 ·have hl':=eF.2 hl
  simp (disch:=omega) only [RR,hl',eF,rV]
  refine⟨fun h=> ?_,fun h=> ?_⟩
  ·rw [iB (fun g=> ?_)]
   have g1:=g.pc
   have g2:=g.sz
   omega
  ·refine au (fun(y:Int×Int×Blk×Unit)=>y.1=b.ops.length∧y.2.2.1=b∧0≤y.2.1∧y.2.1≤b.ops.length∧All y.2.1 (fun i=>AB b.ops b.len i ((b.ops).getD (i).toNat default))) (fun y=>(b.ops.length-y.2.1).toNat) ⟨rfl,rfl,by simp,by simp,All.zero⟩ ?_
   rintro⟨(n:Int),(i:Int),(b':Blk),⟨⟩⟩ hI
   dsimp only at hI ⊢
   obtain⟨rfl,rfl,h3,h4,h5⟩:=hI
   simp (disch:=omega) only [RR,hp2 b' h2,hf2 b' h2]
   refine⟨fun h6=>⟨hp3 b' i h3 h6 h2 hl,?_⟩,fun h6=> ?_⟩
   ·rw [hf3 b' i h3 h6 h2 hl]
    dsimp only
    refine⟨fun h7=> ?_,fun h7=>⟨⟨by omega,by omega,h5.snoc (bM.1 h7)⟩,by omega⟩⟩
    rw [iB (fun g=>rU.1 h7 (g.op i h3 h6))]
   ·by_cases he:zB b'
    ·rw [dH he,dH (show bI b' from⟨hl,by omega,by omega,fun j j1 j2=>h5 j j1 (by omega),he⟩)]
    ·rw [iB he,iB (fun g=>he g.en)]
 ·have hl':=rV.2 hl
  simp (disch:=omega) only [RR,hl']
  rw [iB (fun g=>hl g.ln)]
  exact⟨rfl,fun h=>h.1.1.elim⟩
end Go.TX.F
namespace Go.TX.F
open Go Go.AE Go.TX
theorem ahV {p1:Int×Int×Int×Unit→Bool} {f1:Int×Int×Int×Unit→Bool×Unit} (hp1:∀a b c,p1 (a,b,c,())=true) (hf1:∀a b c,f1 (a,b,c,())=(inB a b c,())) (k:Int):
  Qi (std 0) p1 f1 (k,()) (fun y=>y=(decide ((1≤k∧k≤4)∨k=6),())):=by
 dsimp only [Qi,Alg.cl,Alg.cg,Alg.rb,Alg.bd,Alg.l1,Tup.q,Tup.o]
 simp (disch:=omega) only [RR,hp1,hf1]
 refine Prod.ext ?_ rfl
 rw [Bool.eq_iff_iff];simp [inB]
theorem ahW {p1:Int×Unit→Bool} {f1:Int×Unit→Bool×Unit} (hp1:∀k,p1 (k,())=true) (hf1:∀k,f1 (k,())=(decide ((1≤k∧k≤4)∨k=6),())) (ops:List IOp) (x n:Int) (h1:n≤ops.length):
  Qj (std 0) p1 f1 (ops,x,n,()) (fun y=>y=(bp (Vl ops x n),())):=by
 dsimp only [Qj,Alg.cl,Alg.cg,Alg.rb,Alg.bd,Alg.l1,Tup.q,Tup.o]
 simp (disch:=omega) only [RR,RB,hp1,hf1]
 refine⟨by simp only [Bool.and_eq_false_iff,decide_eq_false_iff_not];omega,by simp only [Bool.and_eq_false_iff,decide_eq_false_iff_not];omega,?_⟩
 refine Prod.ext ?_ rfl
 dsimp only
 rw [Bool.eq_iff_iff,bM,Bool.and_eq_true,Bool.and_eq_true,decide_eq_true_eq,decide_eq_true_eq,decide_eq_true_eq,and_assoc]
 rfl
theorem ahX {p4:Int×Unit→Bool} {f4:Int×Unit→Bool×Unit} (hp4:∀a,p4 (a,())=true) (hf4:∀a,f4 (a,())=(inB a 0 65535,()))
  {p1:Int×Int×Int×Unit→Bool} {f1:Int×Int×Int×Unit→Bool×Unit} (hp1:∀a b c,p1 (a,b,c,())=true) (hf1:∀a b c,f1 (a,b,c,())=(inB a b c,()))
  {p3:List IOp×Int×Int×Unit→Bool} {f3:List IOp×Int×Int×Unit→Bool×Unit} (hp3:∀(ops:List IOp) (x n:Int),n≤ops.length→p3 (ops,x,n,())=true) (hf3:∀(ops:List IOp) (x n:Int),n≤ops.length→f3 (ops,x,n,())=(bp (Vl ops x n),()))
  (ops:List IOp) (i len:Int) (h0:0≤i) (h1:i<ops.length) (h3:1≤len∧len≤8):Qk (std 0) p4 f4 p1 f1 p3 f3 (ops,i,len,()) (fun y=>y=(bp (AB ops len i ((ops).getD (i).toNat default)),())):=by
 have Sg:=fun x=>hp3 ops x i (by omega)
 have Si:=fun x=>hf3 ops x i (by omega)
 have e:∀ {a:Int},(0≤a∧a≤len-1)↔(0≤a∧a<len):=fun {a}=>by omega
 dsimp only [Qk,Alg.cl,Alg.cg,Alg.rb,Alg.bd,Alg.l1,Tup.q,Tup.o]
 simp (disch:=omega) only [RR,RB,hp1,hf1,Sg,Si,hp4,hf4]
 refine⟨by omega,by omega,?_⟩
 rw [show bp (AB ops len i ((ops).getD (i).toNat default))=bp (_)from uI OL]
 generalize ((ops).getD (i).toNat default)=o
 have go:∀ {c:Bool} {P:Prop},(c=true↔P)→(c,())=(bp P,()):=fun {c P} h=>Prod.ext (by dsimp only;rw [Bool.eq_iff_iff,bM];exact h) rfl
 refine⟨fun c=> ?_,fun c1=>⟨fun c=> ?_,fun c2=>⟨fun c=> ?_,fun c3=> ?_⟩⟩⟩
 ·refine go ?_
  simp only [Bool.and_eq_true,decide_eq_true_eq,bM,eF,c,hX,hY,hK,evO,e]
  simp [and_assoc]
 ·refine go ?_
  simp only [Bool.and_eq_true,decide_eq_true_eq,bM,eF,c,hX,hY,hK,evO,e]
  simp [and_assoc]
 ·refine go ?_
  simp only [Bool.and_eq_true,decide_eq_true_eq,bM,eF,c,hX,hY,hK,evO,e]
  simp [and_assoc]
 ·by_cases c4:o.kind=4∨o.kind=7
  ·have c5:o.kind≠8:=by omega
   rcases c4 with c | c<;>simp (disch:=omega) only [RR,c,Int.reduceEq]<;>(refine go ?_)<;>simp only [Bool.and_eq_true,decide_eq_true_eq,bM,eF,c,hX,hY,hK,evO,e]<;>simp [and_assoc]
  ·by_cases c:o.kind=5
   ·simp (disch:=omega) only [RR,c,Int.reduceEq]
    refine go ?_
    simp only [Bool.and_eq_true,decide_eq_true_eq,bM,eF,c,hX,hY,hK,evO,e]
    simp [and_assoc]
   ·by_cases c':o.kind=6
    ·simp (disch:=omega) only [RR,c',Int.reduceEq]
     refine go ?_
     simp only [Bool.and_eq_true,decide_eq_true_eq,bM,eF,c',hX,hY,hK,evO,e]
     simp [and_assoc]
    ·by_cases c8:o.kind=8
     ·simp (disch:=omega) only [RR,c8,Int.reduceEq]
      refine go ?_
      simp only [Bool.and_eq_true,decide_eq_true_eq,bM,eF,c8,hX,hY,hK,evO,e]
      simp [and_assoc]
     ·have n4:¬o.kind=4:=fun h=>c4 (Or.inl h)
      have n7:¬o.kind=7:=fun h=>c4 (Or.inr h)
      simp (disch:=omega) only [RR,n4,n7,c,c',c8]
      rw [iB (fun h=>by have:=h.1;omega)]
theorem ahY {p4:Int×Unit→Bool} {f4:Int×Unit→Bool×Unit} (hp4:∀a,p4 (a,())=true) (hf4:∀a,f4 (a,())=(inB a 0 65535,()))
  {p3:List IOp×Int×Int×Unit→Bool} {f3:List IOp×Int×Int×Unit→Bool×Unit} (hp3:∀(ops:List IOp) (x n:Int),n≤ops.length→p3 (ops,x,n,())=true) (hf3:∀(ops:List IOp) (x n:Int),n≤ops.length→f3 (ops,x,n,())=(bp (Vl ops x n),()))
  (b:Blk):Ql (std 0) p4 f4 p3 f3 (b,()) (fun y=>y=(bp (zB b),())):=by
 have Sg:=fun x=>hp3 b.ops x b.ops.length (Int.le_refl _)
 have Si:=fun x=>hf3 b.ops x b.ops.length (Int.le_refl _)
 dsimp only [Ql,Alg.cl,Alg.cg,Alg.rb,Alg.bd,Alg.l1,Tup.q,Tup.o]
 simp (disch:=omega) only [RR,RB,Sg,Si,hp4,hf4]
 rw [show bp (zB b)=bp (_)from uI Jw]
 have go:∀ {c:Bool} {P:Prop},(c=true↔P)→(c,())=(bp P,()):=fun {c P} h=>Prod.ext (by dsimp only;rw [Bool.eq_iff_iff,bM];exact h) rfl
 refine⟨fun c=> ?_,fun c1=>⟨fun c=> ?_,fun c2=> ?_⟩⟩
 ·refine go ?_
  simp only [Bool.and_eq_true,decide_eq_true_eq,bM,eF,c]
  simp [and_assoc]
 ·refine go ?_
  simp only [Bool.and_eq_true,decide_eq_true_eq,bM,eF,c]
  simp [and_assoc]
 ·by_cases c:b.fin=3
  ·simp (disch:=omega) only [RR,c,Int.reduceEq]
   refine go ?_
   simp only [Bool.and_eq_true,decide_eq_true_eq,bM,eF,c]
   simp [and_assoc]
  ·by_cases c4:b.fin=4
   ·simp (disch:=omega) only [RR,c4,Int.reduceEq]
    refine go ?_
    simp only [Bool.and_eq_true,decide_eq_true_eq,bM,eF,c4]
    simp [and_assoc]
   ·simp (disch:=omega) only [RR,c,c4]
    rw [iB (fun h=>by have:=h.1;omega)]
theorem ahZ {p1:Int×Int×Int×Unit→Bool} {f1:Int×Int×Int×Unit→Bool×Unit} (hp1:∀a b c,p1 (a,b,c,())=true) (hf1:∀a b c,f1 (a,b,c,())=(inB a b c,()))
  {p2:Blk×Unit→Bool} {f2:Blk×Unit→Bool×Unit} (hp2:∀b,p2 (b,())=true) (hf2:∀b,f2 (b,())=(bp (zB b),()))
  {p3:List IOp×Int×Int×Unit→Bool} {f3:List IOp×Int×Int×Unit→Bool×Unit} (hp3:∀(ops:List IOp) (i len:Int),0≤i→i<ops.length→1≤len∧len≤8→p3 (ops,i,len,())=true) (hf3:∀(ops:List IOp) (i len:Int),0≤i→i<ops.length→1≤len∧len≤8→f3 (ops,i,len,())=(bp (AB ops len i ((ops).getD (i).toNat default)),())) (b:Blk) (h2:b.ops.length<1000000000):
  Qm (std 0) p1 f1 p2 f2 p3 f3 (b,()) (fun y=>y=(bp (bI b),())):=by
 dsimp only [Qm,Alg.cl,Alg.cg,Alg.rb,Alg.bd,Alg.l1,Tup.q,Tup.o]
 simp (disch:=omega) only [RR,RB,hp1,hf1]
 by_cases hl:1≤b.len∧b.len≤8
 ·have hl':=eF.2 hl
  simp (disch:=omega) only [RR,hl',eF,rV]
  refine⟨fun h=> ?_,fun h=> ?_⟩
  ·rw [iB (fun g=> ?_)]
   have g1:=g.pc
   have g2:=g.sz
   omega
  ·refine au (fun(y:Int×Blk×Unit)=>y.2.1=b∧0≤y.1∧y.1≤b.ops.length∧All y.1 (fun i=>AB b.ops b.len i ((b.ops).getD (i).toNat default))) (fun y=>(b.ops.length-y.1).toNat) ⟨rfl,by simp,by simp,All.zero⟩ ?_
   rintro⟨(i:Int),(b':Blk),⟨⟩⟩ hI
   dsimp only at hI ⊢
   obtain⟨rfl,h3,h4,h5⟩:=hI
   simp (disch:=omega) only [RR,hp2 b',hf2 b']
   refine⟨fun h6=>⟨hp3 b'.ops i b'.len h3 h6 hl,?_⟩,fun h6=> ?_⟩
   ·rw [hf3 b'.ops i b'.len h3 h6 hl]
    dsimp only
    refine⟨fun h7=> ?_,fun h7=>⟨⟨by omega,by omega,h5.snoc (bM.1 h7)⟩,by omega⟩⟩
    rw [iB (fun g=>rU.1 h7 (g.op i h3 h6))]
   ·by_cases he:zB b'
    ·rw [dH he,dH (show bI b' from⟨hl,by omega,by omega,fun j j1 j2=>h5 j j1 (by omega),he⟩)]
    ·rw [iB he,iB (fun g=>he g.en)]
 ·have hl':=rV.2 hl
  simp (disch:=omega) only [RR,hl']
  rw [iB (fun g=>hl g.ln)]
  exact⟨rfl,fun h=>h.1.1.elim⟩
theorem aoB {p4:Int×Unit→Bool} {f4:Int×Unit→Bool×Unit} (hp4:∀a,p4 (a,())=true) (hf4:∀a,f4 (a,())=(inB a 0 65535,())) (r a b:Int):
  Y7 (std 0) p4 f4 (r,a,b,()) (fun y=>y=(inB a 0 65535&&inB b 0 65535&& (decide (r=1∧a=b∨r=2∧a<b)),())):=by
 dsimp only [Y7,Alg.cl,Alg.cg,Alg.rb,Alg.bd,Alg.l1,Tup.q,Tup.o]
 simp (disch:=omega) only [RR,hp4,hf4]
 refine Prod.ext ?_ rfl
 rw [Bool.eq_iff_iff];simp
theorem aoC {p1:List aj×Unit→Bool} {f1:List aj×Unit→List aj×Unit} (hp1:∀a,Sh a→p1 (a,())=true) (hf1:∀a,Sh a→f1 (a,())=(a,())) (a:List (List aj)) (ha:ShP a):
  Y8 (std 0) p1 f1 (a,()) (fun y=>y=(a,())):=by
 have hlen:=ha.1
 dsimp only [Y8,Alg.cl,Alg.cg,Alg.rb,Alg.bd,Alg.l1,Tup.q,Tup.o]
 refine au (fun(y:List (List aj)×Int×Int×List (List aj)×Unit)=>y.1=a∧y.2.1=a.length∧y.2.2.2.1=a.take y.2.2.1.toNat∧0≤y.2.2.1∧y.2.2.1≤a.length) (fun y=>(a.length-y.2.2.1).toNat) ⟨rfl,rfl,by simp,by simp,by simp⟩ ?_
 rintro⟨(l:List (List aj)),(m:Int),(i:Int),(o:List (List aj)),⟨⟩⟩ hI
 dsimp only at hI ⊢
 obtain⟨rfl,rfl,rfl,h1,h2⟩:=hI
 simp (disch:=omega) only [RR,hp1 _ (ha.at _),hf1 _ (ha.at _)]
 refine⟨fun h4=>⟨by omega,by omega,?_,⟨iM h1 h4 rfl,by omega,by omega⟩,by omega⟩,fun h4=>by rw [List.take_of_length_le (by omega)]⟩
 have:=List.length_take_le' i.toNat l
 simp only [List.length_cons,List.length_nil];omega
theorem aoD {p1:List aj×Unit→Bool} {f1:List aj×Unit→List aj×Unit} (hp1:∀a,Sh a→p1 (a,())=true) (hf1:∀a,Sh a→f1 (a,())=(a,()))
  {p2:List (List aj)×Unit→Bool} {f2:List (List aj)×Unit→List (List aj)×Unit} (hp2:∀a,ShP a→p2 (a,())=true) (hf2:∀a,ShP a→f2 (a,())=(a,())) (s:Sym) (hs:ShY s):
  Y9 (std 0) p1 f1 p2 f2 (s,()) (fun y=>y=(s.fin,s.k,s.events,s.regs,s.x,s.y,())):=by
 have hlen:=hs.e.1
 dsimp only [Y9,Alg.cl,Alg.cg,Alg.rb,Alg.bd,Alg.l1,Tup.q,Tup.o]
 simp (disch:=omega) only [RR,RB,hp1 _ hs.x,hf1 _ hs.x,hp1 _ hs.y,hf1 _ hs.y,hp2 _ hs.r,hf2 _ hs.r]
 refine au (fun(y:List Ev×Int×Int×Int×Int×Int×Int×List Ev×List (List aj)×List aj×List aj×Unit)=>y.1=s.events∧y.2.1=s.events.length∧y.2.2.2.2.2.1=s.fin∧y.2.2.2.2.2.2.1=s.k∧y.2.2.2.2.2.2.2.1=s.events.take y.2.2.1.toNat∧y.2.2.2.2.2.2.2.2.1=s.regs∧y.2.2.2.2.2.2.2.2.2.1=s.x∧y.2.2.2.2.2.2.2.2.2.2.1=s.y∧0≤y.2.2.1∧y.2.2.1≤s.events.length) (fun y=>(s.events.length-y.2.2.1).toNat) ⟨rfl,rfl,rfl,rfl,by simp,rfl,rfl,rfl,by simp,by simp⟩ ?_
 rintro⟨(l:List Ev),(m:Int),(i:Int),(q1:Int),(q2:Int),(q3:Int),(q4:Int),(o:List Ev),(r:List (List aj)),(u:List aj),(v:List aj),⟨⟩⟩ hI
 dsimp only at hI ⊢
 obtain⟨rfl,rfl,rfl,rfl,rfl,rfl,rfl,rfl,h1,h2⟩:=hI
 have he:=hs.e.at i.toNat
 simp (disch:=omega) only [RR,RB,hp1 _ he.1,hf1 _ he.1,hp1 _ he.2.1,hf1 _ he.2.1,hp2 _ he.2.2,hf2 _ he.2.2]
 refine⟨fun h4=>⟨by omega,by omega,?_,⟨iM h1 h4 rfl,by omega,by omega⟩,by omega⟩,fun h4=>by rw [List.take_of_length_le (by omega)]⟩
 have:=List.length_take_le' i.toNat s.events
 simp only [List.length_cons,List.length_nil];omega
end Go.TX.F
namespace Go.TX.F
open Go Go.AE Go.TX
theorem aoE {p1:Int×Unit→Bool} {f1:Int×Unit→List aj×Unit} (hp1:∀n,p1 (n,())=true) (hf1:∀n,f1 (n,())=(ig n,()))
  {p2:List Atom×Atom×Unit→Bool} {f2:List Atom×Atom×Unit→List Atom×Int×Unit} (hp2:∀(t:List Atom) a,t.length<1000000000→ShA a→p2 (t,a,())=true) (hf2:∀(t:List Atom) a,t.length<1000000000→ShA a→f2 (t,a,())=((bK t a).1,(bK t a).2,()))
  (kd k:Int) (t:List Atom) (fl:Bool) (ht:t.length<1000000000):
  Yt (std 0) p1 f1 p2 f2 (kd,k,t,fl,()) (fun y=>y=if(bK t ⟨kd,k,[],[]⟩).2<0 then([],t,true,())else(ig (bK t ⟨kd,k,[],[]⟩).2,(bK t ⟨kd,k,[],[]⟩).1,fl,())):=by
 have sa:ShA ⟨kd,k,[],[]⟩:=⟨nD,nD⟩
 dsimp only [Yt,Alg.cl,Alg.cg,Alg.rb,Alg.bd,Alg.l1,Tup.q,Tup.o]
 simp (disch:=omega) only [RR,hp1,hf1,hp2 _ _ ht sa,hf2 _ _ ht sa]
 exact⟨fun h=>by rw [if_pos h],fun h=>by rw [if_neg h]⟩
theorem UQ (t:List Atom) (n:Nat):rN t (n+1)=((bK (rN t n).1 ⟨1,n,[],[]⟩).1,(rN t n).2++ [ig (bK (rN t n).1 ⟨1,n,[],[]⟩).2]):=rfl
theorem aoF {p1:Int×Int×List Atom×Bool×Unit→Bool} {f1:Int×Int×List Atom×Bool×Unit→List aj×List Atom×Bool×Unit} (hp1:∀kd k (t:List Atom) fl,t.length<1000000000→p1 (kd,k,t,fl,())=true)
  (hf1:∀kd k (t:List Atom) fl,t.length<1000000000→f1 (kd,k,t,fl,())=if(bK t ⟨kd,k,[],[]⟩).2<0 then([],t,true,())else(ig (bK t ⟨kd,k,[],[]⟩).2,(bK t ⟨kd,k,[],[]⟩).1,fl,()))
  (t:List Atom) (fl:Bool) (ht:aH t) (hl:t.length≤196):Yy (std 0) p1 f1 (t,fl,()) (fun y=>y=((rN t 4).1,fl,(rN t 4).2,())):=by
 dsimp only [Yy,Alg.cl,Alg.cg,Alg.rb,Alg.bd,Alg.l1,Tup.q,Tup.o]
 refine au (fun(y:Int×List Atom×Bool×List (List aj)×Unit)=>0≤y.1∧y.1≤4∧y.2.2.1=fl∧y.2.1=(rN t y.1.toNat).1∧y.2.2.2.1=(rN t y.1.toNat).2) (fun y=>(4-y.1).toNat) ⟨by simp,by simp,rfl,rfl,rfl⟩ ?_
 rintro⟨(i:Int),(u:List Atom),(g:Bool),(r:List (List aj)),⟨⟩⟩ hI
 dsimp only at hI ⊢
 obtain⟨h1,h2,rfl,rfl,rfl⟩:=hI
 have ok:=Hw ht hl i.toNat (by omega)
 have l1:=ok.tl
 have l2:=ok.r4
 simp (disch:=omega) only [RR,hp1 _ _ (rN t i.toNat).1 _ (by omega),hf1 _ _ (rN t i.toNat).1 _ (by omega),List.length_cons,List.length_nil]
 refine⟨fun h3=> ?_,fun h3=> ?_⟩
 ·have hp:=KC ht hl (n:=i.toNat) (by omega)
  rw [show((i.toNat:Nat):Int)=i by omega]at hp
  rw [if_neg (by omega)]
  have e:(i+1).toNat=i.toNat+1:=by omega
  have e2:((i.toNat:Nat):Int)=i:=by omega
  refine⟨by omega,⟨by omega,by omega,rfl,?_,?_⟩,by omega⟩
  ·rw [e,UQ,e2]
  ·rw [e,UQ,e2]
 ·rw [show i.toNat=4 by omega]
theorem aoG (a:List (List aj)) (h0:0<a.length) (h1:a.length<1000000000):YL (std 0) (a,()) (fun y=>y=(a,a,())):=by
 dsimp only [YL,Alg.cl,Alg.cg,Alg.rb,Alg.bd,Alg.l1,Tup.q,Tup.o]
 simp (disch:=omega) only [RR,List.length_nil]
 exact⟨by omega,by omega,rfl⟩
theorem aoH {p2:List Atom×Unit→Bool} {f2:List Atom×Unit→List Atom×Unit} (hp2:∀a,ShT a→p2 (a,())=true) (hf2:∀a,ShT a→f2 (a,())=(a,()))
  {p1:List Atom×Bool×Unit→Bool} {f1:List Atom×Bool×Unit→List Atom×Bool×List (List aj)×Unit} (hp1:∀(t:List Atom) fl,aH t→t.length≤196→p1 (t,fl,())=true) (hf1:∀(t:List Atom) fl,aH t→t.length≤196→f1 (t,fl,())=((rN t 4).1,fl,(rN t 4).2,())):
  YE (std 0) p2 f2 p1 f1 () (fun y=>y.1=t4):=by
 have s4:ShT t4:=ZX.1.sh
 unfold t4 at s4 ⊢
 dsimp only [YE,Alg.cl,Alg.cg,Alg.rb,Alg.bd,Alg.l1,Tup.q,Tup.o]
 simp (disch:=omega) only [RR,hp1 [] false vX (by simp),hf1 [] false vX (by simp),hp2 _ s4,hf2 _ s4]
theorem aoI {p1:List aj×Unit→Bool} {f1:List aj×Unit→Int×Bool×Unit} (hp1:∀a,Sh a→p1 (a,())=true) (hf1:∀a,Sh a→f1 (a,())=((dW a).1,(dW a).2,()))
  {p2:List aj×Unit→Bool} {f2:List aj×Unit→Bool×Unit} (hp2:∀a,Sh a→p2 (a,())=true) (hf2:∀a,Sh a→f2 (a,())=(bp (aQ a),()))
  {p3:List aj×List aj×Unit→Bool} {f3:List aj×List aj×Unit→Int×Unit} (hp3:∀a b,Sh a→p3 (a,b,())=true) (hf3:∀a b,Sh a→f3 (a,b,())=(iT a b,()))
  {p4:Sym×Unit→Bool} {f4:Sym×Unit→Int×Int×List Ev×List (List aj)×List aj×List aj×Unit} (hp4:∀s,ShY s→p4 (s,())=true) (hf4:∀s,ShY s→f4 (s,())=(s.fin,s.k,s.events,s.regs,s.x,s.y,()))
  {p5:List aj×List aj×Unit→Bool} {f5:List aj×List aj×Unit→Bool×Unit} (hp5:∀a b,Sh a→p5 (a,b,())=true) (hf5:∀a b,Sh a→f5 (a,b,())=(decide (iT a b=0),()))
  {p6:Int×Int×Int×Unit→Bool} {f6:Int×Int×Int×Unit→Bool×Unit} (hp6:∀r a b,p6 (r,a,b,())=true) (hf6:∀r a b,f6 (r,a,b,())=(inB a 0 65535&&inB b 0 65535&& (decide (r=1∧a=b∨r=2∧a<b)),()))
  (s:Sym) (n:Int) (hs:ShY s) (h0:0≤s.fin) (h1:s.fin≤4):Za (std 0) p1 f1 p2 f2 p3 f3 p4 f4 p5 f5 p6 f6 (s,n,()) (fun y=>y=(symEnd s n,())):=by
 dsimp only [Za,Alg.cl,Alg.cg,Alg.rb,Alg.bd,Alg.l1,Tup.q,Tup.o]
 simp (disch:=omega) only [RR,RB,hp1 _ hs.x,hf1 _ hs.x,hp1 _ hs.y,hf1 _ hs.y,hp2 _ hs.x,hf2 _ hs.x,hp2 _ hs.y,hf2 _ hs.y,hp3 _ _ hs.x,hf3 _ _ hs.x,hp4 s hs,hf4 s hs,hp5 _ _ hs.x,hf5 _ _ hs.x,hp6,hf6]
 have xy:iT s.x s.y=0↔s.x=s.y:=mh
 have rx:(dW s.x).2=true→inB (dW s.x).1 0 65535=true:=fun h=>eF.2 (Ht h).2.2
 have ry:(dW s.y).2=true→inB (dW s.y).1 0 65535=true:=fun h=>eF.2 (Ht h).2.2
 unfold symEnd
 refine⟨fun h=> ?_,fun h=>⟨fun g=> ?_,fun g=>⟨fun k=> ?_,fun k=>⟨fun l=>⟨fun m=> ?_,fun m=> ?_⟩,fun l=>⟨fun m=> ?_,fun m=> ?_⟩⟩⟩⟩⟩
 ·rw [if_pos (by rw [uH,Bool.and_eq_false_iff];exact h)];rfl
 all_goals rw [if_neg (by rw [uH,h.1,h.2];simp)]
 ·rw [if_pos g]
 all_goals rw [if_neg (show¬(s.fin=2∧(dW s.x).2=true) by
  rintro⟨a,b⟩;rw [decide_eq_true a,b]at g;cases g)]
 ·rw [if_pos k]
 all_goals rw [if_neg (show¬(s.fin≠3∧s.fin≠4) by
  rintro⟨a,b⟩;rw [decide_eq_false a,decide_eq_false b]at k;cases k)]
 ·rw [if_pos (by rw [←xy];exact l),if_neg]
  rintro(⟨q1,q2⟩ | ⟨⟨q1,q2⟩,q3⟩)
  ·have:=m.1;rw [decide_eq_true (xy.2 q1),decide_eq_true q2]at this;cases this
  ·have:=m.2
   rw [q1,q2,rx q1,ry q2,decide_eq_true (by omega)]at this;cases this
 ·rw [if_pos (by rw [←xy];exact l),if_pos]
  rcases m with⟨q1,q2⟩ | ⟨q1,_,q3⟩
  ·exact Or.inl ⟨xy.1 q1,q2⟩
  ·exact Or.inr ⟨q1,by omega⟩
 all_goals rw [if_neg (show¬(s.x=s.y∨(dW s.x).2=true∧(dW s.y).2=true) by
  rintro(q | ⟨q1,q2⟩)
  ·exact l.1 (xy.2 q)
  ·have:=l.2;rw [q1,q2]at this;cases this)]
 ·rw [if_pos m]
 ·rw [if_neg]
  rintro⟨a,b⟩;rw [decide_eq_true a,decide_eq_true b]at m;cases m
end Go.TX.F
namespace Go.TX.F
open Go Go.AE Go.TX
noncomputable def SW (t:List Atom) (b:Blk) (i:Nat):SS:=(b.ops.take i).foldl stp (s0 t)
structure At (t:List Atom) (b:Blk) (i:Nat) (ld inn:Int) (tb:List Atom) (V:List (List aj)) (ev:List Ev) (rg:List (List aj)):Prop where
 ld:ld=(SW t b i).ld
 inn:inn=(SW t b i).inn
 tb:tb=(SW t b i).t
 V:V=(SW t b i).vals++List.replicate (b.ops.length-i) []
 ev:ev=(SW t b i).evs
 rg:rg=(SW t b i).regs
theorem At.arN {t:List Atom} {b:Blk} {i:Nat} {ld inn:Int} {tb:List Atom} {V:List (List aj)} {ev:List Ev} {rg:List (List aj)} (h:At t b i ld inn tb V ev rg) (hv:(SW t b i).vals.length=i) (hi:i≤b.ops.length):V.length=b.ops.length:=by
 rw [h.V,List.length_append,List.length_replicate,hv];omega
theorem UR (t:List Atom):∀(l:List IOp) (s:SS),(l.foldl stp s).evs.length≤s.evs.length+l.length
 | [],s=>Nat.le_refl _
 | o::r,s=>by
  rw [List.foldl_cons,List.length_cons]
  have h1:=UR t r (stp s o)
  have h2:(stp s o).evs.length≤s.evs.length+1:=by
   show(nE s o).length≤_
   unfold nE;split
   ·rw [List.length_append];exact Nat.le_refl _
   ·omega
  omega
theorem ah0 {t:List Atom} {b:Blk} (i:Nat) (hi:i≤b.ops.length):(SW t b i).evs.length≤i:=by
 have:=UR t (b.ops.take i) (s0 t)
 rw [List.length_take,Nat.min_eq_left hi]at this
 show((b.ops.take i).foldl stp (s0 t)).evs.length≤i
 have e:(s0 t).evs.length=0:=rfl
 omega
theorem aci {t:List Atom} {b:Blk} {i:Nat} (hi:i<b.ops.length):SW t b (i+1)=stp (SW t b i) (b.ops.getD i default):=by
 unfold SW;rw [kC _ _ hi,getD_lt hi]
theorem At.next {t:List Atom} {b:Blk} {i:Nat} {ld inn:Int} {tb:List Atom} {V:List (List aj)} {ev:List Ev} {rg:List (List aj)} (h:At t b i ld inn tb V ev rg) (hv:(SW t b i).vals.length=i) (hi:i<b.ops.length) {o:IOp} (ho:b.ops.getD i default=o)
  {ld' Z5:Int} {tb':List Atom} {V':List (List aj)} {ev':List Ev} {rg':List (List aj)} (h1:ld'=if o.kind=4 then ld+1 else ld) (h2:Z5=if o.kind=6 then inn+1 else inn) (h3:tb'=nT (SW t b i) o) (h4:V'=V.set i (nV (SW t b i) o)) (h5:ev'=nE (SW t b i) o) (h6:rg'=nR (SW t b i) o):At t b (i+1) ld' Z5 tb' V' ev' rg':=by
 have e:=aci (t:=t) hi
 rw [ho]at e
 refine⟨?_,?_,?_,?_,?_,?_⟩<;>rw [e]
 ·rw [h1,h.ld];rfl
 ·rw [h2,h.inn];rfl
 ·exact h3
 ·rw [h4,h.V]
  show _=((SW t b i).vals++ [nV (SW t b i) o])++_
  rw [List.set_append_right _ _ (by omega),hv,Nat.sub_self,show b.ops.length-i=(b.ops.length- (i+1))+1 by omega,List.replicate_succ,List.set_cons_zero,List.append_assoc];rfl
 ·exact h5
 ·exact h6
set_option maxHeartbeats 1000000 in
theorem aoJ {p1:Blk×Unit→Bool} {f1:Blk×Unit→Bool×Bool×Bool×Unit} (hp1:∀b,p1 (b,())=true) (hf1:∀b,f1 (b,())=(decide (b.fin≠1),decide (3≤b.fin),decide (b.fin≠2),()))
  {p2:Blk×Unit→Bool} {f2:Blk×Unit→Bool×Unit} (hp2:∀b,b.ops.length<1000000000→p2 (b,())=true) (hf2:∀b,b.ops.length<1000000000→f2 (b,())=(bp (bI b),()))
  {p3:IOp×Unit→Bool} {f3:IOp×Unit→Bool×Unit} (hp3:∀o,p3 (o,())=true) (hf3:∀o,f3 (o,())=(decide (evO o),()))
  {p4:IOp×Unit→Bool} {f4:IOp×Unit→Bool×Bool×Bool×Bool×Unit} (hp4:∀o,p4 (o,())=true) (hf4:∀o,f4 (o,())=(decide (hX o),decide (hY o),decide (hK o),decide (evO o),()))
  {p5:Int×Unit→Bool} {f5:Int×Unit→List aj×Unit} (hp5:∀n,p5 (n,())=true) (hf5:∀n,f5 (n,())=(aV n,()))
  {p6:Sym×Int×Unit→Bool} {f6:Sym×Int×Unit→Sym×Unit} (hp6:∀s n,ShY s→0≤s.fin→s.fin≤4→p6 (s,n,())=true) (hf6:∀s n,ShY s→0≤s.fin→s.fin≤4→f6 (s,n,())=(symEnd s n,()))
  {p7:List Atom×Unit→Bool} {f7:List Atom×Unit→Bool×Unit} (hp7:∀a,ShT a→p7 (a,())=true) (hf7:∀a,ShT a→f7 (a,())=(bp (aH a),()))
  {p8:List Atom×Unit→Bool} {f8:List Atom×Unit→List Atom×Unit} (hp8:∀a,ShT a→p8 (a,())=true) (hf8:∀a,ShT a→f8 (a,())=(a,()))
  {p9:List Atom×Int×List aj×List aj×Unit→Bool} {f9:List Atom×Int×List aj×List aj×Unit→List Atom×List aj×Bool×Unit} (hp9:∀(t:List Atom) op x y,t.length<1000000000→Sh x→Sh y→p9 (t,op,x,y,())=true)
  (hf9:∀(t:List Atom) op x y,t.length<1000000000→Sh x→Sh y→(f9 (t,op,x,y,())).1=(tDo t op x y).1∧(f9 (t,op,x,y,())).2.1=(tDo t op x y).2∧(f9 (t,op,x,y,())).2.2.1=tOk t op x y)
  {p10:Int×Int×List Atom×Bool×Unit→Bool} {f10:Int×Int×List Atom×Bool×Unit→List aj×List Atom×Bool×Unit} (aoK:∀kd k (t:List Atom) fl,t.length<1000000000→p10 (kd,k,t,fl,())=true)
  (arO:∀kd k (t:List Atom) fl,t.length<1000000000→f10 (kd,k,t,fl,())=if(bK t ⟨kd,k,[],[]⟩).2<0 then([],t,true,())else(ig (bK t ⟨kd,k,[],[]⟩).2,(bK t ⟨kd,k,[],[]⟩).1,fl,()))
  {p11:List Atom×Bool×Unit→Bool} {f11:List Atom×Bool×Unit→List Atom×Bool×List (List aj)×Unit} (arP:∀(t:List Atom) fl,aH t→t.length≤196→p11 (t,fl,())=true) (arQ:∀(t:List Atom) fl,aH t→t.length≤196→f11 (t,fl,())=((rN t 4).1,fl,(rN t 4).2,()))
  {p12:List (List aj)×Unit→Bool} {f12:List (List aj)×Unit→List (List aj)×List (List aj)×Unit} (aoL:∀a:List (List aj),0<a.length→a.length<1000000000→p12 (a,())=true) (aoM:∀a:List (List aj),0<a.length→a.length<1000000000→f12 (a,())=(a,a,()))
  (t:List Atom) (b:Blk) (ht:ShT t) (hb:b.ops.length<1000000000):Zd (std 0) p1 f1 p2 f2 p3 f3 p4 f4 p5 f5 p6 f6 p7 f7 p8 f8 p9 f9 p10 f10 p11 f11 p12 f12 (t,b,()) (fun y=>y=((bH t b).1,(bH t b).2,())):=by
 have hlt:=ht.1
 dsimp only [Zd,Alg.cl,Alg.cg,Alg.rb,Alg.bd,Alg.l1,Tup.q,Tup.o]
 simp (disch:=omega) only [RR,RB,hp7 t ht,hf7 t ht,hp2 b hb,hf2 b hb]
 by_cases c:aH t∧t.length≤100∧bI b
 case neg=>
  refine⟨fun _=> ?_,fun h=> ?_⟩
  ·unfold bH;rw [iB c];rfl
  ·exact absurd ⟨bM.1 h.1.1,by omega,bM.1 h.2⟩ c
 obtain⟨c1,c2,c3⟩:=c
 simp (disch:=omega) only [RR,dH c1,dH c3,arP t false c1 (by omega),arQ t false c1 (by omega)]
 have sz:=c3.sz
 have hop:=c3.op
 have hk3:=c3.k3
 have i0:=zD c1 (by omega)
 have siw:∀j:Nat,j≤b.ops.length→SI (t.length+4) j (SW t b j):=fun j hj=>by
  have:=(uO (b.ops.take j) 0 (s0 t) i0 (fun o ho=>hk3 o (List.mem_of_mem_take ho)) (by rw [List.length_take];omega) (by rw [List.length_take];omega)).1
  rw [List.length_take,Nat.min_eq_left hj,Nat.zero_add]at this;exact this
 refine⟨fun h=>absurd h (by omega),fun _=>⟨by omega,by omega,?_⟩⟩
 refine au (fun(y:Int×Int×List IOp×Int×Int×Blk×Int×Int×List Atom×Bool×Int×Int×List (List aj)×List Ev×List (List aj)×Unit)=>y.2.2.2.2.2.1=b∧y.2.2.1=b.ops∧y.2.2.2.1=b.ops.length∧y.2.2.2.2.2.2.2.2.2.1=false∧y.2.2.2.2.2.2.2.2.2.2.1=b.fin∧y.2.2.2.2.2.2.2.2.2.2.2.1=b.k∧
   0≤y.2.2.2.2.1∧y.2.2.2.2.1≤b.ops.length∧At t b y.2.2.2.2.1.toNat y.1 y.2.1 y.2.2.2.2.2.2.2.2.1 y.2.2.2.2.2.2.2.2.2.2.2.2.1 y.2.2.2.2.2.2.2.2.2.2.2.2.2.1 y.2.2.2.2.2.2.2.2.2.2.2.2.2.2.1) (fun y=>(b.ops.length-y.2.2.2.2.1).toNat)
  ⟨rfl,rfl,rfl,rfl,rfl,rfl,by simp,by simp,⟨rfl,rfl,rfl,rfl,rfl,rfl⟩⟩ ?_
 rintro⟨(ld:Int),(inn:Int),(ops:List IOp),(n:Int),(i:Int),(b':Blk),(z1:Int),(z2:Int),(tb:List Atom),(fl:Bool),(fin:Int),(kk:Int),(V:List (List aj)),(ev:List Ev),(rg:List (List aj)),⟨⟩⟩ hI
 dsimp only at hI ⊢
 obtain⟨e1,e2,e3,e4,e5,e6,h1,h2,hA⟩:=hI
 subst e1 e2 e3 e4 e5 e6
 have hl:V.length=b'.ops.length:=hA.arN (siw i.toNat (by omega)).vl (by omega)
 have si:=siw i.toNat (by omega)
 obtain⟨a1,a2,a3,a4,a5,a6⟩:=hA
 have tl:tb.length<1000000000:=by rw [a3];have:=si.tl;omega
 have r4:rg.length=4:=by rw [a6];exact si.r4
 have evl:ev.length≤i.toNat:=by rw [a5];exact ah0 i.toNat (by omega)
 by_cases h7:i<b'.ops.length
 case neg=>
  have en:=c3.en
  have hf:=en.f
  have hpc:=c3.pc
  have hln:=c3.ln
  have ein:i.toNat=b'.ops.length:=by omega
  have eS:SW t b' i.toNat=d9 t b':=by unfold SW d9;rw [ein,List.take_of_length_le (Nat.le_refl _)]
  rw [eS]at a1 a2 a3 a4 a5 a6 si
  have eV:V=(d9 t b').vals:=by rw [a4,ein,Nat.sub_self];simp
  clear a4
  have pk:=KF (b:=b') si
  have eR:=ku c1 c2 c3
  have sh:ShY (jP b' (d9 t b')):=by
   have i0:=zD c1 (by omega)
   have hs:=R4 b'.ops 0 (s0 t) i0 hk3 (by omega) (by omega) ⟨by simp [s0],fun e he=>absurd he (by simp [s0])⟩
   exact⟨⟨by have:=hs.1;show(b'.ops.foldl stp (s0 t)).evs.length<_;omega,hs.2⟩,si.regs,pk.1.sh,pk.2.sh⟩
  have st:=si.tok.sh
  have q6:=hp6 (jP b' (d9 t b')) (b'.pc+b'.len) sh (by show 0≤b'.fin;omega) hf.2
  have r6:=hf6 (jP b' (d9 t b')) (b'.pc+b'.len) sh (by show 0≤b'.fin;omega) hf.2
  subst a1 a2 a3 a5 a6 eV
  have x1:=en.x1
  have y1:=en.y1
  have sl:=si.vl
  have E:jP b' (d9 t b')=⟨(d9 t b').evs,(d9 t b').regs,b'.fin,if b'.fin=1 then []else(((d9 t b').vals).getD (b'.x).toNat default),if 3≤b'.fin then(((d9 t b').vals).getD (b'.y).toNat default)else [],b'.k⟩:=rfl
  rw [E]at q6 r6
  rcases(by omega:b'.fin=1∨b'.fin=2∨3≤b'.fin)with c | c | c
  ·have n2:¬3≤b'.fin:=by omega
   rw [if_pos c,if_neg n2]at q6 r6
   simp (disch:=omega) only [RR,RB,h7,hp1,hf1,decide_eq_false n2,c,ne_eq,not_true_eq_false,decide_false,hp8 _ st,hf8 _ st]
   rw [c]at q6 r6
   rw [eR,E,if_pos c,if_neg n2,c]
   exact⟨fun h=>absurd h (by omega),fun _=>⟨q6,by rw [r6]⟩⟩
  ·have n1:b'.fin≠1:=by omega
   have n2:¬3≤b'.fin:=by omega
   obtain⟨v1,v2,_⟩:=x1 n1
   rw [if_neg n1,if_neg n2]at q6 r6
   simp (disch:=omega) only [RR,RB,h7,hp1,hf1,decide_eq_true n1,decide_eq_false n2,hp8 _ st,hf8 _ st]
   rw [eR,E,if_neg n1,if_neg n2]
   exact⟨v1,by omega,v1,by omega,q6,by rw [r6]⟩
  ·have n1:b'.fin≠1:=by omega
   obtain⟨v1,v2,_⟩:=x1 n1
   obtain⟨w1,w2,_⟩:=y1 c
   rw [if_neg n1,if_pos c]at q6 r6
   simp (disch:=omega) only [RR,RB,h7,hp1,hf1,decide_eq_true n1,decide_eq_true c,hp8 _ st,hf8 _ st]
   rw [eR,E,if_neg n1,if_pos c]
   exact⟨v1,by omega,v1,by omega,w1,by omega,w1,by omega,q6,by rw [r6]⟩
 have hok:=hop i h1 h7
 have nxt:=fun {ld' Z5:Int} {tb':List Atom} {V':List (List aj)} {ev':List Ev} {rg':List (List aj)}=>At.next (t:=t) (b:=b') (i:=i.toNat) (o:=((b'.ops).getD (i).toNat default)) ⟨a1,a2,a3,a4,a5,a6⟩ si.vl (by omega) rfl (ld':=ld') (Z5:=Z5) (tb':=tb') (V':=V') (ev':=ev') (rg':=rg')
 have ei:(i+1).toNat=i.toNat+1:=by omega
 have vx:∀j:Int,0≤j→j<i→((V).getD (j).toNat default)=(((SW t b' i.toNat).vals).getD (j).toNat default):=fun j j1 j2=>by
  have:=si.vl
  rw [a4,getD_lt (by rw [List.length_append];omega),getD_lt (by omega),List.getElem_append_left]
 have ex:hX ((b'.ops).getD (i).toNat default)→((V).getD ((((b'.ops).getD (i).toNat default)).x).toNat default)=xOf (SW t b' i.toNat) ((b'.ops).getD (i).toNat default):=fun h=>by
  unfold xOf;rw [if_pos h];exact vx _ (hok.x1 h).1 (hok.x1 h).2.1
 have ey:hY ((b'.ops).getD (i).toNat default)→((V).getD ((((b'.ops).getD (i).toNat default)).y).toNat default)=yOf (SW t b' i.toNat) ((b'.ops).getD (i).toNat default):=fun h=>by
  unfold yOf;rw [if_pos h];exact vx _ (hok.y1 h).1 (hok.y1 h).2.1
 have v0:V.set i.toNat []=V:=by
  have:=si.vl
  rw [a4,List.set_append_right _ _ (by omega),this,Nat.sub_self,show b'.ops.length-i.toNat=(b'.ops.length- (i.toNat+1))+1 by omega,List.replicate_succ,List.set_cons_zero]
 obtain⟨sn,so⟩:=KA (o:=((b'.ops).getD (i).toNat default)) si hok.k3 (by omega) (by omega)
 have gl:=si.ld
 have gi:=si.inn
 have shx:=(si.x ((b'.ops).getD (i).toNat default)).1.sh
 have shy:=(si.y ((b'.ops).getD (i).toNat default)).1.sh
 generalize hs:SW t b' i.toNat=s at*
 generalize ho:((b'.ops).getD (i).toNat default)=o at*
 have kd:=hok.kd
 subst a1 a2 a3 a5 a6
 have L0:o.kind≠4→s.ld=if o.kind=4 then s.ld+1 else s.ld:=fun h=>by rw [if_neg h]
 have I0:o.kind≠6→s.inn=if o.kind=6 then s.inn+1 else s.inn:=fun h=>by rw [if_neg h]
 have T0:o.kind≠3→o.kind≠4→o.kind≠6→s.t=nT s o:=fun h3 h4 h6=>by unfold nT;rw [if_neg h3,if_neg (by omega)]
 have R0:o.kind≠8→s.regs=nR s o:=fun h=>by unfold nR;rw [if_neg h]
 have E0:¬evO o→s.evs=nE s o:=fun h=>by unfold nE;rw [if_neg h]
 have V0:o.kind=5∨o.kind=7∨o.kind=8→V=V.set i.toNat (nV s o):=fun h=>by
  rw [show nV s o=[] by unfold nV;rw [if_neg (by omega),if_neg (by omega),if_neg (by omega),if_neg (by omega)],v0]
 have P0:∀kd k,0≤(bK s.t ⟨kd,k,[],[]⟩).2→f10 (kd,k,s.t,false,())=(ig (bK s.t ⟨kd,k,[],[]⟩).2,(bK s.t ⟨kd,k,[],[]⟩).1,false,()):=fun kd k h=>by
  rw [arO _ _ _ _ tl,if_neg (by omega)]
 have y0:¬hY o→yOf s o=[]:=fun h=>by unfold yOf;rw [if_neg h]
 have x0:¬hX o→xOf s o=[]:=fun h=>by unfold xOf;rw [if_neg h]
 rcases(by omega:o.kind=1∨o.kind=2∨o.kind=3∨o.kind=4∨o.kind=5∨o.kind=6∨o.kind=7∨o.kind=8)with c | c | c | c | c | c | c | c
 ·have dX:decide (hX o)=false:=decide_eq_false (by unfold hX;omega)
  have dY:decide (hY o)=false:=decide_eq_false (by unfold hY;omega)
  have dE:decide (evO o)=false:=decide_eq_false (by unfold evO;omega)
  have N:At t b' (i.toNat+1) s.ld s.inn s.t (V.set i.toNat (aV o.k)) s.evs s.regs:=nxt (L0 (by omega)) (I0 (by omega)) (T0 (by omega) (by omega) (by omega)) (by unfold nV;rw [if_pos c]) (E0 (by unfold evO;omega)) (R0 (by omega))
  simp (disch:=omega) only [RR,RB,ho,h7,hp4,hf4,hp3,hf3,dX,dY,dE,c,Int.reduceEq,List.length_cons,List.length_nil,hp5,hf5]
  repeat' apply And.intro
  all_goals first | omega | (rw [ei];exact N)
 ·have dX:decide (hX o)=false:=decide_eq_false (by unfold hX;omega)
  have dY:decide (hY o)=false:=decide_eq_false (by unfold hY;omega)
  have dE:decide (evO o)=false:=decide_eq_false (by unfold evO;omega)
  have k2:=hok.k2 (Or.inl c)
  have N:At t b' (i.toNat+1) s.ld s.inn s.t (V.set i.toNat ((s.regs).getD (o.k).toNat default)) s.evs s.regs:=nxt (L0 (by omega)) (I0 (by omega)) (T0 (by omega) (by omega) (by omega)) (by unfold nV;rw [if_neg (by omega),if_pos c]) (E0 (by unfold evO;omega)) (R0 (by omega))
  simp (disch:=omega) only [RR,RB,ho,h7,hp4,hf4,hp3,hf3,dX,dY,dE,c,Int.reduceEq,List.length_cons,List.length_nil,r4]
  repeat' apply And.intro
  all_goals first | omega | (rw [ei];exact N)
 ·have dX:decide (hX o)=true:=decide_eq_true (by unfold hX;omega)
  have dY:decide (hY o)=true:=decide_eq_true (by unfold hY;omega)
  have dE:decide (evO o)=false:=decide_eq_false (by unfold evO;omega)
  have v1:=hok.x1 (by unfold hX;omega)
  have v2:=hok.y1 (by unfold hY;omega)
  have u1:=v1.2.1
  have u2:=v2.2.1
  have w1:=v1.1
  have w2:=v2.1
  obtain⟨d1,d2,d3⟩:=hf9 s.t o.k _ _ tl shx shy
  have d4:=(so.d c).ok
  have N:At t b' (i.toNat+1) s.ld s.inn (tDo s.t o.k (xOf s o) (yOf s o)).1 (V.set i.toNat (tDo s.t o.k (xOf s o) (yOf s o)).2) s.evs s.regs:=nxt (L0 (by omega)) (I0 (by omega)) (by unfold nT;rw [if_pos c]) (by unfold nV;rw [if_neg (by omega),if_neg (by omega),if_pos c]) (E0 (by unfold evO;omega)) (R0 (by omega))
  simp (disch:=omega) only [RR,RB,ho,h7,hp4,hf4,hp3,hf3,dX,dY,dE,c,Int.reduceEq,List.length_cons,List.length_nil,ex (by unfold hX;omega),ey (by unfold hY;omega),hp9 s.t o.k _ _ tl shx shy,d1,d2,d3,d4]
  repeat' apply And.intro
  all_goals first | omega | (rw [ei];exact N)
 ·have dX:decide (hX o)=true:=decide_eq_true (by unfold hX;omega)
  have dY:decide (hY o)=false:=decide_eq_false (by unfold hY;omega)
  have dE:decide (evO o)=true:=decide_eq_true (by unfold evO;omega)
  have v1:=hok.x1 (by unfold hX;omega)
  have u1:=v1.2.1
  have w1:=v1.1
  have ea:aOf s o=⟨2,s.ld,[],[]⟩:=by unfold aOf;rw [if_pos c]
  have pp:=so.p (Or.inl c)
  rw [ea]at pp
  have N:At t b' (i.toNat+1) (s.ld+1) s.inn (bK s.t ⟨2,s.ld,[],[]⟩).1 (V.set i.toNat (ig (bK s.t ⟨2,s.ld,[],[]⟩).2)) (s.evs++ [⟨4,o.at_,xOf s o,[],s.regs⟩]) s.regs:=nxt (by rw [if_pos c]) (I0 (by omega)) (by unfold nT;rw [if_neg (by omega),if_pos (Or.inl c),ea]) (by unfold nV;rw [if_neg (by omega),if_neg (by omega),if_neg (by omega),if_pos (Or.inl c),ea]) (by unfold nE;rw [if_pos (by unfold evO;omega),if_pos (Or.inl c),c,y0 (by unfold hY;omega)]) (R0 (by omega))
  simp (disch:=omega) only [RR,RB,ho,h7,hp4,hf4,hp3,hf3,dX,dY,dE,c,Int.reduceEq,List.length_cons,List.length_nil,ex (by unfold hX;omega),aoL s.regs (by omega) (by omega),aoM s.regs (by omega) (by omega),aoK 2 s.ld s.t false tl,P0 2 s.ld pp]
  repeat' apply And.intro
  all_goals first | omega | (rw [ei];exact N)
 ·have dX:decide (hX o)=true:=decide_eq_true (by unfold hX;omega)
  have dY:decide (hY o)=true:=decide_eq_true (by unfold hY;omega)
  have dE:decide (evO o)=true:=decide_eq_true (by unfold evO;omega)
  have v1:=hok.x1 (by unfold hX;omega)
  have v2:=hok.y1 (by unfold hY;omega)
  have u1:=v1.2.1
  have u2:=v2.2.1
  have w1:=v1.1
  have w2:=v2.1
  have N:At t b' (i.toNat+1) s.ld s.inn s.t V (s.evs++ [⟨5,o.at_,xOf s o,yOf s o,s.regs⟩]) s.regs:=nxt (L0 (by omega)) (I0 (by omega)) (T0 (by omega) (by omega) (by omega)) (V0 (by omega)) (by unfold nE;rw [if_pos (by unfold evO;omega),if_pos (Or.inr c),c]) (R0 (by omega))
  simp (disch:=omega) only [RR,RB,ho,h7,hp4,hf4,hp3,hf3,dX,dY,dE,c,Int.reduceEq,List.length_cons,List.length_nil,ex (by unfold hX;omega),ey (by unfold hY;omega),aoL s.regs (by omega) (by omega),aoM s.regs (by omega) (by omega)]
  repeat' apply And.intro
  all_goals first | omega | (rw [ei];exact N)
 ·have dX:decide (hX o)=false:=decide_eq_false (by unfold hX;omega)
  have dY:decide (hY o)=false:=decide_eq_false (by unfold hY;omega)
  have dE:decide (evO o)=true:=decide_eq_true (by unfold evO;omega)
  have ea:aOf s o=⟨3,s.inn,[],[]⟩:=by unfold aOf;rw [if_neg (by omega)]
  have pp:=so.p (Or.inr c)
  rw [ea]at pp
  have N:At t b' (i.toNat+1) s.ld (s.inn+1) (bK s.t ⟨3,s.inn,[],[]⟩).1 (V.set i.toNat (ig (bK s.t ⟨3,s.inn,[],[]⟩).2)) (s.evs++ [⟨6,o.at_,[],[],[]⟩]) s.regs:=nxt (L0 (by omega)) (by rw [if_pos c]) (by unfold nT;rw [if_neg (by omega),if_pos (Or.inr c),ea]) (by unfold nV;rw [if_neg (by omega),if_neg (by omega),if_neg (by omega),if_pos (Or.inr c),ea]) (by unfold nE;rw [if_pos (by unfold evO;omega),if_neg (by omega),c,x0 (by unfold hX;omega),y0 (by unfold hY;omega)]) (R0 (by omega))
  simp (disch:=omega) only [RR,RB,ho,h7,hp4,hf4,hp3,hf3,dX,dY,dE,c,Int.reduceEq,List.length_cons,List.length_nil,aoK 3 s.inn s.t false tl,P0 3 s.inn pp]
  repeat' apply And.intro
  all_goals first | omega | (rw [ei];exact N)
 ·have dX:decide (hX o)=true:=decide_eq_true (by unfold hX;omega)
  have dY:decide (hY o)=false:=decide_eq_false (by unfold hY;omega)
  have dE:decide (evO o)=true:=decide_eq_true (by unfold evO;omega)
  have v1:=hok.x1 (by unfold hX;omega)
  have u1:=v1.2.1
  have w1:=v1.1
  have N:At t b' (i.toNat+1) s.ld s.inn s.t V (s.evs++ [⟨7,o.at_,xOf s o,[],[]⟩]) s.regs:=nxt (L0 (by omega)) (I0 (by omega)) (T0 (by omega) (by omega) (by omega)) (V0 (by omega)) (by unfold nE;rw [if_pos (by unfold evO;omega),if_neg (by omega),c,y0 (by unfold hY;omega)]) (R0 (by omega))
  simp (disch:=omega) only [RR,RB,ho,h7,hp4,hf4,hp3,hf3,dX,dY,dE,c,Int.reduceEq,List.length_cons,List.length_nil,ex (by unfold hX;omega)]
  repeat' apply And.intro
  all_goals first | omega | (rw [ei];exact N)
 ·have dX:decide (hX o)=true:=decide_eq_true (by unfold hX;omega)
  have dY:decide (hY o)=false:=decide_eq_false (by unfold hY;omega)
  have dE:decide (evO o)=false:=decide_eq_false (by unfold evO;omega)
  have v1:=hok.x1 (by unfold hX;omega)
  have u1:=v1.2.1
  have w1:=v1.1
  have k2:=hok.k2 (Or.inr c)
  have N:At t b' (i.toNat+1) s.ld s.inn s.t V s.evs (s.regs.set o.k.toNat (xOf s o)):=nxt (L0 (by omega)) (I0 (by omega)) (T0 (by omega) (by omega) (by omega)) (V0 (by omega)) (E0 (by unfold evO;omega)) (by unfold nR;rw [if_pos c])
  simp (disch:=omega) only [RR,RB,ho,h7,hp4,hf4,hp3,hf3,dX,dY,dE,c,Int.reduceEq,List.length_cons,List.length_nil,ex (by unfold hX;omega),r4]
  repeat' apply And.intro
  all_goals first | omega | (rw [ei];exact N)
end Go.TX.F
namespace Go.TX.F
open Go Go.AE Go.TX
theorem ah1 (i:Ins):QN (std 0) (i,()) (fun _=>True):=by
 dsimp only [QN,Alg.cl,Alg.cg,Alg.rb,Alg.bd,Alg.l1,Tup.q,Tup.o]
 simp (disch:=omega) only [RR]
theorem ah2 {p1:Int×Int×Int×Unit→Bool} {f1:Int×Int×Int×Unit→Bool×Unit} (hp1:∀a b c,p1 (a,b,c,())=true) (hf1:∀a b c,f1 (a,b,c,())=(inB a b c,())) {p2:Ins×Unit→Bool} {f2:Ins×Unit→Bool×Unit} (hp2:∀i,p2 (i,())=true) (i:Ins):QO (std 0) p1 f1 p2 f2 (i,()) (fun _=>True):=by
 dsimp only [QO,Alg.cl,Alg.cg,Alg.rb,Alg.bd,Alg.l1,Tup.q,Tup.o]
 simp (disch:=omega) only [RR,hp1,hp2]
theorem ah3 (i:Int):QS (std 0) (i,()) (fun _=>True):=by
 dsimp only [QS,Alg.cl,Alg.cg,Alg.rb,Alg.bd,Alg.l1,Tup.q,Tup.o]
theorem ah4 {p1:Int×Unit→Bool} {f1:Int×Unit→Bool×Unit} (hp1:∀i,p1 (i,())=true) {p2:Ins×Unit→Bool} {f2:Ins×Unit→Bool×Unit} (hp2:∀i,p2 (i,())=true) (i:Ins):QT (std 0) p1 f1 p2 f2 (i,()) (fun _=>True):=by
 dsimp only [QT,Alg.cl,Alg.cg,Alg.rb,Alg.bd,Alg.l1,Tup.q,Tup.o]
 simp (disch:=omega) only [RR,hp1,hp2]
theorem ah5 {p1:Int×Unit→Bool} {f1:Int×Unit→Bool×Unit} (hp1:∀i,p1 (i,())=true) {p2:Ins×Unit→Bool} {f2:Ins×Unit→Bool×Unit} (hp2:∀i,p2 (i,())=true) {p3:Int×Int×Int×Unit→Bool} {f3:Int×Int×Int×Unit→Bool×Unit} (hp3:∀a b c,p3 (a,b,c,())=true) (hf3:∀a b c,f3 (a,b,c,())=(inB a b c,())) {p4:Ins×Unit→Bool} {f4:Ins×Unit→Bool×Unit} (hp4:∀i,p4 (i,())=true) (pc:Int) (l:List Ins) (hl:(l.length:Int)<1000):Q6 (std 0) p1 f1 p2 f2 p3 f3 p4 f4 (pc,l,()) (fun _=>True):=by
 dsimp only [Q6,Alg.cl,Alg.cg,Alg.rb,Alg.bd,Alg.l1,Tup.q,Tup.o]
 simp (disch:=omega) only [RR,hp1,hp2,hp3,hp4]
 refine fun _=> ?_
 refine au (fun(y:List Ins×Int×Unit)=>y.1=l∧0≤y.2.1) (fun y=>((l.length:Int)-y.2.1).toNat) ⟨rfl,by simp⟩ ?_
 rintro⟨(l':List Ins),(j:Int),⟨⟩⟩ hI
 dsimp only at hI ⊢
 obtain⟨rfl,h1⟩:=hI
 simp (disch:=omega) only [RR,hp1,hp2,hp3,hp4,or_true]
 refine fun h=>⟨h1,h,by omega,by omega,by omega,by omega,fun _=> ?_⟩
 rw [w64 (by omega) (by omega)];constructor<;>omega
theorem Z6 (a1 a2 a3 a4 a5 a6:Int) (o:IOp) (ops:List IOp) (hl:(ops.length:Int)<1000000):Q7 (std 0) (a1,a2,a3,a4,a5,a6,o,ops,()) (fun y=>(y.2.2.2.2.2.2.2.1.length:Int)=ops.length+1):=by
 dsimp only [Q7,Alg.cl,Alg.cg,Alg.rb,Alg.bd,Alg.l1,Tup.q,Tup.o]
 simp (disch:=omega) only [RR,List.length_append,List.length_cons,List.length_nil]
 omega
theorem Z7 {p1:Int×Int×Int×Int×Int×Int×IOp×List IOp×Unit→Bool} {f1:Int×Int×Int×Int×Int×Int×IOp×List IOp×Unit→Int×Int×Int×Int×Int×Int×Int×List IOp×Unit} (hp1:∀a1 a2 a3 a4 a5 a6 o ops,(ops.length:Int)<1000000→p1 (a1,a2,a3,a4,a5,a6,o,ops,())=true) (hf1:∀a1 a2 a3 a4 a5 a6 o ops,(ops.length:Int)<1000000→((f1 (a1,a2,a3,a4,a5,a6,o,ops,())).2.2.2.2.2.2.2.1.length:Int)=ops.length+1) (a1 a2 a3 a4 a5 a6:Int) (k:Int) (ops:List IOp) (hl:(ops.length:Int)<1000000):Q9 (std 0) p1 f1 (a1,a2,a3,a4,a5,a6,k,ops,()) (fun y=>(y.2.2.2.2.2.2.2.1.length:Int)=ops.length+1):=by
 dsimp only [Q9,Alg.cl,Alg.cg,Alg.rb,Alg.bd,Alg.l1,Tup.q,Tup.o]
 simp (disch:=omega) only [RR,hp1,hf1]
theorem Z8 {p1:Int×Int×Int×Int×Int×Int×IOp×List IOp×Unit→Bool} {f1:Int×Int×Int×Int×Int×Int×IOp×List IOp×Unit→Int×Int×Int×Int×Int×Int×Int×List IOp×Unit} (hp1:∀a1 a2 a3 a4 a5 a6 o ops,(ops.length:Int)<1000000→p1 (a1,a2,a3,a4,a5,a6,o,ops,())=true) (hf1:∀a1 a2 a3 a4 a5 a6 o ops,(ops.length:Int)<1000000→((f1 (a1,a2,a3,a4,a5,a6,o,ops,())).2.2.2.2.2.2.2.1.length:Int)=ops.length+1) (a1 a2 a3 a4 a5 a6:Int) (k x:Int) (ops:List IOp) (hl:(ops.length:Int)<1000000):Q8 (std 0) p1 f1 (a1,a2,a3,a4,a5,a6,k,x,ops,()) (fun y=>(y.2.2.2.2.2.2.1.length:Int)=ops.length+1):=by
 dsimp only [Q8,Alg.cl,Alg.cg,Alg.rb,Alg.bd,Alg.l1,Tup.q,Tup.o]
 simp (disch:=omega) only [RR,hp1,hf1]
theorem ah6 {p1:Int×Int×Int×Int×Int×Int×Int×List IOp×Unit→Bool} {f1:Int×Int×Int×Int×Int×Int×Int×List IOp×Unit→Int×Int×Int×Int×Int×Int×Int×List IOp×Unit} (hp1:∀a1 a2 a3 a4 a5 a6 k ops,(ops.length:Int)<1000000→p1 (a1,a2,a3,a4,a5,a6,k,ops,())=true) (hf1:∀a1 a2 a3 a4 a5 a6 k ops,(ops.length:Int)<1000000→((f1 (a1,a2,a3,a4,a5,a6,k,ops,())).2.2.2.2.2.2.2.1.length:Int)=ops.length+1) {p2:Int×Int×Int×Int×Int×Int×IOp×List IOp×Unit→Bool} {f2:Int×Int×Int×Int×Int×Int×IOp×List IOp×Unit→Int×Int×Int×Int×Int×Int×Int×List IOp×Unit} (hp2:∀a1 a2 a3 a4 a5 a6 o ops,(ops.length:Int)<1000000→p2 (a1,a2,a3,a4,a5,a6,o,ops,())=true) (hf2:∀a1 a2 a3 a4 a5 a6 o ops,(ops.length:Int)<1000000→((f2 (a1,a2,a3,a4,a5,a6,o,ops,())).2.2.2.2.2.2.2.1.length:Int)=ops.length+1) (a1 a2 a3 a4 a5 a6:Int) (k a:Int) (o:IOp) (ops:List IOp) (hl:(ops.length:Int)<999000):Ra (std 0) p1 f1 p2 f2 (a1,a2,a3,a4,a5,a6,k,a,o,ops,()) (fun y=>(y.2.2.2.2.2.2.2.1.length:Int)=ops.length+3):=by
 dsimp only [Ra,Alg.cl,Alg.cg,Alg.rb,Alg.bd,Alg.l1,Tup.q,Tup.o]
 simp (disch:=(first | omega | (simp (disch:=(first | omega | (simp (disch:=(first | omega | (simp (disch:=omega) only [hf1,hf2];omega))) only [hf1,hf2];omega))) only [hf1,hf2];omega))) only [RR,hp1,hp2,hf1,hf2]
 omega
theorem ah7 {p1:Int×Int×Int×Int×Int×Int×Int×List IOp×Unit→Bool} {f1:Int×Int×Int×Int×Int×Int×Int×List IOp×Unit→Int×Int×Int×Int×Int×Int×Int×List IOp×Unit} (hp1:∀a1 a2 a3 a4 a5 a6 k ops,(ops.length:Int)<1000000→p1 (a1,a2,a3,a4,a5,a6,k,ops,())=true) (hf1:∀a1 a2 a3 a4 a5 a6 k ops,(ops.length:Int)<1000000→((f1 (a1,a2,a3,a4,a5,a6,k,ops,())).2.2.2.2.2.2.2.1.length:Int)=ops.length+1) {p2:Int×Int×Int×Int×Int×Int×IOp×List IOp×Unit→Bool} {f2:Int×Int×Int×Int×Int×Int×IOp×List IOp×Unit→Int×Int×Int×Int×Int×Int×Int×List IOp×Unit} (hp2:∀a1 a2 a3 a4 a5 a6 o ops,(ops.length:Int)<1000000→p2 (a1,a2,a3,a4,a5,a6,o,ops,())=true) (hf2:∀a1 a2 a3 a4 a5 a6 o ops,(ops.length:Int)<1000000→((f2 (a1,a2,a3,a4,a5,a6,o,ops,())).2.2.2.2.2.2.2.1.length:Int)=ops.length+1) {p3:Int×Int×Int×Int×Int×Int×Int×Int×IOp×List IOp×Unit→Bool} {f3:Int×Int×Int×Int×Int×Int×Int×Int×IOp×List IOp×Unit→Int×Int×Int×Int×Int×Int×Int×List IOp×Unit} (hp3:∀a1 a2 a3 a4 a5 a6 k a o ops,(ops.length:Int)<999000→p3 (a1,a2,a3,a4,a5,a6,k,a,o,ops,())=true) (hf3:∀a1 a2 a3 a4 a5 a6 k a o ops,(ops.length:Int)<999000→((f3 (a1,a2,a3,a4,a5,a6,k,a,o,ops,())).2.2.2.2.2.2.2.1.length:Int)=ops.length+3) {p4:Int×Int×Int×Int×Int×Int×Int×Int×List IOp×Unit→Bool} {f4:Int×Int×Int×Int×Int×Int×Int×Int×List IOp×Unit→Int×Int×Int×Int×Int×Int×List IOp×Unit} (hp4:∀a1 a2 a3 a4 a5 a6 k x ops,(ops.length:Int)<1000000→p4 (a1,a2,a3,a4,a5,a6,k,x,ops,())=true) (hf4:∀a1 a2 a3 a4 a5 a6 k x ops,(ops.length:Int)<1000000→((f4 (a1,a2,a3,a4,a5,a6,k,x,ops,())).2.2.2.2.2.2.1.length:Int)=ops.length+1) (a1 a2 a3 a4 a5 a6:Int) (i:Ins) (k:Int) (ops:List IOp) (hl:(ops.length:Int)<998000):Rc (std 0) p1 f1 p2 f2 p3 f3 p4 f4 (a1,a2,a3,a4,a5,a6,i,k,ops,()) (fun y=>(y.2.2.2.2.2.2.1.length:Int)=ops.length+5):=by
 dsimp only [Rc,Alg.cl,Alg.cg,Alg.rb,Alg.bd,Alg.l1,Tup.q,Tup.o]
 simp (disch:=(first | omega | (simp (disch:=(first | omega | (simp (disch:=(first | omega | (simp (disch:=omega) only [hf1,hf2,hf3,hf4];omega))) only [hf1,hf2,hf3,hf4];omega))) only [hf1,hf2,hf3,hf4];omega))) only [RR,hp1,hp2,hp3,hp4,hf1,hf2,hf3,hf4]
 constructor<;>intro _<;>omega
theorem Z9 {p1:Int×Int×Int×Int×Int×Int×Int×List IOp×Unit→Bool} {f1:Int×Int×Int×Int×Int×Int×Int×List IOp×Unit→Int×Int×Int×Int×Int×Int×Int×List IOp×Unit} (hp1:∀a1 a2 a3 a4 a5 a6 k ops,(ops.length:Int)<1000000→p1 (a1,a2,a3,a4,a5,a6,k,ops,())=true) (hf1:∀a1 a2 a3 a4 a5 a6 k ops,(ops.length:Int)<1000000→((f1 (a1,a2,a3,a4,a5,a6,k,ops,())).2.2.2.2.2.2.2.1.length:Int)=ops.length+1) (a1 a2 a3 a4 a5 a6:Int) (i:Ins) (ops:List IOp) (hl:(ops.length:Int)<999000):Rf (std 0) p1 f1 (a1,a2,a3,a4,a5,a6,i,ops,()) (fun y=>(y.2.2.2.2.2.2.1.length:Int)≤ops.length+5):=by
 dsimp only [Rf,Alg.cl,Alg.cg,Alg.rb,Alg.bd,Alg.l1,Tup.q,Tup.o]
 simp (disch:=(first | omega | (simp (disch:=(first | omega | (simp (disch:=(first | omega | (simp (disch:=omega) only [hf1];omega))) only [hf1];omega))) only [hf1];omega))) only [RR,hp1,hf1]
 refine⟨fun _=>by omega,fun _=>⟨fun _=>by omega,fun _=>by omega⟩⟩
theorem ah8 (k:Int) (hk:k<1000):Rb (std 0) (k,()) (fun _=>True):=by
 dsimp only [Rb,Alg.cl,Alg.cg,Alg.rb,Alg.bd,Alg.l1,Tup.q,Tup.o]
 simp (disch:=omega) only [RR]
 refine au (fun(y:Int×Int×Int×Unit)=>y.1=k∧0≤y.2.2.1) (fun y=>(k-y.2.2.1).toNat) ⟨rfl,by simp⟩ ?_
 rintro⟨(k':Int),(z:Int),(j:Int),⟨⟩⟩ hI
 dsimp only at hI ⊢
 obtain⟨rfl,h1⟩:=hI
 simp (disch:=omega) only [RR]
 refine fun h=> ?_
 rw [w64 (by omega) (by omega)];constructor<;>omega
theorem ah9 {p1:Int×Int×Int×Int×Int×Int×Int×List IOp×Unit→Bool} {f1:Int×Int×Int×Int×Int×Int×Int×List IOp×Unit→Int×Int×Int×Int×Int×Int×Int×List IOp×Unit} (hp1:∀a1 a2 a3 a4 a5 a6 k ops,(ops.length:Int)<1000000→p1 (a1,a2,a3,a4,a5,a6,k,ops,())=true) (hf1:∀a1 a2 a3 a4 a5 a6 k ops,(ops.length:Int)<1000000→((f1 (a1,a2,a3,a4,a5,a6,k,ops,())).2.2.2.2.2.2.2.1.length:Int)=ops.length+1) {p2:Int×Int×Int×Int×Int×Int×Ins×List IOp×Unit→Bool} {f2:Int×Int×Int×Int×Int×Int×Ins×List IOp×Unit→Int×Int×Int×Int×Int×Int×List IOp×Unit} (hp2:∀a1 a2 a3 a4 a5 a6 i ops,(ops.length:Int)<999000→p2 (a1,a2,a3,a4,a5,a6,i,ops,())=true) (hf2:∀a1 a2 a3 a4 a5 a6 i ops,(ops.length:Int)<999000→((f2 (a1,a2,a3,a4,a5,a6,i,ops,())).2.2.2.2.2.2.1.length:Int)≤ops.length+5) {p3:Int×Int×Int×Int×Int×Int×IOp×List IOp×Unit→Bool} {f3:Int×Int×Int×Int×Int×Int×IOp×List IOp×Unit→Int×Int×Int×Int×Int×Int×Int×List IOp×Unit} (hp3:∀a1 a2 a3 a4 a5 a6 o ops,(ops.length:Int)<1000000→p3 (a1,a2,a3,a4,a5,a6,o,ops,())=true) (hf3:∀a1 a2 a3 a4 a5 a6 o ops,(ops.length:Int)<1000000→((f3 (a1,a2,a3,a4,a5,a6,o,ops,())).2.2.2.2.2.2.2.1.length:Int)=ops.length+1) {p4:Int×Int×Int×Int×Int×Int×Ins×Int×List IOp×Unit→Bool} {f4:Int×Int×Int×Int×Int×Int×Ins×Int×List IOp×Unit→Int×Int×Int×Int×Int×Int×List IOp×Unit} (hp4:∀a1 a2 a3 a4 a5 a6 i k ops,(ops.length:Int)<998000→p4 (a1,a2,a3,a4,a5,a6,i,k,ops,())=true) (hf4:∀a1 a2 a3 a4 a5 a6 i k ops,(ops.length:Int)<998000→((f4 (a1,a2,a3,a4,a5,a6,i,k,ops,())).2.2.2.2.2.2.1.length:Int)=ops.length+5) {p5:Int×Int×Int×Int×Int×Int×Int×Int×IOp×List IOp×Unit→Bool} {f5:Int×Int×Int×Int×Int×Int×Int×Int×IOp×List IOp×Unit→Int×Int×Int×Int×Int×Int×Int×List IOp×Unit} (hp5:∀a1 a2 a3 a4 a5 a6 k a o ops,(ops.length:Int)<999000→p5 (a1,a2,a3,a4,a5,a6,k,a,o,ops,())=true) (hf5:∀a1 a2 a3 a4 a5 a6 k a o ops,(ops.length:Int)<999000→((f5 (a1,a2,a3,a4,a5,a6,k,a,o,ops,())).2.2.2.2.2.2.2.1.length:Int)=ops.length+3) {p6:Int×Int×Int×Int×Int×Int×Int×Int×List IOp×Unit→Bool} {f6:Int×Int×Int×Int×Int×Int×Int×Int×List IOp×Unit→Int×Int×Int×Int×Int×Int×List IOp×Unit} (hp6:∀a1 a2 a3 a4 a5 a6 k x ops,(ops.length:Int)<1000000→p6 (a1,a2,a3,a4,a5,a6,k,x,ops,())=true) (hf6:∀a1 a2 a3 a4 a5 a6 k x ops,(ops.length:Int)<1000000→((f6 (a1,a2,a3,a4,a5,a6,k,x,ops,())).2.2.2.2.2.2.1.length:Int)=ops.length+1) {p7:Int×Unit→Bool} {f7:Int×Unit→Int×Unit} (hp7:∀k,k<1000→p7 (k,())=true) (a1 a2 a3 a4 a5 a6:Int) (i:Ins) (k:Int) (ops:List IOp) (hk:i.k<1000) (hl:(ops.length:Int)<997000):Rh (std 0) p1 f1 p2 f2 p3 f3 p4 f4 p5 f5 p6 f6 p7 f7 (a1,a2,a3,a4,a5,a6,i,k,ops,()) (fun y=>(y.2.2.2.2.2.2.1.length:Int)≤ops.length+5):=by
 have e4:=fun i k=>hf4 a1 a2 a3 a4 a5 a6 i k ops (by omega)
 have e2:=fun i=>hf2 a1 a2 a3 a4 a5 a6 i ops (by omega)
 dsimp only [Rh,Alg.cl,Alg.cg,Alg.rb,Alg.bd,Alg.l1,Tup.q,Tup.o]
 simp (disch:=(first | omega | (simp (disch:=(first | omega | (simp (disch:=(first | omega | (simp (disch:=omega) only [hf1,hf3,hf5,RB];omega))) only [hf1,hf3,hf5,RB];omega))) only [hf1,hf3,hf5,RB];omega))) only [RR,RB,hp1,hp2,hp3,hp4,hp5,hp6,hp7,hf1,hf3,hf4,hf5,hf6]
 have:=e2 i
 repeat' (first | (refine⟨?_,?_⟩) | intro _)
 all_goals omega
def KB (l:List Ins):Prop:=∀i∈l,i.k<1000
theorem KB.at {l:List Ins} (h:KB l) (n:Nat):(l.getD n default).k<1000:=by
 by_cases h1:n<l.length
 ·rw [getD_lt h1];exact h _ (List.getElem_mem _)
 ·simp only [List.getD,List.getElem?_eq_none (by omega:l.length≤n)];decide
theorem aia {p1:Int×List Ins×Unit→Bool} {f1:Int×List Ins×Unit→Bool×Unit} (hp1:∀pc l,(l.length:Int)<1000→p1 (pc,l,())=true) {p2:Int×Int×Int×Int×Int×Int×Ins×Int×List IOp×Unit→Bool} {f2:Int×Int×Int×Int×Int×Int×Ins×Int×List IOp×Unit→Int×Int×Int×Int×Int×Int×List IOp×Unit} (hp2:∀a1 a2 a3 a4 a5 a6 i k ops,i.k<1000→(ops.length:Int)<997000→p2 (a1,a2,a3,a4,a5,a6,i,k,ops,())=true) (hf2:∀a1 a2 a3 a4 a5 a6 i k ops,i.k<1000→(ops.length:Int)<997000→((f2 (a1,a2,a3,a4,a5,a6,i,k,ops,())).2.2.2.2.2.2.1.length:Int)≤ops.length+5) (pc:Int) (l:List Ins) (hl:(l.length:Int)<1000) (hk:KB l):Ri (std 0) p1 f1 p2 f2 (pc,l,()) (fun y=>(y.2.2.2.2.2.2.1.length:Int)≤5000):=by
 dsimp only [Ri,Alg.cl,Alg.cg,Alg.rb,Alg.bd,Alg.l1,Tup.q,Tup.o]
 simp (disch:=omega) only [RR,hp1,List.length_nil]
 refine⟨fun _=>by omega,fun _=> ?_⟩
 refine au (fun(y:List Ins×Int×Int×Int×Int×Int×Int×Int×Int×Int×Int×Int×Int×Int×List IOp×Unit)=>y.1=l∧0≤y.2.1∧y.2.1≤l.length∧(y.2.2.2.2.2.2.2.2.2.2.2.2.2.2.1.length:Int)≤5*y.2.1) (fun y=>((l.length:Int)-y.2.1).toNat) ⟨rfl,by simp,by simp,by simp⟩ ?_
 rintro⟨(l':List Ins),(j:Int),u1,u2,u3,u4,u5,u6,b1,b2,b3,b4,b5,b6,(ops:List IOp),⟨⟩⟩ hI
 dsimp only at hI ⊢
 obtain⟨rfl,h1,h2,h3⟩:=hI
 have hk':=hk.at j.toNat
 simp (disch:=omega) only [RR,hp2]
 refine⟨fun h=> ?_,fun h=>by omega⟩
 have:=hf2 b1 b2 b3 b4 b5 b6 ((l').getD (j).toNat default) j ops hk' (by omega)
 exact⟨h1,h,⟨by omega,by omega,by omega⟩,by omega⟩
end Go.TX.F
namespace Go.TX.F
open Go Go.AE Go.TX
structure InD (m:Int) (b:List Int) (p:Int) (y:Int×Int×Int×Int×List Int×Int×Unit):Prop where
 b:y.2.2.2.2.1=b
 lo:p≤y.2.2.2.2.2.1
 hi:y.2.2.2.2.2.1≤p+m
 k:0≤y.2.2.2.1∧y.2.2.2.1≤255
@[reducible] def aib : List Int → Prop
 | []=>True
 | x::l=>(0≤x∧x≤255)∧aib l
theorem OM:∀(l:List Int) (n:Nat),aib l→0≤l.getD n default∧l.getD n default≤255
 | [],n,_=>by simp only [List.getD_nil];decide
 | x::l,0,h=>h.1
 | x::l,n+1,h=>OM l n h.2
theorem pkR {f1:Int×List Int×Int×Unit→Int×List Int×Int×Unit} {b:List Int} (hb:Bt b) (hf1:∀n b p,Bt b→0≤p→p<1000000000→Pk n b p (f1 (n,b,p,()))):
  (∀n p,0≤p→p<1000000000→(f1 (n,b,p,())).2.1=b)∧(∀n p,0≤p→p<1000000000→(f1 (n,b,p,())).2.2.1=p+1)∧
  (∀n p,0≤p→p<1000000000→(0≤(f1 (n,b,p,())).1)=True)∧(∀n p k,0≤p→p<1000000000→n≤k→0<k→((f1 (n,b,p,())).1<k)=True)∧
  (∀n p k,0≤p→p<1000000000→n≤k+1→0≤k→((f1 (n,b,p,())).1≤k)=True):=
 ⟨fun n p h1 h2=>(hf1 n b p hb h1 h2).1,fun n p h1 h2=>(hf1 n b p hb h1 h2).2.1,fun n p h1 h2=>eq_true (hf1 n b p hb h1 h2).2.2.1,
  fun n p k h1 h2 h3 h4=>eq_true (by have:=(hf1 n b p hb h1 h2).2.2;omega),fun n p k h1 h2 h3 h4=>eq_true (by have:=(hf1 n b p hb h1 h2).2.2;omega)⟩
theorem aic {p1:Int×List Int×Int×Unit→Bool} {f1:Int×List Int×Int×Unit→Int×List Int×Int×Unit} (hp1:∀n b p,Bt b→0≤p→p<1000000000→p1 (n,b,p,())=true) (hf1:∀n b p,Bt b→0≤p→p<1000000000→Pk n b p (f1 (n,b,p,()))) (b:List Int) (p:Int) (hb:Bt b) (h1:0≤p) (h2:p<900000000):QM (std 0) p1 f1 (b,p,()) (fun y=>InD 20 b p y):=by
 have R:=pkR hb hf1
 have P:=fun n p h1 h2=>hp1 n b p hb h1 h2
 dsimp only [QM,Alg.cl,Alg.cg,Alg.rb,Alg.bd,Alg.l1,Tup.q,Tup.o]
 simp (disch:=omega) only [RR,R,P,List.length_cons,List.length_nil]
 repeat' (first | (refine⟨?_,?_⟩) | intro _)
 all_goals try omega
 all_goals refine⟨rfl,by dsimp only;omega,by dsimp only;omega,?_⟩
 all_goals dsimp only
 all_goals first | omega | (refine OM _ _ ?_;simp (disch:=omega) only [aib,R,Int.reduceLE,and_self,true_and,and_true]) | (simp (disch:=omega) only [R,Int.reduceLE,and_self,true_and,and_true])
theorem aie {p1:List Int×Int×Unit→Bool} {f1:List Int×Int×Unit→Int×Int×Int×Int×List Int×Int×Unit} (hp1:∀b p,Bt b→0≤p→p<900000000→p1 (b,p,())=true) (hf1:∀b p,Bt b→0≤p→p<900000000→InD 20 b p (f1 (b,p,()))) {p2:Int×List Int×Int×Unit→Bool} {f2:Int×List Int×Int×Unit→Int×List Int×Int×Unit} (hp2:∀n b p,Bt b→0≤p→p<1000000000→p2 (n,b,p,())=true) (hf2:∀n b p,Bt b→0≤p→p<1000000000→Pk n b p (f2 (n,b,p,()))) {p3:Ins×Unit→Bool} {f3:Ins×Unit→Bool×Unit} (hp3:∀i,p3 (i,())=true) (b:List Int) (p:Int) (hb:Bt b) (h1:0≤p) (h2:p<800000000):QY (std 0) p1 f1 p2 f2 p3 f3 (b,p,()) (fun y=>InD 30 b p y):=by
 obtain⟨a1,a2,a3,a4⟩:=hf1 b p hb h1 (by omega)
 have R:=pkR hb hf2
 have P:=fun n p h1 h2=>hp2 n b p hb h1 h2
 dsimp only [QY,Alg.cl,Alg.cg,Alg.rb,Alg.bd,Alg.l1,Tup.q,Tup.o]
 simp (disch:=omega) only [RR,hp1 b p hb h1 (by omega),hp3,a1,R,P]
 refine⟨fun _=>⟨rfl,by dsimp only;omega,by dsimp only;omega,?_⟩,fun _=>⟨rfl,a2,by dsimp only;omega,a4⟩⟩
 dsimp only
 simp (disch:=omega) only [R,Int.reduceLE,and_self]
structure LiD (b:List Int) (p:Int) (y:List Int×Int×List Ins×Unit):Prop where
 b:y.1=b
 lo:p≤y.2.1
 hi:y.2.1≤p+1000
 len:(y.2.2.1.length:Int)≤20
 k:KB y.2.2.1
theorem KB.app {l:List Ins} {i:Ins} (h:KB l) (h2:i.k≤255):KB (l++ [i]):=fun x hx=>by
 rw [List.mem_append,List.mem_singleton]at hx
 rcases hx with hx | rfl
 ·exact h x hx
 ·omega
theorem aif {p1:List Int×Int×Unit→Bool} {f1:List Int×Int×Unit→Int×Int×Int×Int×List Int×Int×Unit} (hp1:∀b p,Bt b→0≤p→p<800000000→p1 (b,p,())=true) (hf1:∀b p,Bt b→0≤p→p<800000000→InD 30 b p (f1 (b,p,()))) {p2:Int×List Int×Int×Unit→Bool} {f2:Int×List Int×Int×Unit→Int×List Int×Int×Unit} (hp2:∀n b p,Bt b→0≤p→p<1000000000→p2 (n,b,p,())=true) (hf2:∀n b p,Bt b→0≤p→p<1000000000→Pk n b p (f2 (n,b,p,()))) (b:List Int) (p:Int) (hb:Bt b) (h1:0≤p) (h2:p<700000000):Q5 (std 0) p1 f1 p2 f2 (b,p,()) (fun y=>LiD b p y):=by
 obtain⟨e1,e2,e3,e4⟩:=hf2 8 b p hb h1 (by omega)
 dsimp only [Q5,Alg.cl,Alg.cg,Alg.rb,Alg.bd,Alg.l1,Tup.q,Tup.o]
 simp (disch:=omega) only [RR,hp2 8 b p hb h1 (by omega),e1,e2]
 refine au (fun(y:Int×List Int×Int×List Ins×Unit)=>0≤y.1∧y.1≤8∧y.2.1=b∧p≤y.2.2.1∧y.2.2.1+40*y.1≤p+400∧(y.2.2.2.1.length:Int)+y.1≤8∧KB y.2.2.2.1) (fun y=>y.1.toNat)
  ⟨e3,by dsimp only;omega,rfl,by dsimp only;omega,by dsimp only;omega,by dsimp only [List.length_nil];omega,fun x hx=>by cases hx⟩ ?_
 rintro⟨(k:Int),(b':List Int),(q:Int),(l:List Ins),⟨⟩⟩ hI
 dsimp only at hI ⊢
 obtain⟨k1,k2,rfl,k3,k4,k5,k6⟩:=hI
 have R:=pkR hb hf2
 have P:=fun n p h1 h2=>hp2 n b' p hb h1 h2
 obtain⟨a1,a2,a3,a4⟩:=hf1 b' q hb (by omega) (by omega)
 obtain⟨b1,b2,b3,b4⟩:=hf1 b' (q+1) hb (by omega) (by omega)
 simp (disch:=omega) only [RR,RB,hp1 b' q hb (by omega) (by omega),hp1 b' (q+1) hb (by omega) (by omega),a1,b1,R,P,List.length_cons,List.length_nil,List.length_append]
 refine⟨fun c=>⟨by omega,⟨by omega,by omega,by omega,by omega,by omega,k6.app a4.2⟩,by omega⟩,fun c=>⟨fun _=>⟨by omega,rfl,by dsimp only;omega,by dsimp only;omega,?_,?_⟩,fun _=>⟨fun _=>⟨by omega,rfl,by dsimp only;omega,by dsimp only;omega,?_,?_⟩,fun _=>⟨by omega,rfl,by dsimp only;omega,by dsimp only;omega,?_,?_⟩⟩⟩⟩
 ·dsimp only;rw [List.length_append];simp only [List.length_cons,List.length_nil];omega
 ·refine k6.app ?_
  dsimp only
  simp (disch:=omega) only [R]
 ·dsimp only;rw [List.length_append];simp only [List.length_cons,List.length_nil];omega
 ·exact k6.app (by dsimp only;omega)
 ·dsimp only;rw [List.length_append];simp only [List.length_cons,List.length_nil];omega
 ·exact k6.app b4.2
end Go.TX.F
namespace Go.TX.F
open Go Go.AE Go.TX
theorem aac (b:Blk) (hb:b.ops.length<1000000):Qn (std 0) (b,()) (fun y=>y=(b.pc,b.len,b.fin,b.x,b.y,b.k,b.ops,())):=by
 dsimp only [Qn,Alg.cl,Alg.cg,Alg.rb,Alg.bd,Alg.l1,Tup.q,Tup.o]
 simp (disch:=omega) only [RR,RB,List.nil_append,List.length_nil]
 omega
def kn (ops:List IOp) (k:Int):Int×Bool:=if 0≤k∧k<ops.length∧(((ops).getD (k).toNat default)).kind=1 then((((ops).getD (k).toNat default)).k,true)else(0,false)
@[reducible] def bk7 (b : Blk) : Int × Int × Int × Int × Int × Int × List IOp × Unit := (b.pc, b.len, b.fin, b.x, b.y, b.k, b.ops, ())
structure FE (b:Blk):Prop where
 f:1≤b.fin∧b.fin≤4
 x:b.fin≠1→0≤b.x∧b.x<b.ops.length
 y:3≤b.fin→0≤b.y∧b.y<b.ops.length
 y0:b.fin≤2→b.y=0
 p:0≤b.pc∧b.pc≤100∧0≤b.len∧b.len≤100
theorem aad (ops:List IOp) (k:Int):Qz (std 0) (ops,k,()) (fun y=>y=((kn ops k).1,(kn ops k).2,())):=by
 dsimp only [Qz,Alg.cl,Alg.cg,Alg.rb,Alg.bd,Alg.l1,Tup.q,Tup.o]
 simp (disch:=omega) only [RR,RB]
 unfold kn
 refine⟨by omega,by omega,fun h=> ?_,fun h=>⟨by omega,by omega,?_⟩⟩
 ·rw [if_neg (by omega)]
 ·rw [if_pos (by omega)]
theorem aae (b:Blk) (k:Int):QE (std 0) (b,k,()) (fun y=>y=(b.pc,b.len,b.ops,1,0,0,k,())):=by
 dsimp only [QE,Alg.cl,Alg.cg,Alg.rb,Alg.bd,Alg.l1,Tup.q,Tup.o]
 simp (disch:=omega) only [RR,RB]
theorem aii {p1:Blk×Int×Unit→Bool} {f1:Blk×Int×Unit→Int×Int×List IOp×Int×Int×Int×Int×Unit} (hp1:∀b k,p1 (b,k,())=true) (hf1:∀b k,f1 (b,k,())=(b.pc,b.len,b.ops,1,0,0,k,())) {p2:List IOp×Int×Unit→Bool} {f2:List IOp×Int×Unit→Int×Bool×Unit} (hp2:∀ops k,p2 (ops,k,())=true) (hf2:∀ops k,f2 (ops,k,())=((kn ops k).1,(kn ops k).2,())) (b:Blk) (h:FE b):QF (std 0) p1 f1 p2 f2 (b,()) (fun y=>y=(fcB b b.ops,())):=by
 have hp:=h.p
 have hf:=h.f
 have k1:b.fin≠1→kn b.ops b.x=if(((b.ops).getD (b.x).toNat default)).kind=1 then((((b.ops).getD (b.x).toNat default)).k,true)else(0,false):=fun c=>by
  have:=h.x c
  unfold kn;simp only [this,true_and]
 have k2:3≤b.fin→kn b.ops b.y=if(((b.ops).getD (b.y).toNat default)).kind=1 then((((b.ops).getD (b.y).toNat default)).k,true)else(0,false):=fun c=>by
  have:=h.y c
  unfold kn;simp only [this,true_and]
 have y0:=h.y0
 have mkE:∀p l o f x y k,Co.mk .blk (p,l,o,f,x,y,k,())=Blk.mk p l o f x y k:=fun _ _ _ _ _ _ _=>rfl
 dsimp only [QF,Alg.cl,Alg.cg,Alg.rb,Alg.bd,Alg.l1,Tup.q,Tup.o]
 simp (disch:=omega) only [RR,RB,hp1,hf1,hp2,hf2,mkE,Bool.and_eq_false_iff]
 by_cases c1:b.fin=1
 ·have e:fcB b b.ops=b:=by unfold fcB;rw [if_neg (by omega),if_neg (by omega)]
  rw [e]
  refine⟨fun h=>absurd h.1 (by omega),fun _=>⟨fun h=>absurd h.1.1.1 (by omega),fun _=>⟨fun h=>absurd h.1.1.1 (by omega),fun _=>⟨fun h=>absurd h.1.1 (by omega),fun _=>rfl⟩⟩⟩⟩
 ·rw [k1 c1]
  by_cases c2:b.fin=2
  ·by_cases d:(((b.ops).getD (b.x).toNat default)).kind=1
   ·have e:fcB b b.ops=⟨b.pc,b.len,b.ops,1,0,0,(((b.ops).getD (b.x).toNat default)).k⟩:=by unfold fcB;rw [if_pos ⟨c2,d⟩,y0 (by omega)]
    rw [if_pos d,e]
    refine⟨fun _=>rfl,fun h=> ?_⟩
    rcases h with h | h
    ·exact absurd c2 h
    ·cases h
   ·have e:fcB b b.ops=b:=by unfold fcB;rw [if_neg (fun g=>d g.2),if_neg (by omega)]
    rw [if_neg d,e]
    refine⟨fun h=>absurd h.2 (by decide),fun _=>⟨fun h=>absurd h.1.1.1 (by omega),fun _=>⟨fun h=>absurd h.1.1.1 (by omega),fun _=>⟨fun h=>absurd h.1.1 (by omega),fun _=>rfl⟩⟩⟩⟩
  ·rw [k2 (by omega)]
   refine⟨fun h=>absurd h.1 c2,fun _=> ?_⟩
   by_cases d:(((b.ops).getD (b.x).toNat default)).kind=1∧(((b.ops).getD (b.y).toNat default)).kind=1
   ·have e:fcB b b.ops=⟨b.pc,b.len,b.ops,1,0,0,if b.fin=3∧(((b.ops).getD (b.x).toNat default)).k=(((b.ops).getD (b.y).toNat default)).k∨b.fin=4∧(((b.ops).getD (b.x).toNat default)).k< (((b.ops).getD (b.y).toNat default)).k then b.k else b.pc+b.len⟩:=by
     unfold fcB;rw [if_neg (by omega),if_pos ⟨by omega,d⟩]
    rw [if_pos d.1,if_pos d.2,e]
    dsimp only
    simp only [and_true,Bool.true_eq_false,or_false,Prod.mk.injEq,Blk.mk.injEq,true_and]
    refine⟨fun h=>⟨fun _=>by rw [if_pos (Or.inl h)],fun g=>by omega⟩,fun h=>⟨fun g=>by rw [if_pos (Or.inr g)],fun g=>⟨fun _=>by rw [if_neg (by omega)],fun q=>by omega⟩⟩⟩
   ·have e:fcB b b.ops=b:=by unfold fcB;rw [if_neg (by omega),if_neg (fun g=>d g.2)]
    rw [e]
    have n:¬((if(((b.ops).getD (b.x).toNat default)).kind=1 then((((b.ops).getD (b.x).toNat default)).k,true)else((0:Int),false)).2=true∧(if(((b.ops).getD (b.y).toNat default)).kind=1 then((((b.ops).getD (b.y).toNat default)).k,true)else((0:Int),false)).2=true):=fun⟨g1,g2⟩=>by
     split at g1
     ·split at g2
      ·exact d ⟨by assumption,by assumption⟩
      ·cases g2
     ·cases g1
    exact⟨fun h=>absurd ⟨h.1.1.2,h.1.2⟩ n,fun _=>⟨fun h=>absurd ⟨h.1.1.2,h.1.2⟩ n,fun _=>⟨fun h=>absurd ⟨h.1.2,h.2⟩ n,fun _=>rfl⟩⟩⟩
theorem aaf {p1:Int×Int×Int×Unit→Bool} {f1:Int×Int×Int×Unit→Bool×Unit} (hp1:∀a b c,p1 (a,b,c,())=true) (hf1:∀a b c,f1 (a,b,c,())=(inB a b c,())) (o:IOp) (al:List Int) (hk:1≤o.kind∧o.kind≤8) (hx:hX o→0≤o.x∧o.x< (al.length:Int)) (hy:hY o→0≤o.y∧o.y< (al.length:Int)):Qo (std 0) p1 f1 (o,al,()) (fun y=>y=(ren al o,())):=by
 dsimp only [Qo,Alg.cl,Alg.cg,Alg.rb,Alg.bd,Alg.l1,Tup.q,Tup.o]
 simp (disch:=omega) only [RR,RB,hp1,hf1,eF,rV]
 have X:((3≤o.kind∧o.kind≤5)∨o.kind=7)∨o.kind=8→hX o:=fun c=>by unfold hX;omega
 have Xn:(¬(3≤o.kind∧o.kind≤5)∧¬o.kind=7)∧¬o.kind=8→¬hX o:=fun c g=>by unfold hX at g;omega
 unfold ren
 refine⟨fun c=>⟨(hx (X c)).1,(hx (X c)).2,fun d=>⟨(hy d).1,(hy d).2,?_⟩,fun d=> ?_⟩,fun c=>⟨fun d=>⟨(hy d).1,(hy d).2,?_⟩,fun d=> ?_⟩⟩
 ·rw [if_pos (X c),if_pos (show hY o from d)]
 ·rw [if_pos (X c),if_neg (show¬hY o from fun g=>g.elim d.1 d.2)]
 ·rw [if_neg (Xn c),if_pos (show hY o from d)]
 ·rw [if_neg (Xn c),if_neg (show¬hY o from fun g=>g.elim d.1 d.2)]
theorem aag (ops:List IOp) (k:Int) (h0:0≤k) (h1:k<ops.length) (h2:(ops.length:Int)<1000000):Qx (std 0) (ops,k,()) (fun y=>y=(iH (ops.drop (k.toNat+1)) (((ops).getD (k).toNat default)).k,())):=by
 dsimp only [Qx,Alg.cl,Alg.cg,Alg.rb,Alg.bd,Alg.l1,Tup.q,Tup.o]
 simp (disch:=omega) only [RR,RB]
 refine au (fun(y:List IOp×Int×Int×Unit)=>y.1=ops∧y.2.1=k∧0≤y.2.2.1∧y.2.2.1≤ops.length∧iH (ops.drop (k.toNat+1)) (((ops).getD (k).toNat default)).k=iH (ops.drop y.2.2.1.toNat) (((ops).getD (k).toNat default)).k) (fun y=>((ops.length:Int)-y.2.2.1).toNat) ⟨rfl,rfl,by dsimp only;omega,by dsimp only;omega,by dsimp only;rw [show(k+1).toNat=k.toNat+1 by omega]⟩ ?_
 rintro⟨(l:List IOp),(k':Int),(j:Int),⟨⟩⟩ hI
 dsimp only at hI ⊢
 obtain⟨rfl,rfl,h3,h4,h5⟩:=hI
 rw [h5]
 simp (disch:=omega) only [RR,RB,Bool.and_eq_false_iff]
 have st:j<l.length→iH (l.drop j.toNat) (((l).getD (k').toNat default)).k=if(((l).getD (j).toNat default)).kind=4∨(((l).getD (j).toNat default)).kind=5∨(((l).getD (j).toNat default)).kind=2∧(((l).getD (j).toNat default)).k=(((l).getD (k').toNat default)).k then false else if(((l).getD (j).toNat default)).kind=8∧(((l).getD (j).toNat default)).k=(((l).getD (k').toNat default)).k then true else iH (l.drop (j+1).toNat) (((l).getD (k').toNat default)).k:=fun h=>by
  rw [List.drop_eq_getElem_cons (show j.toNat<l.length by omega),H7,←getD_lt (d:=default) (show j.toNat<l.length by omega),show(j+1).toNat=j.toNat+1 by omega]
 refine⟨fun h=>⟨h3,h,by omega,by omega,by omega,by omega,by omega,by omega,by omega,by omega,fun c=> ?_,fun c=>⟨h3,h,by omega,by omega,by omega,by omega,fun d=> ?_,fun d=>⟨⟨by omega,by omega,?_⟩,by omega⟩⟩⟩,fun h=> ?_⟩
 ·rw [st h,if_pos (by omega)]
 ·rw [st h,if_neg (by omega),if_pos (by omega)]
 ·rw [st h,if_neg (by omega),if_neg (by omega)]
 ·rw [List.drop_of_length_le (by omega)];rfl
theorem aij {p1:Blk×Unit→Bool} {f1:Blk×Unit→Blk×Unit} (hp1:∀b,b.ops.length<1000000→p1 (b,())=true) (hf1:∀b,b.ops.length<1000000→f1 (b,())=(bS b,())) {p2:Blk×Unit→Bool} {f2:Blk×Unit→Int×Int×Int×Int×Int×Int×List IOp×Unit} (hp2:∀b,b.ops.length<1000000→p2 (b,())=true) (hf2:∀b,b.ops.length<1000000→f2 (b,())=bk7 (bB b)) {p3:Blk×Unit→Bool} {f3:Blk×Unit→Int×Int×Int×Int×Int×Int×List IOp×Unit} (hp3:∀b,b.ops.length<1000000→p3 (b,())=true) (hf3:∀b,b.ops.length<1000000→f3 (b,())=bk7 (fK b)) {p4:Blk×Unit→Bool} {f4:Blk×Unit→Int×Int×Int×Int×Int×Int×List IOp×Unit} (hp4:∀b,b.ops.length<1000000→p4 (b,())=true) (hf4:∀b,b.ops.length<1000000→f4 (b,())=bk7 (gW b)) (b:Blk) (hb:b.ops.length<1000000):QJ (std 0) p1 f1 p2 f2 p3 f3 p4 f4 (b,()) (fun y=>y=bk7 (kE b)):=by
 have m1:(bB b).ops.length<1000000:=Nat.lt_of_le_of_lt (rD b) hb
 have m2:=Nat.lt_of_le_of_lt (uQ (bB b)) m1
 have m3:=Nat.lt_of_le_of_lt (rC (bS (bB b))) m2
 have m4:=Nat.lt_of_le_of_lt (yH (fK (bS (bB b)))) m3
 have mkE:∀c:Blk,Co.mk .blk (c.pc,c.len,c.ops,c.fin,c.x,c.y,c.k,())=c:=fun _=>rfl
 dsimp only [QJ,Alg.cl,Alg.cg,Alg.rb,Alg.bd,Alg.l1,Tup.q,Tup.o]
 simp (disch:=omega) only [RR,hp2 b hb,hf2 b hb,mkE,hp1 _ m1,hf1 _ m1,hp3 _ m2,hf3 _ m2,hp4 _ m3,hf4 _ m3,hp3 _ m4,hf3 _ m4]
 rfl
theorem KM {α:Type} {d:α} {f l:List α} {k:Nat} (hf:f.length=k) (h:k<l.length):(f++l.drop k).getD k d=l.getD k d:=by
 rw [getD_lt (by rw [List.length_append,List.length_drop];omega),getD_lt h,List.getElem_append_right (by omega),List.getElem_drop]
 simp only [hf,Nat.sub_self,Nat.add_zero]
theorem aah {α:Type} {d:α} {f l:List α} {k j:Nat} (hf:f.length=k) (h:j<k):(f++l.drop k).getD j d=f.getD j d:=by
 rw [getD_lt (by rw [List.length_append];omega),getD_lt (by omega),List.getElem_append_left]
theorem wu {α:Type} {x:α} {f l:List α} {k:Nat} (hf:f.length=k) (h:k<l.length):(f++l.drop k).set k x=(f++ [x])++l.drop (k+1):=by
 rw [List.set_append_right _ _ (by omega),hf,Nat.sub_self,List.drop_eq_getElem_cons h,List.set_cons_zero,List.append_assoc];rfl
theorem H9 {α:Type} {d:α} {f l:List α} {k:Nat} (h:k<l.length):f++l.drop k=(f++ [l.getD k d])++l.drop (k+1):=by
 rw [List.drop_eq_getElem_cons h,getD_lt h,List.append_assoc];rfl
theorem wz {α:Type} {f l:List α} {k:Nat} (hf:f.length=k) (h:k≤l.length):(f++l.drop k).length=l.length:=by
 rw [List.length_append,hf,List.length_drop];omega
theorem bI.fe {b:Blk} (ok:bI b) {f:List IOp} (h:f.length=b.ops.length):FE ⟨b.pc,b.len,f,b.fin,b.x,b.y,b.k⟩:=by
 have en:=ok.en
 have hp:=ok.pc
 have hl:=ok.ln
 exact⟨en.f,fun c=>⟨(en.x1 c).1,by dsimp only;rw [h];exact(en.x1 c).2.1⟩,fun c=>⟨(en.y1 c).1,by dsimp only;rw [h];exact(en.y1 c).2.1⟩,en.y0,by dsimp only;omega⟩
theorem aik {p1:Blk×Unit→Bool} {f1:Blk×Unit→Bool×Unit} (hp1:∀b,b.ops.length<1000000000→p1 (b,())=true) (hf1:∀b,b.ops.length<1000000000→f1 (b,())=(bp (bI b),())) {p2:Int×Int×Int×Unit→Bool} {f2:Int×Int×Int×Unit→Int×Unit} (hp2:∀op a b,p2 (op,a,b,())=true) (hf2:∀op a b,f2 (op,a,b,())=(wdo op a b,())) {p3:Blk×Unit→Bool} {f3:Blk×Unit→Blk×Unit} (hp3:∀b,FE b→p3 (b,())=true) (hf3:∀b,FE b→f3 (b,())=(fcB b b.ops,())) {p4:List IOp×Int×Unit→Bool} {f4:List IOp×Int×Unit→Int×Bool×Unit} (hp4:∀ops k,p4 (ops,k,())=true) (hf4:∀ops k,f4 (ops,k,())=((kn ops k).1,(kn ops k).2,())) {p5:Blk×Unit→Bool} {f5:Blk×Unit→Int×Int×Int×Int×Int×Int×List IOp×Unit} (hp5:∀b,b.ops.length<1000000→p5 (b,())=true) (hf5:∀b,b.ops.length<1000000→f5 (b,())=(b.pc,b.len,b.fin,b.x,b.y,b.k,b.ops,())) (b:Blk) (hb:b.ops.length<1000000):QI (std 0) p1 f1 p2 f2 p3 f3 p4 f4 p5 f5 (b,()) (fun y=>y=(bS b,())):=by
 have mkE:∀p l o f x y k,Co.mk .blk (p,l,o,f,x,y,k,())=Blk.mk p l o f x y k:=fun _ _ _ _ _ _ _=>rfl
 dsimp only [QI,Alg.cl,Alg.cg,Alg.rb,Alg.bd,Alg.l1,Tup.q,Tup.o]
 simp (disch:=omega) only [RR,RB,hp1 b (by omega),hf1 b (by omega),hp5 b hb,hf5 b hb,mkE]
 refine⟨fun h=>by unfold bS;rw [h,if_neg (by decide)];rfl,fun h=> ?_⟩
 have ok:=bM.1 h
 rw [zG ok]
 refine au (fun(y:Int×Int×Int×Int×Int×Int×Int×Int×Int×Int×Int×Int×Int×List IOp×Unit)=>0≤y.1∧y.1≤b.ops.length∧y.2.2.2.2.2.2.2=(b.pc,b.len,b.fin,b.x,b.y,b.k,fc b.ops y.1.toNat++b.ops.drop y.1.toNat,())) (fun y=>((b.ops.length:Int)-y.1).toNat) ⟨by dsimp only;omega,by dsimp only;omega,rfl⟩ ?_
 rintro⟨(k:Int),u1,u2,u3,u4,u5,u6,b1,b2,b3,b4,b5,b6,(ops:List IOp),⟨⟩⟩ hI
 dsimp only at hI ⊢
 simp only [Prod.mk.injEq,and_true]at hI
 obtain⟨h1,h2,rfl,rfl,rfl,rfl,rfl,rfl,rfl⟩:=hI
 have fl:=kD b.ops k.toNat
 have ln:=wz (l:=b.ops) fl (by omega)
 simp (disch:=omega) only [RR,RB,hp4,hf4,hp2,hf2,ln,mkE]
 refine⟨fun h=> ?_,fun h=> ?_⟩
 ·have o:=ok.op k h1 h
  have ek:=KM (d:=default) (l:=b.ops) fl (by omega)
  have kv:∀x:Int,Vl b.ops x k→kn (fc b.ops k.toNat++b.ops.drop k.toNat) x=if((((fc b.ops k.toNat)).getD (x).toNat default)).kind=1 then(((((fc b.ops k.toNat)).getD (x).toNat default)).k,true)else(0,false):=fun x v=>by
   have v0:=v.1
   have v1:=v.2.1
   unfold kn
   rw [aah fl (by omega)]
   simp only [show 0≤x∧x< ((fc b.ops k.toNat++b.ops.drop k.toNat).length:Int)from⟨v0,by omega⟩,true_and]
  have nx:fc b.ops (k+1).toNat=fc b.ops k.toNat++ [fcO (fc b.ops k.toNat) ((b.ops).getD (k).toNat default)]:=by rw [show(k+1).toNat=k.toNat+1 by omega];rfl
  rw [ek]
  have hk:=H9 (d:=default) (f:=fc b.ops k.toNat) (l:=b.ops) (k:=k.toNat) (by omega)
  have hs:=fun x=>wu (x:=x) (l:=b.ops) fl (by omega)
  rw [nx,show(k+1).toNat=k.toNat+1 by omega]
  generalize ((b.ops).getD (k).toNat default)=q at o hk ⊢
  have vx:=fun c=>o.x1 c
  have vy:=fun c=>o.y1 c
  refine⟨h1,h,h1,h,fun c=>⟨h1,h,h1,h,⟨by omega,by omega,?_⟩,by omega⟩,fun c=>⟨⟨by omega,by omega,?_⟩,by omega⟩⟩
  ·have k1:=kv _ (o.x1 (by unfold hX;omega))
   have k2:=kv _ (o.y1 (Or.inl c.1.1))
   rw [k1,k2]at c ⊢
   by_cases d1:((((fc b.ops k.toNat)).getD (q.x).toNat default)).kind=1
   ·by_cases d2:((((fc b.ops k.toNat)).getD (q.y).toNat default)).kind=1
    ·rw [if_pos d1,if_pos d2,hs]
     have e:fcO (fc b.ops k.toNat) q=⟨1,0,0,wdo q.k ((((fc b.ops k.toNat)).getD (q.x).toNat default)).k ((((fc b.ops k.toNat)).getD (q.y).toNat default)).k,0⟩:=by unfold fcO;rw [if_pos ⟨c.1.1,d1,d2⟩]
     rw [e]
    ·rw [if_neg d2]at c;exact absurd c.2 (by decide)
   ·rw [if_neg d1]at c;exact absurd c.1.2 (by decide)
  ·have e:fcO (fc b.ops k.toNat) q=q:=by
    unfold fcO
    refine if_neg ?_
    rintro⟨d0,d1,d2⟩
    rw [kv _ (o.x1 (by unfold hX;omega)),kv _ (o.y1 (Or.inl d0)),if_pos d1,if_pos d2,decide_eq_true d0]at c
    cases c
   rw [e,hk]
 ·have e:fc b.ops k.toNat++b.ops.drop k.toNat=fc b.ops b.ops.length:=by rw [List.drop_of_length_le (by omega),List.append_nil,show k.toNat=b.ops.length by omega]
  rw [e]
  have fe:=ok.fe (kD b.ops b.ops.length)
  rw [hf3 _ fe]
  exact⟨hp3 _ fe,rfl⟩
theorem aai {a b:List Bool} (h:a.length=b.length) (g:∀t:Nat,t<a.length→(a.getD t default=true↔b.getD t default=true)):a=b:=by
 refine List.ext_getElem h fun i h1 h2=> ?_
 have:=g i h1
 rw [getD_lt h1,getD_lt h2]at this
 exact Bool.eq_iff_iff.2 this
theorem ail {p1:Blk×Unit→Bool} {f1:Blk×Unit→Bool×Unit} (hp1:∀b,b.ops.length<1000000000→p1 (b,())=true) (hf1:∀b,b.ops.length<1000000000→f1 (b,())=(bp (bI b),())) {p2:Int×Int×Int×Unit→Bool} {f2:Int×Int×Int×Unit→Bool×Unit} (hp2:∀a b c,p2 (a,b,c,())=true) (hf2:∀a b c,f2 (a,b,c,())=(inB a b c,())) (b:Blk) (hb:b.ops.length<1000000):Qt (std 0) p1 f1 p2 f2 (b,()) (fun y=>y=(Cx b,())):=by
 dsimp only [Qt,Alg.cl,Alg.cg,Alg.rb,Alg.bd,Alg.l1,Tup.q,Tup.o]
 simp (disch:=omega) only [RR,RB,hp1 b (by omega),hf1 b (by omega)]
 unfold Cx
 refine⟨fun h=>by rw [h,if_neg (by decide)],fun h=> ?_⟩
 rw [if_pos h]
 have ok:=bM.1 h
 have n48:=ok.sz
 have en:=ok.en
 refine au (fun(y:Int×Blk×List Bool×Unit)=>0≤y.1∧y.1≤b.ops.length∧y.2.1=b∧(y.2.2.1.length:Int)=y.1∧∀t:Nat,t<y.2.2.1.length→(y.2.2.1.getD t default=true↔4≤(b.ops.getD t default).kind)) (fun y=>((b.ops.length:Int)-y.1).toNat) ⟨by dsimp only;omega,by dsimp only;omega,rfl,rfl,fun t h=>absurd h (by simp)⟩ ?_
 rintro⟨(k:Int),(b':Blk),(kp:List Bool),⟨⟩⟩ hI
 dsimp only at hI ⊢
 obtain⟨h1,h2,rfl,h3,h4⟩:=hI
 simp (disch:=omega) only [RR,RB,List.length_append,List.length_cons,List.length_nil]
 refine⟨fun h=>⟨h1,h,by omega,⟨by omega,by omega,by omega,fun t ht=> ?_⟩,by omega⟩,fun h=> ?_⟩
 ·rw [eH]
  rcases(by omega:t<kp.length∨t=kp.length)with c | c
  ·rw [if_pos c];exact h4 t c
  ·rw [if_neg (by omega),if_pos c,decide_eq_true_eq,c,show k.toNat=kp.length by omega]
 have ex:¬b'.fin=1→0≤b'.x∧b'.x<kp.length:=fun c=>by have:=ok.en.x1 c;exact⟨this.1,by have:=this.2.1;omega⟩
 have ey:b'.fin=3∨b'.fin=4→0≤b'.y∧b'.y<kp.length:=fun c=>by have:=ok.en.y1 (by omega);exact⟨this.1,by have:=this.2.1;omega⟩
 have ff:=en.f
 have u0:=UO ok
 have kl:kp.length=b'.ops.length:=by omega
 rw [kl]at h4
 refine⟨fun c=>⟨(ex c).1,(ex c).2,(ex c).1,(ex c).2,fun c2=>⟨(ey c2).1,by rw [List.length_set];exact(ey c2).2,(ey c2).1,by rw [List.length_set];exact(ey c2).2,?_⟩,fun c2=> ?_⟩,fun c=>⟨fun c2=>absurd c2 (by omega),fun c2=> ?_⟩⟩
 all_goals
  refine au (fun(y:Int×Blk×List Bool×Unit)=> -1≤y.1∧y.1<b'.ops.length∧y.2.1=b'∧y.2.2.1.length=b'.ops.length∧∀t:Nat,t<b'.ops.length→(y.2.2.1.getD t default=true↔(us b' (b'.ops.length-1-y.1).toNat).getD t default=true∨4≤(b'.ops.getD t default).kind)) (fun y=>(y.1+1).toNat) ⟨by dsimp only;omega,by dsimp only;omega,rfl,by simp only [List.length_set];omega,fun t ht=> ?_⟩ ?_
  ·dsimp only
   rw [show(b'.ops.length-1- ((b'.ops.length:Int)-1)).toNat=0 by omega]
   show _↔(us0 b').getD t default=true∨_
   have q:=h4 t ht
   have r:=u0 t
   first
    | (rw [Sd (by rw [List.length_set];have:=ey c2;omega),Sd (by have:=ex c;omega),q,r];grind)
    | (rw [Sd (by have:=ex c;omega),q,r];grind)
    | (rw [q,r];grind)
  rintro⟨(j:Int),(b2:Blk),(ms:List Bool),⟨⟩⟩ hI
  dsimp only at hI ⊢
  obtain⟨j0,j1,rfl,j3,j4⟩:=hI
  simp (disch:=omega) only [RR,RB,hp2,hf2,eF,rV,List.length_set]
  have ul:=uP b2 (b2.ops.length-1-j).toNat
  have us1:0≤j→∀t:Nat,((us b2 (b2.ops.length-1- (j-1)).toNat).getD t default=true↔(us b2 (b2.ops.length-1-j).toNat).getD t default=true∨((us b2 (b2.ops.length-1-j).toNat).getD j.toNat default=true∨4≤(((b2.ops).getD (j).toNat default)).kind)∧(t=j.toNat∨hX (((b2.ops).getD (j).toNat default))∧t=(((b2.ops).getD (j).toNat default)).x.toNat∨hY (((b2.ops).getD (j).toNat default))∧t=(((b2.ops).getD (j).toNat default)).y.toNat)):=fun g t=>by
   have o:=ok.op j g j1
   rw [show(b2.ops.length-1- (j-1)).toNat=(b2.ops.length-1-j).toNat+1 by omega]
   show(usO (b2.ops.getD (b2.ops.length-1- (b2.ops.length-1-j).toNat) default) (b2.ops.length-1- (b2.ops.length-1-j).toNat) _).getD t default=true↔_
   rw [show b2.ops.length-1- (b2.ops.length-1-j).toNat=j.toNat by omega]
   exact UN (by omega) (fun c=>by have:=o.x1 c;have g0:=this.1;have g1:=this.2.1;omega) (fun c=>by have:=o.y1 c;have g0:=this.1;have g1:=this.2.1;omega)
  have ue:¬0≤j→(us b2 (b2.ops.length-1-j).toNat)=us b2 b2.ops.length:=fun g=>by rw [show(b2.ops.length-1-j).toNat=b2.ops.length by omega]
  generalize us b2 (b2.ops.length-1-j).toNat=U at us1 j4 ue
  refine⟨fun g=> ?_,fun g=>congrArg (fun m:List Bool=>(m,())) (aai (b:=us b2 b2.ops.length) (by rw [uP];exact j3) fun t ht=> ?_)⟩
  ·have o:=ok.op j g j1
   have X:hX (((b2.ops).getD (j).toNat default))→0≤(((b2.ops).getD (j).toNat default)).x∧(((b2.ops).getD (j).toNat default)).x<ms.length:=fun c=>by have:=o.x1 c;have g0:=this.1;have g1:=this.2.1;omega
   have Y:hY (((b2.ops).getD (j).toNat default))→0≤(((b2.ops).getD (j).toNat default)).y∧(((b2.ops).getD (j).toNat default)).y<ms.length:=fun c=>by have:=o.y1 c;have g0:=this.1;have g1:=this.2.1;omega
   have us1:=us1 g
   have qj:=j4 j.toNat (by omega)
   have kd:=o.kd
   generalize ((b2.ops).getD (j).toNat default)=q at*
   have cx:((3≤q.kind∧q.kind≤5)∨q.kind=7)∨q.kind=8↔hX q:=by unfold hX;omega
   have cn:(¬(3≤q.kind∧q.kind≤5)∧¬q.kind=7)∧¬q.kind=8↔¬hX q:=by unfold hX;omega
   have cy:q.kind=3∨q.kind=5↔hY q:=Iff.rfl
   have dn:¬q.kind=3∧¬q.kind=5↔¬hY q:=by unfold hY;omega
   rw [cx,cn,cy,dn]
   generalize hX q=HX at*
   generalize hY q=HY at*
   refine⟨g,j1,g,by omega,g,by omega,fun c=>⟨⟨by omega,by omega,j3,fun t ht=> ?_⟩,by omega⟩,fun c=>⟨fun d=>⟨(X d).1,(X d).2,(X d).1,(X d).2,fun e=>⟨(Y e).1,(Y e).2,(Y e).1,(Y e).2,⟨by omega,by omega,j3,fun t ht=> ?_⟩,by omega⟩,fun e=>⟨⟨by omega,by omega,j3,fun t ht=> ?_⟩,by omega⟩⟩,fun d=>⟨fun e=>⟨(Y e).1,(Y e).2,(Y e).1,(Y e).2,⟨by omega,by omega,j3,fun t ht=> ?_⟩,by omega⟩,fun e=>⟨⟨by omega,by omega,j3,fun t ht=> ?_⟩,by omega⟩⟩⟩⟩
   ·rw [us1,j4 t ht];rw [c]at qj;grind
   ·rw [Sd (by rw [List.length_set];have:=Y e;omega),Sd (by have:=X d;omega),us1,j4 t ht];grind
   ·rw [Sd (by have:=X d;omega),us1,j4 t ht];grind
   ·rw [Sd (by have:=Y e;omega),us1,j4 t ht];grind
   ·rw [us1,j4 t ht];grind
  ·rw [j4 t (by omega),ue g]
   exact⟨fun h=>h.elim id ((ac5 ok).k t (Nat.zero_le _) (by omega)),Or.inl⟩
end Go.TX.F
namespace Go.TX.F
open Go Go.AE Go.TX
theorem acj {ops:List IOp} {kp:List Bool} {len:Int} {k n:Nat} {o:IOp} (ho:AB ops len k o) (h:k<n):ren (kpS ops kp (k+1)).1 o=ren (kpS ops kp n).1 o:=by
 have p:=(KL ops kp (show k+1≤n by omega)).2
 have l:=(kJ ops kp (k+1)).1
 have e:∀x:Int,Vl ops x k→(((kpS ops kp (k+1)).1).getD (x).toNat default)=(((kpS ops kp n).1).getD (x).toNat default):=fun x v=>by
  have g0:=v.1
  have g1:=v.2.1
  exact(Kz p (by omega)).symm
 have ox:=ho.x1
 have oy:=ho.y1
 unfold ren
 congr 1
 ·split
  ·rename_i c;exact e _ (ox c)
  ·rfl
 ·split
  ·rename_i c;exact e _ (oy c)
  ·rfl
theorem ain {p1:IOp×List Int×Unit→Bool} {f1:IOp×List Int×Unit→IOp×Unit} (hp1:∀o al,(1≤o.kind∧o.kind≤8)→(hX o→0≤o.x∧o.x< (al.length:Int))→(hY o→0≤o.y∧o.y< (al.length:Int))→p1 (o,al,())=true) (hf1:∀o al,(1≤o.kind∧o.kind≤8)→(hX o→0≤o.x∧o.x< (al.length:Int))→(hY o→0≤o.y∧o.y< (al.length:Int))→f1 (o,al,())=(ren al o,())) (b:Blk) (kp:List Bool) (ok:bI b) (hk:kp.length=b.ops.length):Qs (std 0) p1 f1 (b,kp,()) (fun y=>y=bk7 (gM b kp)):=by
 have n48:=ok.sz
 dsimp only [Qs,Alg.cl,Alg.cg,Alg.rb,Alg.bd,Alg.l1,Tup.q,Tup.o]
 simp (disch:=omega) only [RR,RB]
 refine au (fun(y:List Bool×Int×Blk×Int×Int×Int×Int×Int×Int×List IOp×List Int×Unit)=>y.1=kp∧0≤y.2.1∧y.2.1≤b.ops.length∧y.2.2.1=b∧y.2.2.2.2.2.2.2.2.2.1=(kpS b.ops kp y.2.1.toNat).2.map (ren (kpS b.ops kp b.ops.length).1)∧y.2.2.2.2.2.2.2.2.2.2.1=(kpS b.ops kp y.2.1.toNat).1) (fun y=>((b.ops.length:Int)-y.2.1).toNat) ⟨rfl,by dsimp only;omega,by dsimp only;omega,rfl,rfl,rfl⟩ ?_
 rintro⟨(kp':List Bool),(k:Int),(b':Blk),u1,u2,u3,u4,u5,u6,(out:List IOp),(to:List Int),⟨⟩⟩ hI
 dsimp only at hI ⊢
 obtain⟨rfl,h1,h2,rfl,rfl,rfl⟩:=hI
 obtain⟨l1,l2⟩:=kJ b'.ops kp' k.toNat
 have l3:=(kJ b'.ops kp' (k+1).toNat).1
 have nx:(kpS b'.ops kp' (k+1).toNat).1=(kpS b'.ops kp' k.toNat).1++ [((kpS b'.ops kp' k.toNat).2.length:Int)]:=by rw [show(k+1).toNat=k.toNat+1 by omega];rfl
 have r:k<b'.ops.length→ren (kpS b'.ops kp' (k+1).toNat).1 ((b'.ops).getD (k).toNat default)=ren (kpS b'.ops kp' b'.ops.length).1 ((b'.ops).getD (k).toNat default):=fun h=>by
  rw [show(k+1).toNat=k.toNat+1 by omega]
  exact acj (by rw [show((k.toNat:Nat):Int)=k by omega];exact ok.op k h1 h) (by omega)
 have s:(kpS b'.ops kp' (k+1).toNat).2=if kp'.getD k.toNat default=true then(kpS b'.ops kp' k.toNat).2++ [((b'.ops).getD (k).toNat default)]else(kpS b'.ops kp' k.toNat).2:=by rw [show(k+1).toNat=k.toNat+1 by omega];rfl
 have fin:¬k<b'.ops.length→kpS b'.ops kp' k.toNat=kpS b'.ops kp' b'.ops.length:=fun h=>by rw [show k.toNat=b'.ops.length by omega]
 have kb:gM b' kp'=KJ (kpS b'.ops kp' b'.ops.length).1 b' (kpS b'.ops kp' b'.ops.length).2:=rfl
 rw [kb]
 generalize kpS b'.ops kp' b'.ops.length=N at r fin ⊢
 generalize hT:kpS b'.ops kp' (k+1).toNat=T at l3 nx r s ⊢
 generalize kpS b'.ops kp' k.toNat=S at l1 l2 nx s fin ⊢
 have en:=ok.en
 have ex:¬k<b'.ops.length→¬b'.fin=1→0≤b'.x∧b'.x< (S.1.length:Int):=fun h c=>by have:=en.x1 c;exact⟨this.1,by have:=this.2.1;omega⟩
 have ey:¬k<b'.ops.length→b'.fin=3∨b'.fin=4→0≤b'.y∧b'.y< (S.1.length:Int):=fun h c=>by have:=en.y1 (by omega);exact⟨this.1,by have:=this.2.1;omega⟩
 simp (disch:=omega) only [RR,RB,List.length_append,List.length_cons,List.length_nil,List.length_map,Ay,←nx]
 refine⟨fun h=> ?_,fun h=> ?_⟩
 ·have op:=ok.op k h1 h
  have a2:hX (((b'.ops).getD (k).toNat default))→0≤(((b'.ops).getD (k).toNat default)).x∧(((b'.ops).getD (k).toNat default)).x< (T.1.length:Int):=fun c=>⟨(op.x1 c).1,by have:=(op.x1 c).2.1;omega⟩
  have a3:hY (((b'.ops).getD (k).toNat default))→0≤(((b'.ops).getD (k).toNat default)).y∧(((b'.ops).getD (k).toNat default)).y< (T.1.length:Int):=fun c=>⟨(op.y1 c).1,by have:=(op.y1 c).2.1;omega⟩
  have P:=hp1 _ T.1 op.kd a2 a3
  rw [hf1 _ T.1 op.kd a2 a3,hT,s,r h]
  refine⟨by omega,h1,by omega,fun c=>⟨h1,h,P,by omega,⟨by omega,by omega,?_⟩,by omega⟩,fun c=>⟨⟨by omega,by omega,?_⟩,by omega⟩⟩
  ·rw [if_pos c,List.map_append];exact⟨rfl,rfl⟩
  ·rw [c,if_neg (by decide)];exact⟨rfl,rfl⟩
 ·have ex:=ex h
  have ey:=ey h
  rw [fin h]at ex ey ⊢
  unfold bk7 KJ
  refine⟨fun c=>⟨(ex c).1,(ex c).2,(ex c).1,(ex c).2,fun c2=>⟨(ey c2).1,(ey c2).2,(ey c2).1,(ey c2).2,?_⟩,fun c2=> ?_⟩,fun c=>⟨fun c2=>⟨(ey c2).1,(ey c2).2,(ey c2).1,(ey c2).2,?_⟩,fun c2=> ?_⟩⟩
  ·rw [if_neg c,if_pos (by omega)]
  ·rw [if_neg c,if_neg (by have:=en.f;omega)]
  ·exact absurd c2 (by omega)
  ·rw [if_pos c,if_neg (by omega)]
theorem aio {p1:Blk×Unit→Bool} {f1:Blk×Unit→Bool×Unit} (hp1:∀b,b.ops.length<1000000000→p1 (b,())=true) (hf1:∀b,b.ops.length<1000000000→f1 (b,())=(bp (bI b),())) {p2:Blk×Unit→Bool} {f2:Blk×Unit→List Bool×Unit} (hp2:∀b,b.ops.length<1000000→p2 (b,())=true) (hf2:∀b,b.ops.length<1000000→f2 (b,())=(Cx b,())) {p3:Blk×List Bool×Unit→Bool} {f3:Blk×List Bool×Unit→Int×Int×Int×Int×Int×Int×List IOp×Unit} (hp3:∀b kp,bI b→kp.length=b.ops.length→p3 (b,kp,())=true) (hf3:∀b kp,bI b→kp.length=b.ops.length→f3 (b,kp,())=bk7 (gM b kp)) (b:Blk) (hb:b.ops.length<1000000):Qu (std 0) p1 f1 p2 f2 p3 f3 (b,()) (fun y=>y=bk7 (fK b)):=by
 dsimp only [Qu,Alg.cl,Alg.cg,Alg.rb,Alg.bd,Alg.l1,Tup.q,Tup.o]
 simp (disch:=omega) only [RR,RB,hp1 b (by omega),hf1 b (by omega),hp2 b hb,hf2 b hb]
 unfold fK Cx
 refine⟨fun h=>by rw [h,if_neg (by decide)];rfl,fun h=> ?_⟩
 have ok:=bM.1 h
 rw [if_pos h,if_pos h,hf3 _ _ ok (uP b _)]
 exact⟨hp3 _ _ ok (uP b _),rfl⟩
theorem aip {p1:Blk×Unit→Bool} {f1:Blk×Unit→Bool×Unit} (hp1:∀b,b.ops.length<1000000000→p1 (b,())=true) (hf1:∀b,b.ops.length<1000000000→f1 (b,())=(bp (bI b),())) {p2:Blk×List Bool×Unit→Bool} {f2:Blk×List Bool×Unit→Int×Int×Int×Int×Int×Int×List IOp×Unit} (hp2:∀b kp,bI b→kp.length=b.ops.length→p2 (b,kp,())=true) (hf2:∀b kp,bI b→kp.length=b.ops.length→f2 (b,kp,())=bk7 (gM b kp)) {p3:List IOp×Int×Unit→Bool} {f3:List IOp×Int×Unit→Bool×Unit} (hp3:∀ops k,0≤k→k<ops.length→(ops.length:Int)<1000000→p3 (ops,k,())=true) (hf3:∀ops k,0≤k→k<ops.length→(ops.length:Int)<1000000→f3 (ops,k,())=(iH (ops.drop (k.toNat+1)) (((ops).getD (k).toNat default)).k,())) (b:Blk) (hb:b.ops.length<1000000):Qy (std 0) p1 f1 p2 f2 p3 f3 (b,()) (fun y=>y=bk7 (gW b)):=by
 dsimp only [Qy,Alg.cl,Alg.cg,Alg.rb,Alg.bd,Alg.l1,Tup.q,Tup.o]
 simp (disch:=omega) only [RR,RB,hp1 b (by omega),hf1 b (by omega)]
 unfold gW
 refine⟨fun h=>by rw [h,if_neg (by decide)];rfl,fun h=> ?_⟩
 have ok:=bM.1 h
 rw [if_pos h]
 have kl:(dO b.ops).length=b.ops.length:=by unfold dO;rw [List.length_map,List.length_range]
 refine au (fun(y:Int×Blk×Int×Int×Int×Int×Int×Int×List Bool×Unit)=>0≤y.1∧y.1≤b.ops.length∧y.2.1=b∧y.2.2.2.2.2.2.2.2.1=(dO b.ops).take y.1.toNat) (fun y=>((b.ops.length:Int)-y.1).toNat) ⟨by dsimp only;omega,by dsimp only;omega,rfl,rfl⟩ ?_
 rintro⟨(k:Int),(b':Blk),u1,u2,u3,u4,u5,u6,(kp:List Bool),⟨⟩⟩ hI
 dsimp only at hI ⊢
 obtain⟨h1,h2,rfl,rfl⟩:=hI
 have tl:((dO b'.ops).take k.toNat).length=k.toNat:=by rw [List.length_take];omega
 simp (disch:=omega) only [RR,RB,List.length_append,List.length_cons,List.length_nil,tl]
 refine⟨fun h=>⟨h1,h,Or.inr (hp3 _ _ h1 h (by omega)),by omega,⟨by omega,by omega,?_⟩,by omega⟩,fun h=> ?_⟩
 ·rw [hf3 _ _ h1 h (by omega),show(k+1).toNat=k.toNat+1 by omega,List.take_succ_eq_append_getElem (by omega),←getD_lt (d:=default) (show k.toNat< (dO b'.ops).length by omega),wm (by omega)]
  refine congrArg (fun x=>(dO b'.ops).take k.toNat++ [x]) ?_
  rw [Bool.not_and]
 ·rw [List.take_of_length_le (by omega),hf2 _ _ ok kl]
  exact⟨hp2 _ _ ok kl,rfl⟩
theorem aiq {ops:List IOp} {len:Int} {k n:Nat} {o:IOp} (ho:AB ops len k o) (h:k≤n):ren (cpS ops k).1 o=ren (cpS ops n).1 o:=by
 have l:=(rz ops k).1
 have e:∀x:Int,Vl ops x k→(((cpS ops k).1).getD (x).toNat default)=(((cpS ops n).1).getD (x).toNat default):=fun x v=>by
  have g0:=v.1
  have g1:=v.2.1
  exact(R5 ops (by omega) h).symm
 have ox:=ho.x1
 have oy:=ho.y1
 unfold ren
 congr 1
 ·split
  ·rename_i c;exact e _ (ox c)
  ·rfl
 ·split
  ·rename_i c;exact e _ (oy c)
  ·rfl
theorem air {p1:Blk×Unit→Bool} {f1:Blk×Unit→Bool×Unit} (hp1:∀b,b.ops.length<1000000000→p1 (b,())=true) (hf1:∀b,b.ops.length<1000000000→f1 (b,())=(bp (bI b),())) {p2:IOp×List Int×Unit→Bool} {f2:IOp×List Int×Unit→IOp×Unit} (hp2:∀o al,(1≤o.kind∧o.kind≤8)→(hX o→0≤o.x∧o.x< (al.length:Int))→(hY o→0≤o.y∧o.y< (al.length:Int))→p2 (o,al,())=true) (hf2:∀o al,(1≤o.kind∧o.kind≤8)→(hX o→0≤o.x∧o.x< (al.length:Int))→(hY o→0≤o.y∧o.y< (al.length:Int))→f2 (o,al,())=(ren al o,())) {p3:Blk×Unit→Bool} {f3:Blk×Unit→Int×Int×Int×Int×Int×Int×List IOp×Unit} (hp3:∀b,b.ops.length<1000000→p3 (b,())=true) (hf3:∀b,b.ops.length<1000000→f3 (b,())=(b.pc,b.len,b.fin,b.x,b.y,b.k,b.ops,())) (b:Blk) (hb:b.ops.length<1000000):Qp (std 0) p1 f1 p2 f2 p3 f3 (b,()) (fun y=>y=bk7 (bB b)):=by
 dsimp only [Qp,Alg.cl,Alg.cg,Alg.rb,Alg.bd,Alg.l1,Tup.q,Tup.o]
 simp (disch:=omega) only [RR,RB,hp1 b (by omega),hf1 b (by omega),hp3 b hb,hf3 b hb,Ay]
 unfold bB
 refine⟨fun h=>by rw [h,if_neg (by decide)];rfl,fun h=> ?_⟩
 have ok:=bM.1 h
 rw [if_pos h]
 have n48:=ok.sz
 refine au (fun(y:Int×Int×Int×Int×Int×Int×Int×Int×Int×Int×Int×Int×Int×List Int×List Int×List IOp×Unit)=>0≤y.1∧y.1≤b.ops.length∧y.2.2.2.2.2.2.2=(b.pc,b.len,b.fin,b.x,b.y,b.k,(cpS b.ops y.1.toNat).1,(cpS b.ops y.1.toNat).2,(b.ops.take y.1.toNat).map (ren (cpS b.ops b.ops.length).1)++b.ops.drop y.1.toNat,())) (fun y=>((b.ops.length:Int)-y.1).toNat) ⟨by dsimp only;omega,by dsimp only;omega,rfl⟩ ?_
 rintro⟨(k:Int),u1,u2,u3,u4,u5,u6,b1,b2,b3,b4,b5,b6,(al:List Int),(la:List Int),(ops:List IOp),⟨⟩⟩ hI
 dsimp only at hI ⊢
 simp only [Prod.mk.injEq,and_true]at hI
 obtain⟨h1,h2,rfl,rfl,rfl,rfl,rfl,rfl,rfl,rfl,rfl⟩:=hI
 obtain⟨l1,l2⟩:=rz b.ops k.toNat
 have r:=fun h:k<b.ops.length=>aiq (ops:=b.ops) (k:=k.toNat) (n:=b.ops.length) (by rw [show((k.toNat:Nat):Int)=k by omega];exact ok.op k h1 h) (by omega)
 have fl:((b.ops.take k.toNat).map (ren (cpS b.ops b.ops.length).1)).length=k.toNat:=by rw [List.length_map,List.length_take];omega
 have ln:=wz (l:=b.ops) fl (by omega)
 have ek:=fun h:k<b.ops.length=>KM (d:=default) (l:=b.ops) fl (by omega)
 have ms:=fun x (h:k<b.ops.length)=>wu (x:=x) (l:=b.ops) fl (by omega)
 have tk:=fun h:k<b.ops.length=>(iM (d:=default) (l:=b.ops) h1 h rfl)
 have nx:k<b.ops.length→cpS b.ops (k+1).toNat=((cpS b.ops k.toNat).1++ [cpN (cpS b.ops k.toNat) k ((b.ops).getD (k).toNat default)],cpL (cpS b.ops k.toNat) k ((b.ops).getD (k).toNat default)):=fun h=>by
  rw [show(k+1).toNat=k.toNat+1 by omega,show k=((k.toNat:Nat):Int) by omega];rfl
 have fin:¬k<b.ops.length→cpS b.ops k.toNat=cpS b.ops b.ops.length:=fun h=>by rw [show k.toNat=b.ops.length by omega]
 have en:=ok.en
 by_cases h:k<b.ops.length
 ·have o:=ok.op k h1 h
  have r:=r h
  have ek:=ek h
  have nx:=nx h
  have ms:=fun x=>ms x h
  have tk:=tk h
  have a2:hX (((b.ops).getD (k).toNat default))→0≤(((b.ops).getD (k).toNat default)).x∧(((b.ops).getD (k).toNat default)).x< ((cpS b.ops k.toNat).1.length:Int):=fun c=>⟨(o.x1 c).1,by have:=(o.x1 c).2.1;omega⟩
  have a3:hY (((b.ops).getD (k).toNat default))→0≤(((b.ops).getD (k).toNat default)).y∧(((b.ops).getD (k).toNat default)).y< ((cpS b.ops k.toNat).1.length:Int):=fun c=>⟨(o.y1 c).1,by have:=(o.y1 c).2.1;omega⟩
  have P:=hp2 _ _ o.kd a2 a3
  have F:=hf2 _ _ o.kd a2 a3
  have kd:=o.k2
  have rx:(((b.ops).getD (k).toNat default)).kind=8→(ren (cpS b.ops b.ops.length).1 ((b.ops).getD (k).toNat default)).x=(((cpS b.ops k.toNat).1).getD ((((b.ops).getD (k).toNat default)).x).toNat default):=fun c=>by rw [←r];exact if_pos (by unfold hX;omega)
  rw [r]at F
  generalize hN:(cpS b.ops b.ops.length).1=N at*
  generalize hT:cpS b.ops (k+1).toNat=T at nx ⊢
  generalize cpS b.ops k.toNat=S at*
  simp (disch:=omega) only [RR,RB,ln,ek,P,F,ms,List.length_append,List.length_cons,List.length_nil,List.length_set,Ay,h]
  generalize hq:((b.ops).getD (k).toNat default)=q at*
  have rk:(ren N q).kind=q.kind:=rfl
  have rkk:(ren N q).k=q.k:=rfl
  generalize hR:ren N q=R at*
  have G:∀v w,v=cpN S k q→w=cpL S k q→(b.pc,b.len,b.fin,b.x,b.y,b.k,S.1++ [v],w,((b.ops.take k.toNat).map (ren N)++ [R])++b.ops.drop (k.toNat+1),())=(b.pc,b.len,b.fin,b.x,b.y,b.k,T.1,T.2,(b.ops.take (k+1).toNat).map (ren N)++b.ops.drop (k+1).toNat,()):=fun v w e1 e2=>by
   rw [nx,e1,e2,←tk,List.map_append,show(k+1).toNat=k.toNat+1 by omega,←hR];rfl
  have ss:∀i:Int,0≤i→i<S.2.length→S.2.set i.toNat ((S.2).getD (i).toNat default)=S.2:=fun i i0 i1=>by rw [getD_lt (show i.toNat<S.2.length by omega),List.set_getElem_self]
  by_cases c2:R.kind=2
  ·have kk:=kd (Or.inl (rk▸c2))
   by_cases c3:0≤((S.2).getD (R.k).toNat default)
   ·have g:=G (((S.2).getD (R.k).toNat default)) (S.2.set R.k.toNat ((S.2).getD (R.k).toNat default)) (by unfold cpN;rw [←rk,←rkk];rw [if_pos ⟨c2,c3⟩]) (by unfold cpL;rw [←rk,←rkk];rw [if_pos c2,if_pos c3,ss _ (by omega) (by omega)])
    simp only [c2,c3,show¬((2:Int)=8) by decide,true_and,and_true,true_implies,false_implies,not_true_eq_false,not_false_eq_true,false_or,decide_true,Bool.and_self,Bool.true_eq_false,hT,g]
    omega
   ·have g:=G k (S.2.set R.k.toNat k) (by unfold cpN;rw [←rk,←rkk];rw [if_neg (fun q=>c3 q.2)]) (by unfold cpL;rw [←rk,←rkk];rw [if_pos c2,if_neg c3])
    simp only [c2,c3,show¬((2:Int)=8) by decide,true_and,and_true,and_false,true_implies,false_implies,not_true_eq_false,not_false_eq_true,false_or,decide_true,decide_false,Bool.and_false,hT,g]
    omega
  ·by_cases c8:R.kind=8
   ·have kk:=kd (Or.inr (rk▸c8))
    have g:=G k (S.2.set R.k.toNat ((S.1).getD (q.x).toNat default)) (by unfold cpN;rw [←rk,←rkk];rw [if_neg (fun q=>c2 q.1)]) (by unfold cpL;rw [←rk,←rkk];rw [if_neg c2,if_pos c8])
    rw [←rx (rk▸c8)]at g
    simp only [c8,show¬((8:Int)=2) by decide,false_and,true_and,and_true,and_false,true_implies,false_implies,not_true_eq_false,not_false_eq_true,true_or,decide_false,Bool.false_and,hT,g]
    omega
   ·have g:=G k S.2 (by unfold cpN;rw [←rk,←rkk];rw [if_neg (fun q=>c2 q.1)]) (by unfold cpL;rw [←rk,←rkk];rw [if_neg c2,if_neg c8])
    simp only [c2,c8,false_and,true_and,and_true,and_false,true_implies,false_implies,not_true_eq_false,not_false_eq_true,true_or,decide_false,Bool.false_and,hT,g]
    omega
 ·have e:=fin h
  have ex:¬b.fin=1→0≤b.x∧b.x< ((cpS b.ops k.toNat).1.length:Int):=fun c=>by have:=en.x1 c;exact⟨this.1,by have:=this.2.1;omega⟩
  have ey:b.fin=3∨b.fin=4→0≤b.y∧b.y< ((cpS b.ops k.toNat).1.length:Int):=fun c=>by have:=en.y1 (by omega);exact⟨this.1,by have:=this.2.1;omega⟩
  have ff:=en.f
  have z:(b.ops.take k.toNat).map (ren (cpS b.ops b.ops.length).1)++b.ops.drop k.toNat=b.ops.map (ren (cpS b.ops b.ops.length).1):=by rw [List.take_of_length_le (by omega),List.drop_of_length_le (by omega),List.append_nil]
  have ln:(b.ops.map (ren (cpS b.ops b.ops.length).1)).length=b.ops.length:=List.length_map _
  rw [z]
  rw [e]at ex ey ⊢
  unfold bk7 KJ
  generalize (cpS b.ops b.ops.length).1=N at*
  simp (disch:=omega) only [RR,RB,ln,h]
  refine⟨fun c=>⟨(ex c).1,(ex c).2,(ex c).1,(ex c).2,fun c2=>⟨(ey c2).1,(ey c2).2,(ey c2).1,(ey c2).2,?_⟩,fun c2=> ?_⟩,fun c=>⟨fun c2=>absurd c2 (by omega),fun c2=> ?_⟩⟩
  ·rw [if_neg c,if_pos (by omega)]
  ·rw [if_neg c,if_neg (by omega)]
  ·rw [if_pos c,if_neg (by omega)]
end Go.TX.F
namespace Go.TX.F
open Go Go.AE Go.TX
structure BkD (m:Int) (n:Nat) (b:List Int) (p:Int) (y:Int×Int×Int×Int×Int×Int×List Int×Int×List IOp×Unit):Prop where
 b:y.2.2.2.2.2.2.1=b
 lo:p≤y.2.2.2.2.2.2.2.1
 hi:y.2.2.2.2.2.2.2.1≤p+m
 len:y.2.2.2.2.2.2.2.2.1.length≤n
theorem ais {p1:Int×List Ins×Unit→Bool} {f1:Int×List Ins×Unit→Int×Int×Int×Int×Int×Int×List IOp×Unit} (hp1:∀pc l,(l.length:Int)<1000→KB l→p1 (pc,l,())=true) (hf1:∀pc l,(l.length:Int)<1000→KB l→((f1 (pc,l,())).2.2.2.2.2.2.1.length:Int)≤5000) {p2:Blk×Unit→Bool} {f2:Blk×Unit→Int×Int×Int×Int×Int×Int×List IOp×Unit} (hp2:∀b,b.ops.length<1000000→p2 (b,())=true) (hf2:∀b,b.ops.length<1000000→f2 (b,())=bk7 (kE b)) {p3:Blk×Unit→Bool} {f3:Blk×Unit→Int×Int×Int×Int×Int×Int×List IOp×Unit} (hp3:∀b,b.ops.length<1000000→p3 (b,())=true) (hf3:∀b,b.ops.length<1000000→f3 (b,())=bk7 (bB b)) {p4:Int×List Int×Int×Unit→Bool} {f4:Int×List Int×Int×Unit→Int×List Int×Int×Unit} (hp4:∀n b p,Bt b→0≤p→p<1000000000→p4 (n,b,p,())=true) (hf4:∀n b p,Bt b→0≤p→p<1000000000→Pk n b p (f4 (n,b,p,()))) {p5:List Int×Int×Unit→Bool} {f5:List Int×Int×Unit→List Int×Int×List Ins×Unit} (hp5:∀b p,Bt b→0≤p→p<700000000→p5 (b,p,())=true) (hf5:∀b p,Bt b→0≤p→p<700000000→LiD b p (f5 (b,p,()))) (b:List Int) (p:Int) (hb:Bt b) (h1:0≤p) (h2:p<600000000):Rj (std 0) p1 f1 p2 f2 p3 f3 p4 f4 p5 f5 (b,p,()) (fun y=>BkD 2000 5000 b p y):=by
 replace hf2:=fun c h=>show(f2 (c,())).2.2.2.2.2.2.1.length≤c.ops.length by rw [hf2 c h];exact AJ c
 replace hf3:=fun c h=>show(f3 (c,())).2.2.2.2.2.2.1.length≤c.ops.length by rw [hf3 c h];exact rD c
 obtain⟨a1,a2,a3,a4,a5⟩:=hf5 b p hb h1 (by omega)
 have R:=pkR hb hf4
 have P:=fun n p h1 h2=>hp4 n b p hb h1 h2
 have L:=fun pc=>hf1 pc _ (show((f5 (b,p,())).2.2.1.length:Int)<1000 by omega) a5
 have O1:=fun c (h:c.ops.length≤5000)=>hp2 c (by omega)
 have O2:=fun c (h:c.ops.length≤5000)=>hf2 c (by omega)
 have O3:=fun c (h:c.ops.length≤5000)=>hp3 c (by omega)
 have O4:=fun c (h:c.ops.length≤5000)=>hf3 c (by omega)
 dsimp only [Rj,Alg.cl,Alg.cg,Alg.rb,Alg.bd,Alg.l1,Tup.q,Tup.o]
 simp (disch:=omega) only [RR,hp5 b p hb h1 (by omega),a1,R,P,hp1 _ _ (show((f5 (b,p,())).2.2.1.length:Int)<1000 by omega) a5,List.length_cons,List.length_nil]
 have L':∀pc,(f1 (pc,(f5 (b,p,())).2.2.1,())).2.2.2.2.2.2.1.length≤5000:=fun pc=>by have:=L pc;omega
 refine⟨fun _=>⟨O1 _ (L' _),rfl,by dsimp only;omega,by dsimp only;omega,Nat.le_trans (O2 _ (L' _)) (L' _)⟩,fun _=>⟨fun _=>⟨O3 _ (L' _),rfl,by dsimp only;omega,by dsimp only;omega,Nat.le_trans (O4 _ (L' _)) (L' _)⟩,fun _=>⟨rfl,by dsimp only;omega,by dsimp only;omega,L' _⟩⟩⟩
end Go.TX.F
namespace Go.TX.F
open Go Go.AE Go.TX
theorem ait {p1:Int×List Int×Int×Unit→Bool} {f1:Int×List Int×Int×Unit→Int×List Int×Int×Unit} (hp1:∀n b p,Bt b→0≤p→p<1000000000→p1 (n,b,p,())=true) (hf1:∀n b p,Bt b→0≤p→p<1000000000→Pk n b p (f1 (n,b,p,()))) {p2:Blk×Unit→Bool} {f2:Blk×Unit→Int×Int×Int×Int×Int×Int×List IOp×Unit} (hp2:∀b,b.ops.length<1000000→p2 (b,())=true) (hf2:∀b,b.ops.length<1000000→f2 (b,())=(b.pc,b.len,b.fin,b.x,b.y,b.k,b.ops,())) (c:Blk) (b:List Int) (p:Int) (hc:c.ops.length<1000000) (hb:Bt b) (h1:0≤p) (h2:p<900000000):Kq (std 0) p1 f1 p2 f2 (c,b,p,()) (fun y=>BkD 20 c.ops.length b p y):=by
 have R:=pkR hb hf1
 have P:=fun n p h1 h2=>hp1 n b p hb h1 h2
 by_cases z:(c.ops.length:Int)=0
 ·dsimp only [Kq,Alg.cl,Alg.cg,Alg.rb,Alg.bd,Alg.l1,Tup.q,Tup.o]
  simp (disch:=omega) only [RR,RB,hp2 c hc,hf2 c hc,z]
  exact⟨rfl,by dsimp only;omega,by dsimp only;omega,Nat.le_refl _⟩
 have B:=(hf1 c.ops.length b p hb h1 (by omega)).2.2
 have W:IntKind.i64.wrap ((f1 (c.ops.length,b,p,())).1-1)=(f1 (c.ops.length,b,p,())).1-1:=w64 (by omega) (by omega)
 dsimp only [Kq,Alg.cl,Alg.cg,Alg.rb,Alg.bd,Alg.l1,Tup.q,Tup.o]
 simp (disch:=omega) only [RR,RB,hp2 c hc,hf2 c hc,R,P,z,List.length_set,W]
 repeat' (first | (refine And.intro ?_ ?_) | intro _)
 all_goals first | omega | exact⟨rfl,by dsimp only;omega,by dsimp only;omega,by dsimp only [Zv];simp only [List.length_set,List.length_take,List.length_drop];omega⟩ | exact⟨rfl,by dsimp only;omega,by dsimp only;omega,by simp only [List.length_drop,List.length_take];omega⟩ | exact⟨rfl,by dsimp only;omega,by dsimp only;omega,Nat.le_refl _⟩
structure BoD (b:List Int) (p:Int) (y:Blk×List Int×Int×Unit):Prop where
 len:y.1.ops.length<100000
 b:y.2.1=b
 lo:p≤y.2.2.1
 hi:y.2.2.1≤p+5000
theorem aiu {p1:Int×List Int×Int×Unit→Bool} {f1:Int×List Int×Int×Unit→Bool×List Int×Int×Unit} (hp1:∀n b p,Bt b→0≤p→p<1000000000→p1 (n,b,p,())=true) (hf1:∀n b p,Bt b→0≤p→p<1000000000→(f1 (n,b,p,())).2.1=b∧(f1 (n,b,p,())).2.2.1=p+1) {p2:Int×List Int×Int×Unit→Bool} {f2:Int×List Int×Int×Unit→Int×List Int×Int×Unit} (hp2:∀n b p,Bt b→0≤p→p<1000000000→p2 (n,b,p,())=true) (hf2:∀n b p,Bt b→0≤p→p<1000000000→Pk n b p (f2 (n,b,p,()))) {p3:Blk×List Int×Int×Unit→Bool} {f3:Blk×List Int×Int×Unit→Int×Int×Int×Int×Int×Int×List Int×Int×List IOp×Unit} (hp3:∀c b p,c.ops.length<1000000→Bt b→0≤p→p<900000000→p3 (c,b,p,())=true) (hf3:∀c b p,c.ops.length<1000000→Bt b→0≤p→p<900000000→BkD 20 c.ops.length b p (f3 (c,b,p,()))) {p4:List Int×Int×Unit→Bool} {f4:List Int×Int×Unit→Int×Int×Int×Int×Int×Int×List Int×Int×List IOp×Unit} (hp4:∀b p,Bt b→0≤p→p<600000000→p4 (b,p,())=true) (hf4:∀b p,Bt b→0≤p→p<600000000→BkD 2000 5000 b p (f4 (b,p,()))) (n:Int) (b:List Int) (p:Int) (hb:Bt b) (h1:0≤p) (h2:p<500000000):Rk (std 0) p1 f1 p2 f2 p3 f3 p4 f4 (n,b,p,()) (fun y=>BoD b p y):=by
 obtain⟨a1,a2,a3,a4⟩:=hf4 b p hb h1 (by omega)
 have H4:=hp4 b p hb h1 (by omega)
 have R:=pkR hb hf2
 have P:=fun n p h1 h2=>hp2 n b p hb h1 h2
 have R1:=fun n p h1 h2=>(hf1 n b p hb h1 h2).1
 have R2:=fun n p h1 h2=>(hf1 n b p hb h1 h2).2
 have P1:=fun n p h1 h2=>hp1 n b p hb h1 h2
 dsimp only [Rk,Alg.cl,Alg.cg,Alg.rb,Alg.bd,Alg.l1,Tup.q,Tup.o]
 simp (disch:=omega) only [RR,RB,H4,a1,R,P,R1,R2,P1,List.length_cons,List.length_nil,List.length_append]
 repeat' (first | (refine And.intro ?_ ?_) | intro _)
 all_goals try omega
 all_goals try exact BoD.mk (show(f4 (b,p,())).2.2.2.2.2.2.2.2.1.length<100000 by omega) rfl (by dsimp only;omega) (by dsimp only;omega)
 all_goals try exact hp3 _ _ _ (show(f4 (b,p,())).2.2.2.2.2.2.2.2.1.length<1000000 by omega) hb (by omega) (by omega)
 all_goals try exact BoD.mk (show(_++ [_]).length<100000 by rw [List.length_append,List.length_singleton];omega) rfl (by dsimp only;omega) (by dsimp only;omega)
 all_goals try exact(fun h=>BoD.mk (Nat.lt_of_le_of_lt h.len (show(f4 (b,p,())).2.2.2.2.2.2.2.2.1.length<100000 by omega)) h.b (by have:=h.lo;dsimp only;omega) (by have:=h.hi;dsimp only;omega)) (hf3 _ _ _ (show(f4 (b,p,())).2.2.2.2.2.2.2.2.1.length<1000000 by omega) hb (by omega) (by omega))
 all_goals
  refine au (fun(y:List Int×Int×Int×Int×Int×Int×Int×Int×Int×Int×Int×Int×Int×Int×List IOp×Unit)=>y.1=b∧p≤y.2.1∧y.2.1≤p+5000∧y.2.2.2.2.2.2.2.2.2.2.2.2.2.2.1.length<50000) (fun y=>50-y.2.2.2.2.2.2.2.2.2.2.2.2.2.2.1.length) ⟨rfl,by dsimp only;omega,by dsimp only;omega,by dsimp only;omega⟩ ?_
  rintro⟨(b':List Int),(q:Int),u1,u2,u3,u4,u5,u6,b1,b2,b3,b4,b5,b6,(ops:List IOp),⟨⟩⟩ hI
  dsimp only at hI ⊢
  obtain⟨rfl,h3,h4,h5⟩:=hI
  simp (disch:=omega) only [RR,List.length_append,List.length_cons,List.length_nil]
  refine⟨fun h=>⟨by omega,⟨by omega,by omega,by omega⟩,by omega⟩,fun h=>⟨show ops.length<100000 by omega,rfl,by dsimp only;omega,by dsimp only;omega⟩⟩
end Go.TX.F
namespace Go.TX.F
open Go Go.AE Go.TX
end Go.TX.F
namespace Go.TX.F
open Go Go.AE Go.TX
end Go.TX.F
namespace Go.TX.F
open Go Go.AE Go.TX
end Go.TX.F
namespace Go.TX.F
open Go Go.AE Go.TX
theorem aoN (x y:IOp):akz .iop x y=decide (x=y):=rfl
theorem Sj {P:Prop} [Decidable P]:decide P=bp P:=by unfold bp;congr
theorem aaj (a b:List IOp) (ha:a.length<1000000000):Rm (std 0) (a,b,()) (fun y=>y=(bp (a=b),())):=by
 dsimp only [Rm,Alg.cl,Alg.cg,Alg.rb,Alg.bd,Alg.l1,Tup.q,Tup.o]
 simp (disch:=omega) only [RR]
 refine⟨fun h=> ?_,fun h=> ?_⟩
 ·rw [iB (fun e=>h (by rw [e]))]
 have hl:a.length=b.length:=by omega
 refine au (fun(y:List IOp×List IOp×Int×Int×Unit)=>y.1=a∧y.2.1=b∧y.2.2.1=a.length∧0≤y.2.2.2.1∧y.2.2.2.1≤a.length∧All y.2.2.2.1 (fun i=>a.getD i.toNat default=b.getD i.toNat default)) (fun y=>(a.length-y.2.2.2.1).toNat) ⟨rfl,rfl,rfl,by simp,by simp,All.zero⟩ ?_
 rintro⟨(l1:List IOp),(l2:List IOp),(n:Int),(i:Int),⟨⟩⟩ hI
 dsimp only at hI ⊢
 obtain⟨rfl,rfl,rfl,h1,h2,h3⟩:=hI
 simp (disch:=omega) only [RR,aoN]
 refine⟨fun h4=>⟨by omega,by omega,by omega,by omega,fun h5=> ?_,fun h5=>⟨⟨by omega,by omega,h3.snoc h5⟩,by omega⟩⟩,fun h4=> ?_⟩
 ·rw [iB]
  intro e;rw [e]at h5;exact h5 rfl
 ·rw [dH (Cu hl (h3.le (by omega)))]
theorem aoO {p1:List IOp×List IOp×Unit→Bool} {f1:List IOp×List IOp×Unit→Bool×Unit} (hp1:∀a b,a.length<1000000000→p1 (a,b,())=true) (hf1:∀a b,a.length<1000000000→f1 (a,b,())=(bp (a=b),())) (a b:Blk) (ha:a.ops.length<1000000000):X4 (std 0) p1 f1 (a,b,()) (fun y=>y=(bp (a=b),())):=by
 dsimp only [X4,Alg.cl,Alg.cg,Alg.rb,Alg.bd,Alg.l1,Tup.q,Tup.o]
 simp (disch:=omega) only [RR,RB,hp1 _ _ ha,hf1 _ _ ha]
 simp only [Sj,←uH]
 refine Prod.ext (uI ?_) rfl
 cases a;cases b;simp only [Blk.mk.injEq]
 constructor<;>(intro h;simp only [h,and_self])
theorem aoP {p1:List aj×List aj×Unit→Bool} {f1:List aj×List aj×Unit→Bool×Unit} (hp1:∀a b,Sh a→p1 (a,b,())=true) (hf1:∀a b,Sh a→f1 (a,b,())=(decide (iT a b=0),())) (a b:List aj) (ha:Sh a):Ze (std 0) p1 f1 (a,b,()) (fun y=>y=(decide (iT a b=0),())):=by
 dsimp only [Ze,Alg.cl,Alg.cg,Alg.rb,Alg.bd,Alg.l1,Tup.q,Tup.o]
 simp (disch:=omega) only [RR,hp1 _ _ ha,hf1 _ _ ha]
theorem aiv {p1:List aj×List aj×Unit→Bool} {f1:List aj×List aj×Unit→Bool×Unit} (hp1:∀a b,Sh a→p1 (a,b,())=true) (hf1:∀a b,Sh a→f1 (a,b,())=(decide (iT a b=0),())) (a b:List (List aj)) (ha:ShP a):RO (std 0) p1 f1 (a,b,()) (fun y=>y=(bp (a=b),())):=by
 have hlen:=ha.1
 dsimp only [RO,Alg.cl,Alg.cg,Alg.rb,Alg.bd,Alg.l1,Tup.q,Tup.o]
 simp (disch:=omega) only [RR]
 refine⟨fun h=> ?_,fun h=> ?_⟩
 ·rw [iB (fun e=>h (by rw [e]))]
 have hl:a.length=b.length:=by omega
 refine au (fun(y:List (List aj)×List (List aj)×Int×Int×Unit)=>y.1=b∧y.2.1=a∧y.2.2.1=a.length∧0≤y.2.2.2.1∧y.2.2.2.1≤a.length∧All y.2.2.2.1 (fun i=>a.getD i.toNat default=b.getD i.toNat default)) (fun y=>(a.length-y.2.2.2.1).toNat) ⟨rfl,rfl,rfl,by simp,by simp,All.zero⟩ ?_
 rintro⟨(l1:List (List aj)),(l2:List (List aj)),(n:Int),(i:Int),⟨⟩⟩ hI
 dsimp only at hI ⊢
 obtain⟨rfl,rfl,rfl,h1,h2,h3⟩:=hI
 simp (disch:=omega) only [RR,hp1 _ _ (ha.at _),hf1 _ _ (ha.at _),mh]
 refine⟨fun h4=>⟨by omega,by omega,by omega,by omega,fun h5=> ?_,fun h5=>⟨⟨by omega,by omega,h3.snoc h5⟩,by omega⟩⟩,fun h4=> ?_⟩
 ·rw [iB]
  intro e;rw [e]at h5;exact h5 rfl
 ·rw [dH (Cu hl (h3.le (by omega)))]
theorem aoQ {p1:List (List aj)×List (List aj)×Unit→Bool} {f1:List (List aj)×List (List aj)×Unit→Bool×Unit} (hp1:∀a b,ShP a→p1 (a,b,())=true) (hf1:∀a b,ShP a→f1 (a,b,())=(bp (a=b),())) (a b:List (List aj)) (ha:ShP a):Zf (std 0) p1 f1 (a,b,()) (fun y=>y=(bp (a=b),())):=by
 dsimp only [Zf,Alg.cl,Alg.cg,Alg.rb,Alg.bd,Alg.l1,Tup.q,Tup.o]
 simp (disch:=omega) only [RR,hp1 _ _ ha,hf1 _ _ ha]
theorem aoR {p1:List aj×List aj×Unit→Bool} {f1:List aj×List aj×Unit→Bool×Unit} (hp1:∀a b,Sh a→p1 (a,b,())=true) (hf1:∀a b,Sh a→f1 (a,b,())=(decide (iT a b=0),())) {p2:List (List aj)×List (List aj)×Unit→Bool} {f2:List (List aj)×List (List aj)×Unit→Bool×Unit} (hp2:∀a b,ShP a→p2 (a,b,())=true) (hf2:∀a b,ShP a→f2 (a,b,())=(bp (a=b),())) (a b:Ev) (ha:ShE a):Zg (std 0) p1 f1 p2 f2 (a,b,()) (fun y=>y=(bp (a=b),())):=by
 dsimp only [Zg,Alg.cl,Alg.cg,Alg.rb,Alg.bd,Alg.l1,Tup.q,Tup.o]
 simp (disch:=omega) only [RR,RB,hp1 _ _ ha.1,hf1 _ _ ha.1,hp1 _ _ ha.2.1,hf1 _ _ ha.2.1,hp2 _ _ ha.2.2,hf2 _ _ ha.2.2,mh]
 simp only [Sj,←uH]
 refine Prod.ext (uI ?_) rfl
 cases a;cases b;simp only [Ev.mk.injEq]
 constructor<;>(intro h;simp only [h,and_self])
theorem aiw {p1:Ev×Ev×Unit→Bool} {f1:Ev×Ev×Unit→Bool×Unit} (hp1:∀a b,ShE a→p1 (a,b,())=true) (hf1:∀a b,ShE a→f1 (a,b,())=(bp (a=b),())) (a b:List Ev) (ha:Wd a):RP (std 0) p1 f1 (a,b,()) (fun y=>y=(bp (a=b),())):=by
 have hlen:=ha.1
 dsimp only [RP,Alg.cl,Alg.cg,Alg.rb,Alg.bd,Alg.l1,Tup.q,Tup.o]
 simp (disch:=omega) only [RR]
 refine⟨fun h=> ?_,fun h=> ?_⟩
 ·rw [iB (fun e=>h (by rw [e]))]
 have hl:a.length=b.length:=by omega
 refine au (fun(y:List Ev×List Ev×Int×Int×Unit)=>y.1=b∧y.2.1=a∧y.2.2.1=a.length∧0≤y.2.2.2.1∧y.2.2.2.1≤a.length∧All y.2.2.2.1 (fun i=>a.getD i.toNat default=b.getD i.toNat default)) (fun y=>(a.length-y.2.2.2.1).toNat) ⟨rfl,rfl,rfl,by simp,by simp,All.zero⟩ ?_
 rintro⟨(l1:List Ev),(l2:List Ev),(n:Int),(i:Int),⟨⟩⟩ hI
 dsimp only at hI ⊢
 obtain⟨rfl,rfl,rfl,h1,h2,h3⟩:=hI
 simp (disch:=omega) only [RR,hp1 _ _ (ha.at _),hf1 _ _ (ha.at _),bM,rU]
 refine⟨fun h4=>⟨by omega,by omega,by omega,by omega,fun h5=> ?_,fun h5=>⟨⟨by omega,by omega,h3.snoc h5⟩,by omega⟩⟩,fun h4=> ?_⟩
 ·rw [iB]
  intro e;rw [e]at h5;exact h5 rfl
 ·rw [dH (Cu hl (h3.le (by omega)))]
theorem aoS {p1:List aj×List aj×Unit→Bool} {f1:List aj×List aj×Unit→Bool×Unit} (hp1:∀a b,Sh a→p1 (a,b,())=true) (hf1:∀a b,Sh a→f1 (a,b,())=(decide (iT a b=0),())) {p2:List (List aj)×List (List aj)×Unit→Bool} {f2:List (List aj)×List (List aj)×Unit→Bool×Unit} (hp2:∀a b,ShP a→p2 (a,b,())=true) (hf2:∀a b,ShP a→f2 (a,b,())=(bp (a=b),())) {p3:List Ev×List Ev×Unit→Bool} {f3:List Ev×List Ev×Unit→Bool×Unit} (hp3:∀b a,Wd b→p3 (b,a,())=true) (hf3:∀b a,Wd b→f3 (b,a,())=(bp (b=a),())) (a b:Sym) (ha:ShY a):Zj (std 0) p1 f1 p2 f2 p3 f3 (a,b,()) (fun y=>y=(bp (a=b),())):=by
 dsimp only [Zj,Alg.cl,Alg.cg,Alg.rb,Alg.bd,Alg.l1,Tup.q,Tup.o]
 simp (disch:=omega) only [RR,RB,hp1 _ _ ha.x,hf1 _ _ ha.x,hp1 _ _ ha.y,hf1 _ _ ha.y,hp2 _ _ ha.r,hf2 _ _ ha.r,hp3 _ _ ha.e,hf3 _ _ ha.e,mh]
 simp only [Sj,←uH]
 refine Prod.ext (uI ?_) rfl
 cases a;cases b;simp only [Sym.mk.injEq]
 constructor<;>(intro h;simp only [h,and_self])
theorem aoT {p1:Blk×Unit→Bool} {f1:Blk×Unit→Bool×Unit} (hp1:∀b,b.ops.length<1000000000→p1 (b,())=true) (hf1:∀b,b.ops.length<1000000000→f1 (b,())=(bp (bI b),())) {p2:Blk×Blk×Unit→Bool} {f2:Blk×Blk×Unit→Bool×Unit} (hp2:∀a b,a.ops.length<1000000000→p2 (a,b,())=true) (hf2:∀a b,a.ops.length<1000000000→f2 (a,b,())=(bp (a=b),())) {p3:Unit→Bool} {f3:Unit→List Atom×List (List aj)×Unit} (hp3:p3 ()=true) (hf3:(f3 ()).1=t4) {p4:List Atom×Blk×Unit→Bool} {f4:List Atom×Blk×Unit→List Atom×Sym×Unit} (hp4:∀t b,ShT t→b.ops.length<1000000000→p4 (t,b,())=true) (hf4:∀t b,ShT t→b.ops.length<1000000000→f4 (t,b,())=((bH t b).1,(bH t b).2,())) {p5:Sym×Sym×Unit→Bool} {f5:Sym×Sym×Unit→Bool×Unit} (hp5:∀a b,ShY a→p5 (a,b,())=true) (hf5:∀a b,ShY a→f5 (a,b,())=(bp (a=b),())) (b c:Blk) (hb:b.ops.length<1000000000) (hc:c.ops.length<1000000000):Zk (std 0) p1 f1 p2 f2 p3 f3 p4 f4 p5 f5 (b,c,()) (fun y=>y=(chk b c,())):=by
 have s4:ShT t4:=ZX.1.sh
 have y1:=KH t4 b
 dsimp only [Zk,Alg.cl,Alg.cg,Alg.rb,Alg.bd,Alg.l1,Tup.q,Tup.o]
 simp (disch:=omega) only [RR,RB,hp1 b hb,hf1 b hb,hp1 c hc,hf1 c hc,hp2 b c hb,hf2 b c hb,hp3,hf3,hp4 t4 b s4 hb,hf4 t4 b s4 hb,hp4 _ c y1.2 hc,hf4 _ c y1.2 hc,hp5 _ _ y1.1,hf5 _ _ y1.1,bM,rU]
 unfold chk
 refine⟨fun h=> ?_,fun h=>⟨fun e=> ?_,fun e=> ?_⟩⟩
 ·rw [iB];rintro⟨h1,h2,h3,h4,_⟩;simp_all
 ·rw [dH];exact⟨h.1.1.1,h.1.1.2,h.1.2,h.2,Or.inl e⟩
 ·refine Prod.ext (uI ?_) rfl
  exact⟨fun g=>⟨h.1.1.1,h.1.1.2,h.1.2,h.2,Or.inr g⟩,fun g=>g.2.2.2.2.resolve_left e⟩
end Go.TX.F
namespace Go.TX.F
open Go Go.AE Go.TX
theorem mkB (p l o f x y k):Co.mk .blk (p,l,o,f,x,y,k,())=Blk.mk p l o f x y k:=rfl
structure Sk (nm:List Int) (fin x y:Int) (ops:List IOp):Prop where
 op:∀i:Int,0≤i→i<ops.length→(hX ((ops).getD (i).toNat default)→0≤(((ops).getD (i).toNat default)).x∧(((ops).getD (i).toNat default)).x<nm.length)∧(hY ((ops).getD (i).toNat default)→0≤(((ops).getD (i).toNat default)).y∧(((ops).getD (i).toNat default)).y<nm.length)
 x:fin≠1→0≤x∧x<nm.length
 y:3≤fin→0≤y∧y<nm.length
 l:ops.length<1000000000
theorem ac7 (b:Blk) (hb:b.ops.length<1000000000):XQ (std 0) (b,()) (fun y=>y=bk7 b):=by
 dsimp only [XQ,Alg.cl,Alg.cg,Alg.rb,Alg.bd,Alg.l1,Tup.q,Tup.o]
 simp (disch:=omega) only [RR,RB]
 omega
theorem ac8 (i a1 a2 a3 a4 a5 a6:Int) (ops:List IOp) (h:0≤i∧i<ops.length):Zq (std 0) (i,a1,a2,a3,a4,a5,a6,ops,()) (fun y=>y=(decide ((((ops).getD (i).toNat default)).kind=1),a1,a2,a3,a4,a5,a6,ops,())):=by
 dsimp only [Zq,Alg.cl,Alg.cg,Alg.rb,Alg.bd,Alg.l1,Tup.q,Tup.o]
 simp (disch:=omega) only [RR,RB]
 omega
theorem aoU {p1:Blk×Unit→Bool} {f1:Blk×Unit→Bool×Bool×Bool×Unit} (hp1:∀b,p1 (b,())=true) (hf1:∀b,f1 (b,())=(decide (b.fin≠1),decide (3≤b.fin),decide (b.fin≠2),())) {p2:IOp×Unit→Bool} {f2:IOp×Unit→Bool×Bool×Bool×Bool×Unit} (hp2:∀o,p2 (o,())=true) (hf2:∀o,f2 (o,())=(decide (hX o),decide (hY o),decide (hK o),decide (evO o),())) (nm:List Int) (pc len fin x y k:Int) (ops:List IOp) (h:Sk nm fin x y ops):XR (std 0) p1 f1 p2 f2 (nm,pc,len,fin,x,y,k,ops,()) (fun z=>z=(pc,len,fin,(if fin=1 then x else((nm).getD (x).toNat default)),(if 3≤fin then((nm).getD (y).toNat default)else y),k,ops.map (ren nm),())):=by
 have hl:=h.l
 dsimp only [XR,Alg.cl,Alg.cg,Alg.rb,Alg.bd,Alg.l1,Tup.q,Tup.o]
 simp (disch:=omega) only [RR,RB]
 refine au (fun(z:List Int×Int×Int×Int×Int×Int×Int×Int×Int×List IOp×Unit)=>z.1=nm∧z.2.1=ops.length∧0≤z.2.2.1∧z.2.2.1≤ops.length∧z.2.2.2=(pc,len,fin,x,y,k,(ops.take z.2.2.1.toNat).map (ren nm)++ops.drop z.2.2.1.toNat,())) (fun z=>((ops.length:Int)-z.2.2.1).toNat) ⟨rfl,rfl,by dsimp only;omega,by dsimp only;omega,rfl⟩ ?_
 rintro⟨(nm':List Int),(n:Int),(i:Int),(pc':Int),(len':Int),(fin':Int),(x':Int),(y':Int),(k':Int),(ops':List IOp),⟨⟩⟩ hI
 dsimp only at hI ⊢
 simp only [Prod.mk.injEq,and_true]at hI
 obtain⟨rfl,rfl,h1,h2,rfl,rfl,rfl,rfl,rfl,rfl,rfl⟩:=hI
 have fl:((ops.take i.toNat).map (ren nm')).length=i.toNat:=by rw [List.length_map,List.length_take];omega
 have ln:=wz (l:=ops) fl (by omega)
 by_cases c:i<ops.length
 ·obtain⟨ox,oy⟩:=h.op i h1 c
  have ek:=KM (d:=default) (l:=ops) fl (by omega)
  have ms:=fun q=>wu (x:=q) (l:=ops) fl (by omega)
  have mk:=H9 (d:=default) (f:=(ops.take i.toNat).map (ren nm')) (l:=ops) (k:=i.toNat) (by omega)
  have tk:=iM (d:=default) (l:=ops) h1 c rfl
  have m2:∀q:IOp,(((ops.take i.toNat).map (ren nm')++ [q])++ops.drop (i.toNat+1)).getD i.toNat default=q:=fun q=>by
   rw [getD_lt (by rw [List.length_append,List.length_append,fl];simp only [List.length_cons,List.length_nil];omega),List.getElem_append_left (by rw [List.length_append,fl];simp),List.getElem_append_right (by omega)];simp only [fl,Nat.sub_self,List.getElem_cons_zero]
  have m3:∀q r:IOp,(((ops.take i.toNat).map (ren nm')++ [q])++ops.drop (i.toNat+1)).set i.toNat r=((ops.take i.toNat).map (ren nm')++ [r])++ops.drop (i.toNat+1):=fun q r=>by
   rw [List.set_append_left _ _ (by rw [List.length_append,fl];simp),List.set_append_right _ _ (by omega),fl,Nat.sub_self];rfl
  have m4:∀q:IOp,(((ops.take i.toNat).map (ren nm')++ [q])++ops.drop (i.toNat+1)).length=ops.length:=fun q=>by
   rw [List.length_append,List.length_append,fl,List.length_drop];simp only [List.length_cons,List.length_nil];omega
  rw [mk]at ek ln ms ⊢
  generalize ((ops).getD (i).toNat default)=o at*
  simp (disch:=omega) only [RR,RB,hp2,hf2,m2,m3,m4,c]
  have G:∀q:IOp,q=ren nm' o→(pc',len',fin',x',y',k',(ops.take i.toNat).map (ren nm')++ [q]++ops.drop (i.toNat+1),())=(pc',len',fin',x',y',k',(ops.take (i+1).toNat).map (ren nm')++ops.drop (i+1).toNat,()):=fun q e=>by
   rw [e,←tk,List.map_append,show(i+1).toNat=i.toNat+1 by omega];rfl
  refine⟨h1,h1,fun d=>⟨(ox d).1,(ox d).2,h1,h1,fun e=>⟨(oy e).1,(oy e).2,h1,h1,⟨by omega,by omega,G _ ?_⟩,by omega⟩,fun e=>⟨⟨by omega,by omega,G _ ?_⟩,by omega⟩⟩,fun d=>⟨fun e=>⟨(oy e).1,(oy e).2,h1,h1,⟨by omega,by omega,G _ ?_⟩,by omega⟩,fun e=>⟨⟨by omega,by omega,G _ ?_⟩,by omega⟩⟩⟩
  all_goals unfold ren
  ·rw [if_pos d,if_pos e]
  ·rw [if_pos d,if_neg e]
  ·rw [if_neg d,if_pos e]
  ·rw [if_neg d,if_neg e]
 ·have hx:=h.x
  have hy:=h.y
  have z:(ops.take i.toNat).map (ren nm')++ops.drop i.toNat=ops.map (ren nm'):=by rw [List.take_of_length_le (by omega),List.drop_of_length_le (by omega),List.append_nil]
  rw [z]
  simp (disch:=omega) only [RR,RB,hp1,hf1,c,mkB]
  refine⟨fun d=>⟨(hx d).1,(hx d).2,fun e=>⟨(hy e).1,(hy e).2,?_⟩,fun e=> ?_⟩,fun d=>⟨fun e=>⟨(hy e).1,(hy e).2,?_⟩,fun e=> ?_⟩⟩
  ·rw [if_neg (show¬fin'=1 from d),if_pos (show 3≤fin' from e)]
  ·rw [if_neg (show¬fin'=1 from d),if_neg (show¬3≤fin' from e)]
  ·rw [if_pos (show fin'=1 from Classical.byContradiction d),if_pos (show 3≤fin' from e)]
  ·rw [if_pos (show fin'=1 from Classical.byContradiction d),if_neg (show¬3≤fin' from e)]
theorem aoV {p1:List Int×Int×Int×Int×Int×Int×Int×List IOp×Unit→Bool} {f1:List Int×Int×Int×Int×Int×Int×Int×List IOp×Unit→Int×Int×Int×Int×Int×Int×List IOp×Unit} (hp1:∀(nm:List Int) pc len fin x y k ops,Sk nm fin x y ops→p1 (nm,pc,len,fin,x,y,k,ops,())=true) (hf1:∀(nm:List Int) pc len fin x y k ops,Sk nm fin x y ops→f1 (nm,pc,len,fin,x,y,k,ops,())=(pc,len,fin,(if fin=1 then x else((nm).getD (x).toNat default)),(if 3≤fin then((nm).getD (y).toNat default)else y),k,ops.map (ren nm),())) (b:Blk) (kp:List Bool) (ok:bI b) (hk:kp.length=b.ops.length):Zl (std 0) p1 f1 (b,kp,()) (fun y=>y=bk7 (gM b kp)):=by
 have n48:=ok.sz
 dsimp only [Zl,Alg.cl,Alg.cg,Alg.rb,Alg.bd,Alg.l1,Tup.q,Tup.o]
 simp (disch:=omega) only [RR,RB]
 refine⟨by omega,by omega,au (fun(y:List Bool×List IOp×Int×Int×Int×Int×Int×Int×Int×Int×List Int×Int×Int×Int×Int×Int×Int×List IOp×Unit)=>y.1=kp∧y.2.1=b.ops∧y.2.2.1=b.ops.length∧0≤y.2.2.2.1∧y.2.2.2.1≤b.ops.length∧y.2.2.2.2.2.2.2.2.2.2=((kpS b.ops kp y.2.2.2.1.toNat).1++(List.replicate b.ops.length (0:Int)).drop y.2.2.2.1.toNat,b.pc,b.len,b.fin,b.x,b.y,b.k,(kpS b.ops kp y.2.2.2.1.toNat).2,())) (fun y=>((b.ops.length:Int)-y.2.2.2.1).toNat) ⟨rfl,rfl,rfl,by dsimp only;omega,by dsimp only;omega,?_⟩ ?_⟩
 ·rfl
 rintro⟨(kp':List Bool),(ops:List IOp),(n:Int),(i:Int),u1,u2,u3,u4,u5,u6,(nm:List Int),(pc:Int),(len:Int),(fin:Int),(x:Int),(y:Int),(k:Int),(out:List IOp),⟨⟩⟩ hI
 dsimp only at hI ⊢
 simp only [Prod.mk.injEq,and_true]at hI
 obtain⟨rfl,rfl,rfl,h1,h2,rfl,rfl,rfl,rfl,rfl,rfl,rfl,rfl⟩:=hI
 obtain⟨l1,l2⟩:=kJ b.ops kp' i.toNat
 have rl:(List.replicate b.ops.length (0:Int)).length=b.ops.length:=List.length_replicate
 have ln:=wz (l:=List.replicate b.ops.length (0:Int)) l1 (by omega)
 have ms:=fun(q:Int) (h:i<b.ops.length)=>wu (x:=q) (l:=List.replicate b.ops.length (0:Int)) l1 (by omega)
 have fin:¬i<b.ops.length→kpS b.ops kp' i.toNat=kpS b.ops kp' b.ops.length:=fun h=>by rw [show i.toNat=b.ops.length by omega]
 have nx:kpS b.ops kp' (i+1).toNat=((kpS b.ops kp' i.toNat).1++ [((kpS b.ops kp' i.toNat).2.length:Int)],if kp'.getD i.toNat default=true then(kpS b.ops kp' i.toNat).2++ [((b.ops).getD (i).toNat default)]else(kpS b.ops kp' i.toNat).2):=by rw [show(i+1).toNat=i.toNat+1 by omega];rfl
 have kb:gM b kp'=KJ (kpS b.ops kp' b.ops.length).1 b (kpS b.ops kp' b.ops.length).2:=rfl
 have en:=ok.en
 by_cases c:i<b.ops.length
 ·have ms:=fun q=>ms q c
  generalize hT:kpS b.ops kp' (i+1).toNat=T at*
  generalize kpS b.ops kp' i.toNat=S at*
  simp (disch:=omega) only [RR,RB,ln,ms,c,List.length_append,List.length_cons,List.length_nil,Ay]
  rw [hT,nx,rl,show(i+1).toNat=i.toNat+1 by omega]
  refine⟨h1,h1,c,h1,c,h1,by omega,fun d=>⟨by omega,⟨by omega,by omega,?_⟩,by omega⟩,fun d=>⟨⟨by omega,by omega,?_⟩,by omega⟩⟩
  ·rw [if_pos d]
  ·rw [d,if_neg (by decide)]
 ·have e:=fin c
  have z:(kpS b.ops kp' i.toNat).1++(List.replicate b.ops.length (0:Int)).drop i.toNat=(kpS b.ops kp' b.ops.length).1:=by
   rw [List.drop_of_length_le (by rw [rl];omega),List.append_nil,e]
  have R:Sk (kpS b.ops kp' b.ops.length).1 b.fin b.x b.y (kpS b.ops kp' b.ops.length).2:=by
   obtain⟨q1,q2⟩:=kJ b.ops kp' b.ops.length
   refine⟨fun m m0 m1=> ?_,fun d=> ?_,fun d=> ?_,by omega⟩
   ·obtain⟨j,j1,j2,j3⟩:=R9 b.ops kp' (n:=b.ops.length) (m:=m.toNat) (by omega)
    have a:=(HZ b.ops kp' j1 j2).2
    rw [j3]at a
    rw [a,q1]
    have o:=ok.op j (by omega) (by omega)
    rw [show(j:Int).toNat=j from rfl]at o
    exact⟨fun d=>⟨(o.x1 d).1,by have:=(o.x1 d).2.1;omega⟩,fun d=>⟨(o.y1 d).1,by have:=(o.y1 d).2.1;omega⟩⟩
   ·rw [q1];exact⟨(en.x1 d).1,(en.x1 d).2.1⟩
   ·rw [q1];exact⟨(en.y1 d).1,(en.y1 d).2.1⟩
  rw [z,e,kb]
  generalize kpS b.ops kp' b.ops.length=N at*
  simp (disch:=omega) only [RR,RB,c,hp1 N.1 b.pc b.len b.fin b.x b.y b.k N.2 R,hf1 N.1 b.pc b.len b.fin b.x b.y b.k N.2 R]
  rfl
end Go.TX.F
namespace Go.TX.F
open Go Go.AE Go.TX
theorem aoW {p1:Blk×Unit→Bool} {f1:Blk×Unit→Int×Int×Int×Int×Int×Int×List IOp×Unit} (hp1:∀b,b.ops.length<1000000000→p1 (b,())=true) (hf1:∀b,b.ops.length<1000000000→f1 (b,())=bk7 b) {p2:Blk×Unit→Bool} {f2:Blk×Unit→Bool×Unit} (hp2:∀b,b.ops.length<1000000000→p2 (b,())=true) (hf2:∀b,b.ops.length<1000000000→f2 (b,())=(bp (bI b),())) {p3:Int×Int×Int×Int×Int×Int×Int×List IOp×Unit→Bool} {f3:Int×Int×Int×Int×Int×Int×Int×List IOp×Unit→Bool×Int×Int×Int×Int×Int×Int×List IOp×Unit} (hp3:∀(i a1 a2 a3 a4 a5 a6:Int) (ops:List IOp),0≤i∧i<ops.length→p3 (i,a1,a2,a3,a4,a5,a6,ops,())=true) (hf3:∀(i a1 a2 a3 a4 a5 a6:Int) (ops:List IOp),0≤i∧i<ops.length→f3 (i,a1,a2,a3,a4,a5,a6,ops,())=(decide ((((ops).getD (i).toNat default)).kind=1),a1,a2,a3,a4,a5,a6,ops,())) {p4:Int×Int×Int×Unit→Bool} {f4:Int×Int×Int×Unit→Int×Unit} (hp4:∀op a b,p4 (op,a,b,())=true) (hf4:∀op a b,f4 (op,a,b,())=(wdo op a b,())) {p5:Int×Int×Int×Unit→Bool} {f5:Int×Int×Int×Unit→Bool×Unit} (hp5:∀r a b,p5 (r,a,b,())=true) (hf5:∀r a b,f5 (r,a,b,())=(inB a 0 65535&&inB b 0 65535&& (decide (r=1∧a=b∨r=2∧a<b)),())) (b:Blk) (hb:b.ops.length<1000000):Zr (std 0) p1 f1 p2 f2 p3 f3 p4 f4 p5 f5 (b,()) (fun y=>y=(bS b,())):=by
 dsimp only [Zr,Alg.cl,Alg.cg,Alg.rb,Alg.bd,Alg.l1,Tup.q,Tup.o]
 simp (disch:=omega) only [RR,RB,hp1 b (by omega),hf1 b (by omega),hp2 b (by omega),hf2 b (by omega),mkB]
 refine⟨fun h=>by unfold bS;rw [h,if_neg (by decide)];rfl,fun h=> ?_⟩
 have ok:=bM.1 h
 rw [zG ok]
 have n48:=ok.sz
 refine au (fun(y:Int×Int×Blk×Int×Int×Int×Int×Int×Int×Int×Int×Int×Int×Int×Int×List IOp×Unit)=>y.1=b.ops.length∧0≤y.2.1∧y.2.1≤b.ops.length∧y.2.2.1=b∧y.2.2.2.2.2.2.2.2.2=(b.pc,b.len,b.fin,b.x,b.y,b.k,fc b.ops y.2.1.toNat++b.ops.drop y.2.1.toNat,())) (fun y=>((b.ops.length:Int)-y.2.1).toNat) ⟨rfl,by dsimp only;omega,by dsimp only;omega,rfl,rfl⟩ ?_
 rintro⟨(n:Int),(k:Int),(b':Blk),u1,u2,u3,u4,u5,u6,b1,b2,b3,b4,b5,b6,(ops:List IOp),⟨⟩⟩ hI
 dsimp only at hI ⊢
 simp only [Prod.mk.injEq,and_true]at hI
 obtain⟨rfl,h1,h2,rfl,rfl,rfl,rfl,rfl,rfl,rfl,rfl⟩:=hI
 have fl:=kD b'.ops k.toNat
 have ln:=wz (l:=b'.ops) fl (by omega)
 have C:=fun j hj=>hf3 j b'.pc b'.len b'.fin b'.x b'.y b'.k (fc b'.ops k.toNat++b'.ops.drop k.toNat) hj
 have Cp:=fun j hj=>hp3 j b'.pc b'.len b'.fin b'.x b'.y b'.k (fc b'.ops k.toNat++b'.ops.drop k.toNat) hj
 by_cases c:k<b'.ops.length
 ·have o:=ok.op k h1 c
  have ek:=KM (d:=default) (l:=b'.ops) fl (by omega)
  have lo:=fun(j:Int) (j0:0≤j) (j1:j<k)=>aah (d:=default) (l:=b'.ops) (j:=j.toNat) fl (by omega)
  have nx:fc b'.ops (k+1).toNat=fc b'.ops k.toNat++ [fcO (fc b'.ops k.toNat) ((b'.ops).getD (k).toNat default)]:=by rw [show(k+1).toNat=k.toNat+1 by omega];rfl
  have hk:=H9 (d:=default) (f:=fc b'.ops k.toNat) (l:=b'.ops) (k:=k.toNat) (by omega)
  have hs:=fun x=>wu (x:=x) (l:=b'.ops) fl (by omega)
  have rg:∀x:Int,Vl b'.ops x k→0≤x∧x<k:=fun x v=>⟨v.1,v.2.1⟩
  have fo:fcO (fc b'.ops k.toNat) ((b'.ops).getD (k).toNat default)=if(((b'.ops).getD (k).toNat default)).kind=3∧((((fc b'.ops k.toNat)).getD ((((b'.ops).getD (k).toNat default)).x).toNat default)).kind=1∧((((fc b'.ops k.toNat)).getD ((((b'.ops).getD (k).toNat default)).y).toNat default)).kind=1 then⟨1,0,0,wdo (((b'.ops).getD (k).toNat default)).k ((((fc b'.ops k.toNat)).getD ((((b'.ops).getD (k).toNat default)).x).toNat default)).k ((((fc b'.ops k.toNat)).getD ((((b'.ops).getD (k).toNat default)).y).toNat default)).k,0⟩else((b'.ops).getD (k).toNat default):=rfl
  generalize hq:((b'.ops).getD (k).toNat default)=q at*
  generalize hM:fc b'.ops k.toNat++b'.ops.drop k.toNat=M at*
  by_cases c3:q.kind=3
  ·have vx:=rg _ (o.x1 (by unfold hX;omega))
   have vy:=rg _ (o.y1 (Or.inl c3))
   have rx:0≤q.x∧q.x<M.length:=⟨vx.1,by omega⟩
   have ry:0≤q.y∧q.y<M.length:=⟨vy.1,by omega⟩
   rw [←lo _ vx.1 vx.2,←lo _ vy.1 vy.2]at fo
   simp (disch:=omega) only [RR,RB,ln,ek,hq,C _ rx,Cp _ rx,C _ ry,Cp _ ry,hp4,hf4,c,c3,rx,ry,decide_true,Bool.true_and]
   rw [nx,show(k+1).toNat=k.toNat+1 by omega]
   refine⟨h1,h1,fun d=>⟨fun e=>⟨by omega,by omega,by omega,by omega,h1,h1,⟨by omega,by omega,?_⟩,by omega⟩,fun e=>⟨⟨by omega,by omega,?_⟩,by omega⟩⟩,fun d=>⟨d,⟨by omega,by omega,?_⟩,by omega⟩⟩
   ·rw [if_pos ⟨c3,e⟩]at fo;rw [fo,hs]
   ·rw [if_neg (by rintro⟨_,g1,g2⟩;rw [g1,g2]at e;cases e)]at fo;rw [fo,hk]
   ·rw [if_neg (by rintro⟨_,g1,g2⟩;exact d g1)]at fo;rw [fo,hk]
  ·simp (disch:=omega) only [RR,RB,ln,ek,hq,c,c3]
   rw [nx,show(k+1).toNat=k.toNat+1 by omega]
   refine⟨h1,h1,⟨by omega,by omega,?_⟩,by omega⟩
   rw [if_neg (fun g=>c3 g.1)]at fo;rw [fo,hk]
 ·have z:fc b'.ops k.toNat++b'.ops.drop k.toNat=fc b'.ops b'.ops.length:=by rw [List.drop_of_length_le (by omega),List.append_nil,show k.toNat=b'.ops.length by omega]
  have fe:=ok.fe (kD b'.ops b'.ops.length)
  have fx:=fe.x
  have fy:=fe.y
  have hf:=fe.f
  have y0:=fe.y0
  have hp:=fe.p
  dsimp only at fx fy hf y0 hp
  rw [z]at C Cp ⊢
  have ln:=kD b'.ops b'.ops.length
  have fi:=fun(j:Int) h1 h2 h3=>((vZ ok [] b'.ops.length (Nat.le_refl _)).2.c j h1 h2 h3).1
  generalize fc b'.ops b'.ops.length=M at*
  have e0:¬(b'.fin=2∧(((M).getD (b'.x).toNat default)).kind=1)→¬(3≤b'.fin∧(((M).getD (b'.x).toNat default)).kind=1∧(((M).getD (b'.y).toNat default)).kind=1)→fcB b' M=⟨b'.pc,b'.len,M,b'.fin,b'.x,b'.y,b'.k⟩:=fun g1 g2=>by unfold fcB;rw [if_neg g1,if_neg g2]
  by_cases f1':b'.fin=1
  ·rw [e0 (by omega) (by omega)]
   simp (disch:=omega) only [RR,RB,ln,c,show¬b'.fin=2 by omega,show¬3≤b'.fin by omega,mkB,decide_false]
   rfl
  ·have rx:=fx f1'
   by_cases f2':b'.fin=2
   ·by_cases d:(((M).getD (b'.x).toNat default)).kind=1
    ·have e:fcB b' M=⟨b'.pc,b'.len,M,1,0,b'.y,(((M).getD (b'.x).toNat default)).k⟩:=by unfold fcB;rw [if_pos ⟨f2',d⟩]
     rw [e]
     simp (disch:=omega) only [RR,RB,ln,c,eq_true f2',eq_true d,mkB,C _ rx,Cp _ rx,decide_true,Bool.true_and,Bool.and_true,Bool.and_false]
     exact⟨rx.1,by omega,rx.1,by omega,rfl⟩
    ·rw [e0 (by omega) (by omega)]
     simp (disch:=omega) only [RR,RB,ln,c,eq_true f2',d,show¬3≤b'.fin by omega,mkB,C _ rx,Cp _ rx,decide_true,decide_false,Bool.true_and,Bool.and_true,Bool.and_false]
     rfl
   ·have ry:=fy (by omega)
    have f3':3≤b'.fin:=by omega
    by_cases d1:(((M).getD (b'.x).toNat default)).kind=1
    ·by_cases d2:(((M).getD (b'.y).toNat default)).kind=1
     ·have e:fcB b' M=⟨b'.pc,b'.len,M,1,0,0,if b'.fin=3∧(((M).getD (b'.x).toNat default)).k=(((M).getD (b'.y).toNat default)).k∨b'.fin=4∧(((M).getD (b'.x).toNat default)).k< (((M).getD (b'.y).toNat default)).k then b'.k else b'.pc+b'.len⟩:=by unfold fcB;rw [if_neg (by omega),if_pos ⟨f3',d1,d2⟩]
      have r1:=eF.2 (fi b'.x rx.1 (by omega) d1)
      have r2:=eF.2 (fi b'.y ry.1 (by omega) d2)
      rw [e]
      simp (disch:=omega) only [RR,RB,ln,c,f2',f3',d1,d2,mkB,C _ rx,Cp _ rx,C _ ry,Cp _ ry,hp5,hf5,r1,r2,decide_true,decide_false,Bool.true_and,Bool.and_true,Bool.and_false]
      refine⟨rx.1,by omega,rx.1,by omega,ry.1,by omega,ry.1,by omega,fun g=> ?_,fun g=> ?_⟩
      ·rw [if_neg (by omega)];rfl
      ·rw [if_pos (by omega)];rfl
     ·rw [e0 (by omega) (by omega)]
      simp (disch:=omega) only [RR,RB,ln,c,f2',f3',d1,d2,mkB,C _ rx,Cp _ rx,C _ ry,Cp _ ry,decide_true,decide_false,Bool.true_and,Bool.and_true,Bool.and_false]
      rfl
    ·rw [e0 (by omega) (by omega)]
     simp (disch:=omega) only [RR,RB,ln,c,f2',f3',d1,mkB,C _ rx,Cp _ rx,decide_true,decide_false,Bool.true_and,Bool.and_true,Bool.and_false]
     rfl
theorem aoX {p1:Blk×Unit→Bool} {f1:Blk×Unit→Int×Int×Int×Int×Int×Int×List IOp×Unit} (hp1:∀b,b.ops.length<1000000000→p1 (b,())=true) (hf1:∀b,b.ops.length<1000000000→f1 (b,())=bk7 b) {p2:List Int×Int×Int×Int×Int×Int×Int×List IOp×Unit→Bool} {f2:List Int×Int×Int×Int×Int×Int×Int×List IOp×Unit→Int×Int×Int×Int×Int×Int×List IOp×Unit} (hp2:∀(nm:List Int) pc len fin x y k ops,Sk nm fin x y ops→p2 (nm,pc,len,fin,x,y,k,ops,())=true) (hf2:∀(nm:List Int) pc len fin x y k ops,Sk nm fin x y ops→f2 (nm,pc,len,fin,x,y,k,ops,())=(pc,len,fin,(if fin=1 then x else((nm).getD (x).toNat default)),(if 3≤fin then((nm).getD (y).toNat default)else y),k,ops.map (ren nm),())) {p3:Blk×Unit→Bool} {f3:Blk×Unit→Bool×Unit} (hp3:∀b,b.ops.length<1000000000→p3 (b,())=true) (hf3:∀b,b.ops.length<1000000000→f3 (b,())=(bp (bI b),())) (b:Blk) (hb:b.ops.length<1000000):XU (std 0) p1 f1 p2 f2 p3 f3 (b,()) (fun y=>y=(bB b,())):=by
 dsimp only [XU,Alg.cl,Alg.cg,Alg.rb,Alg.bd,Alg.l1,Tup.q,Tup.o]
 simp (disch:=omega) only [RR,RB,hp1 b (by omega),hf1 b (by omega),hp3 b (by omega),hf3 b (by omega),Ay]
 refine⟨fun h=>by unfold bB;rw [h,if_neg (by decide)];rfl,fun h=> ?_⟩
 have ok:=bM.1 h
 rw [OJ ok]
 have n48:=ok.sz
 refine⟨by omega,by omega,au (fun(y:List IOp×Int×Int×Blk×Int×Int×Int×Int×Int×Int×List Int×List Int×Unit)=>y.1=b.ops∧y.2.1=b.ops.length∧0≤y.2.2.1∧y.2.2.1≤b.ops.length∧y.2.2.2.1=b∧y.2.2.2.2.2.2.2.2.2.2=((cpS b.ops y.2.2.1.toNat).1++(List.replicate b.ops.length (0:Int)).drop y.2.2.1.toNat,(cpS b.ops y.2.2.1.toNat).2,())) (fun y=>((b.ops.length:Int)-y.2.2.1).toNat) ⟨rfl,rfl,by dsimp only;omega,by dsimp only;omega,rfl,rfl⟩ ?_⟩
 rintro⟨(ops:List IOp),(n:Int),(k:Int),(b':Blk),u1,u2,u3,u4,u5,u6,(nm:List Int),(la:List Int),⟨⟩⟩ hI
 dsimp only at hI ⊢
 simp only [Prod.mk.injEq,and_true]at hI
 obtain⟨rfl,rfl,h1,h2,rfl,rfl,rfl⟩:=hI
 obtain⟨l1,l2⟩:=rz b'.ops k.toNat
 have rl:(List.replicate b'.ops.length (0:Int)).length=b'.ops.length:=List.length_replicate
 have ln:=wz (l:=List.replicate b'.ops.length (0:Int)) l1 (by omega)
 by_cases c:k<b'.ops.length
 ·have o:=ok.op k h1 c
  have nx:cpS b'.ops (k+1).toNat=((cpS b'.ops k.toNat).1++ [cpN (cpS b'.ops k.toNat) k ((b'.ops).getD (k).toNat default)],cpL (cpS b'.ops k.toNat) k ((b'.ops).getD (k).toNat default)):=by
   rw [show(k+1).toNat=k.toNat+1 by omega,show k=((k.toNat:Nat):Int) by omega];rfl
  have ms:=fun(q:Int)=>wu (x:=q) (l:=List.replicate b'.ops.length (0:Int)) l1 (by omega)
  have m3:∀q r:Int,(((cpS b'.ops k.toNat).1++ [q])++(List.replicate b'.ops.length (0:Int)).drop (k.toNat+1)).set k.toNat r=((cpS b'.ops k.toNat).1++ [r])++(List.replicate b'.ops.length (0:Int)).drop (k.toNat+1):=fun q r=>by
   rw [List.set_append_left _ _ (by rw [List.length_append,l1];simp),List.set_append_right _ _ (by omega),l1,Nat.sub_self];rfl
  have m4:∀q:Int,(((cpS b'.ops k.toNat).1++ [q])++(List.replicate b'.ops.length (0:Int)).drop (k.toNat+1)).length=b'.ops.length:=fun q=>by
   rw [List.length_append,List.length_append,l1,List.length_drop,rl];simp only [List.length_cons,List.length_nil];omega
  have m5:∀(q x:Int),0≤x→x<k→(((((cpS b'.ops k.toNat).1++ [q])++(List.replicate b'.ops.length (0:Int)).drop (k.toNat+1))).getD (x).toNat default)=(((cpS b'.ops k.toNat).1).getD (x).toNat default):=fun q x x0 x1=>by
   rw [List.append_assoc,getD_lt (by rw [List.length_append];omega),getD_lt (by omega),List.getElem_append_left]
  have kd:=o.k2
  have ox:=fun c8:(((b'.ops).getD (k).toNat default)).kind=8=>o.x1 (by unfold hX;omega)
  generalize hq:((b'.ops).getD (k).toNat default)=q at*
  generalize hT:cpS b'.ops (k+1).toNat=T at*
  generalize cpS b'.ops k.toNat=S at*
  have ss:∀i:Int,0≤i→i<S.2.length→S.2.set i.toNat ((S.2).getD (i).toNat default)=S.2:=fun i i0 i1=>by rw [getD_lt (show i.toNat<S.2.length by omega),List.set_getElem_self]
  have G:∀v w,v=cpN S k q→w=cpL S k q→((S.1++ [v])++(List.replicate b'.ops.length (0:Int)).drop (k.toNat+1),w,())=(T.1++(List.replicate b'.ops.length (0:Int)).drop (k+1).toNat,T.2,()):=fun v w e1 e2=>by
   rw [nx,e1,e2,show(k+1).toNat=k.toNat+1 by omega]
  by_cases c2:q.kind=2
  ·have kk:=kd (Or.inl c2)
   by_cases c3:0≤((S.2).getD (q.k).toNat default)
   ·have g:=G (((S.2).getD (q.k).toNat default)) S.2 (by unfold cpN;rw [if_pos ⟨c2,c3⟩]) (by unfold cpL;rw [if_pos c2,if_pos c3])
    simp (disch:=omega) only [RR,RB,ln,ms,m3,m4,rl,c,hq,eq_true c2,eq_true c3,hT,g,decide_true,decide_false,Bool.true_and,Bool.and_true,Bool.and_false,Bool.false_and,false_and]
    omega
   ·have g:=G k (S.2.set q.k.toNat k) (by unfold cpN;rw [if_neg (fun q=>c3 q.2)]) (by unfold cpL;rw [if_pos c2,if_neg c3])
    simp (disch:=omega) only [RR,RB,ln,ms,m3,m4,rl,c,hq,eq_true c2,c3,hT,g,decide_true,decide_false,Bool.true_and,Bool.and_true,Bool.and_false,Bool.false_and,false_and]
    omega
  ·by_cases c8:q.kind=8
   ·have kk:=kd (Or.inr c8)
    have v:=ox c8
    have v0:=v.1
    have v1:=v.2.1
    have g:=G k (S.2.set q.k.toNat ((S.1).getD (q.x).toNat default)) (by unfold cpN;rw [if_neg (fun q=>c2 q.1)]) (by unfold cpL;rw [if_neg c2,if_pos c8])
    simp (disch:=omega) only [RR,RB,ln,ms,m3,m4,m5,rl,c,hq,c2,eq_true c8,hT,g,decide_true,decide_false,Bool.true_and,Bool.and_true,Bool.and_false,Bool.false_and,false_and]
    omega
   ·have g:=G k S.2 (by unfold cpN;rw [if_neg (fun q=>c2 q.1)]) (by unfold cpL;rw [if_neg c2,if_neg c8])
    simp (disch:=omega) only [RR,RB,ln,ms,m3,m4,rl,c,hq,c2,c8,hT,g,decide_true,decide_false,Bool.true_and,Bool.and_true,Bool.and_false,Bool.false_and,false_and]
    omega
 ·have z:(cpS b'.ops k.toNat).1++(List.replicate b'.ops.length (0:Int)).drop k.toNat=(cpS b'.ops b'.ops.length).1:=by
   rw [List.drop_of_length_le (by rw [rl];omega),List.append_nil,show k.toNat=b'.ops.length by omega]
  have en:=ok.en
  have R:Sk (cpS b'.ops b'.ops.length).1 b'.fin b'.x b'.y b'.ops:=by
   obtain⟨q1,q2⟩:=rz b'.ops b'.ops.length
   refine⟨fun m m0 m1=> ?_,fun d=> ?_,fun d=> ?_,by omega⟩
   ·have o:=ok.op m m0 m1
    rw [q1]
    exact⟨fun d=>⟨(o.x1 d).1,by have:=(o.x1 d).2.1;omega⟩,fun d=>⟨(o.y1 d).1,by have:=(o.y1 d).2.1;omega⟩⟩
   ·rw [q1];exact⟨(en.x1 d).1,(en.x1 d).2.1⟩
   ·rw [q1];exact⟨(en.y1 d).1,(en.y1 d).2.1⟩
  rw [z]
  generalize (cpS b'.ops b'.ops.length).1=N at*
  simp (disch:=omega) only [RR,RB,c,hp1 b' (by omega),hf1 b' (by omega),hp2 N b'.pc b'.len b'.fin b'.x b'.y b'.k b'.ops R,hf2 N b'.pc b'.len b'.fin b'.x b'.y b'.k b'.ops R]
  rfl
end Go.TX.F
namespace Go.TX.F
open Go Go.AE Go.TX
theorem aoY {p1:Blk×Unit→Bool} {f1:Blk×Unit→Bool×Bool×Bool×Unit} (hp1:∀b,p1 (b,())=true) (hf1:∀b,f1 (b,())=(decide (b.fin≠1),decide (3≤b.fin),decide (b.fin≠2),())) {p2:IOp×Unit→Bool} {f2:IOp×Unit→Bool×Bool×Bool×Bool×Unit} (hp2:∀o,p2 (o,())=true) (hf2:∀o,f2 (o,())=(decide (hX o),decide (hY o),decide (hK o),decide (evO o),())) (b:Blk) (ok:bI b):X3 (std 0) p1 f1 p2 f2 (b,()) (fun y=>y=(us b b.ops.length,())):=by
 have n48:=ok.sz
 have en:=ok.en
 have ex:¬b.fin=1→0≤b.x∧b.x<b.ops.length:=fun c=>by have:=en.x1 c;exact⟨this.1,this.2.1⟩
 have ey:3≤b.fin→0≤b.y∧b.y<b.ops.length:=fun c=>by have:=en.y1 c;exact⟨this.1,this.2.1⟩
 dsimp only [X3,Alg.cl,Alg.cg,Alg.rb,Alg.bd,Alg.l1,Tup.q,Tup.o]
 simp (disch:=omega) only [RR,RB,hp1,hf1,List.length_replicate,List.length_set,Int.toNat_natCast]
 refine⟨by omega,by omega,fun c=>⟨(ex c).1,(ex c).2,(ex c).1,(ex c).2,fun d=>⟨(ey d).1,(ey d).2,(ey d).1,(ey d).2,?_⟩,fun d=> ?_⟩,fun c=>⟨fun d=>⟨(ey d).1,(ey d).2,(ey d).1,(ey d).2,?_⟩,fun d=> ?_⟩⟩
 all_goals
  refine au (fun(y:Int×Blk×List Bool×Unit)=> -1≤y.1∧y.1<b.ops.length∧y.2.1=b∧y.2.2.1=us b (b.ops.length-1-y.1).toNat) (fun y=>(y.1+1).toNat) ⟨by dsimp only;omega,by dsimp only;omega,rfl,?_⟩ ?_
  ·dsimp only
   rw [show(b.ops.length-1- ((b.ops.length:Int)-1)).toNat=0 by omega]
   show _=us0 b
   unfold us0
   dsimp only
   first
    | rw [if_neg (show¬b.fin=1 from c),if_pos (show 3≤b.fin from d)]
    | rw [if_neg (show¬b.fin=1 from c),if_neg (show¬3≤b.fin from d)]
    | (rw [if_pos (show b.fin=1 from Classical.byContradiction c),if_pos (show 3≤b.fin from d)])
    | (rw [if_pos (show b.fin=1 from Classical.byContradiction c),if_neg (show¬3≤b.fin from d)])
  rintro⟨(j:Int),(b2:Blk),(ms:List Bool),⟨⟩⟩ hI
  dsimp only at hI ⊢
  obtain⟨j0,j1,rfl,rfl⟩:=hI
  have ul:=uP b2 (b2.ops.length-1-j).toNat
  have us1:0≤j→us b2 (b2.ops.length-1- (j-1)).toNat=usO ((b2.ops).getD (j).toNat default) j.toNat (us b2 (b2.ops.length-1-j).toNat):=fun g=>by
   rw [show(b2.ops.length-1- (j-1)).toNat=(b2.ops.length-1-j).toNat+1 by omega]
   show usO (b2.ops.getD (b2.ops.length-1- (b2.ops.length-1-j).toNat) default) (b2.ops.length-1- (b2.ops.length-1-j).toNat) _=_
   rw [show b2.ops.length-1- (b2.ops.length-1-j).toNat=j.toNat by omega]
  have ue:¬0≤j→us b2 (b2.ops.length-1-j).toNat=us b2 b2.ops.length:=fun g=>by rw [show(b2.ops.length-1-j).toNat=b2.ops.length by omega]
  generalize us b2 (b2.ops.length-1-j).toNat=U at us1 ue ul ⊢
  by_cases g:0≤j
  ·have o:=ok.op j g j1
   have us1:=us1 g
   have ox:=fun c:hX ((b2.ops).getD (j).toNat default)=>(o.x1 c)
   have oy:=fun c:hY ((b2.ops).getD (j).toNat default)=>(o.y1 c)
   unfold usO at us1
   generalize hq:((b2.ops).getD (j).toNat default)=q at*
   have sj:∀x:Bool,(U.set j.toNat x).getD j.toNat default=x:=fun x=>by rw [getD_lt (by rw [List.length_set];omega),List.getElem_set_self]
   simp (disch:=omega) only [RR,RB,hp2,hf2,ul,List.length_set,sj,hq,g,eq_true g]
   rw [us1]
   by_cases w:(U.getD j.toNat default || decide (4≤q.kind))=true
   ·have w2:U.getD j.toNat default=true∨4≤q.kind:=by rw [Bool.or_eq_true,decide_eq_true_eq]at w;exact w
    rw [if_pos w,w]
    refine⟨j1,j1,j1,j1,j1,j1,j1,fun e=> ?_,fun _=>⟨fun e=>⟨(ox e).1,by have:=(ox e).2.1;omega,(ox e).1,by have:=(ox e).2.1;omega,fun e'=>⟨(oy e').1,by have:=(oy e').2.1;omega,(oy e').1,by have:=(oy e').2.1;omega,⟨by omega,by omega,?_⟩,by omega⟩,fun e'=>⟨⟨by omega,by omega,?_⟩,by omega⟩⟩,fun e=>⟨fun e'=>⟨(oy e').1,by have:=(oy e').2.1;omega,(oy e').1,by have:=(oy e').2.1;omega,⟨by omega,by omega,?_⟩,by omega⟩,fun e'=>⟨⟨by omega,by omega,?_⟩,by omega⟩⟩⟩⟩
    ·rcases w2 with w2 | w2
     ·rw [e.1]at w2;cases w2
     ·exact absurd w2 e.2
    all_goals dsimp only
    ·rw [if_pos e,if_pos e']
    ·rw [if_pos e,if_neg e']
    ·rw [if_neg e,if_pos e']
    ·rw [if_neg e,if_neg e']
   ·have w1:(U.getD j.toNat default || decide (4≤q.kind))=false:=by simpa using w
    rw [if_neg w,w1]
    have w3:U.getD j.toNat default=false:=by rw [Bool.or_eq_false_iff]at w1;exact w1.1
    have ws:U.set j.toNat false=U:=by rw [←w3,getD_lt (show j.toNat<U.length by omega),List.set_getElem_self]
    refine⟨j1,j1,j1,j1,j1,j1,j1,fun _=>⟨⟨by omega,by omega,ws⟩,by omega⟩,fun e=> ?_⟩
    exfalso
    rcases e with e | e
    ·rw [w3]at e;cases e
    ·rw [decide_eq_true e,Bool.or_true]at w;exact w rfl
  ·simp (disch:=omega) only [RR,RB,g,eq_false g,ue g]
theorem acn (j:Nat) (D:List Bool) (v:Bool):(List.replicate (j+1) false++D).set j v=List.replicate j false++v::D:=by
 rw [List.replicate_succ',List.append_assoc,List.set_append_right _ _ (by rw [List.length_replicate];exact Nat.le_refl _),List.length_replicate,Nat.sub_self];rfl
theorem aak (j:Nat) (D:List Bool) (u v:Bool):(List.replicate j false++u::D).set j v=List.replicate j false++v::D:=by
 rw [List.set_append_right _ _ (by rw [List.length_replicate];exact Nat.le_refl _),List.length_replicate,Nat.sub_self];rfl
theorem aoZ {p1:Blk×List Bool×Unit→Bool} {f1:Blk×List Bool×Unit→Int×Int×Int×Int×Int×Int×List IOp×Unit} (hp1:∀b kp,bI b→kp.length=b.ops.length→p1 (b,kp,())=true) (hf1:∀b kp,bI b→kp.length=b.ops.length→f1 (b,kp,())=bk7 (gM b kp)) {p2:Blk×Unit→Bool} {f2:Blk×Unit→Bool×Unit} (hp2:∀b,b.ops.length<1000000000→p2 (b,())=true) (hf2:∀b,b.ops.length<1000000000→f2 (b,())=(bp (bI b),())) (b:Blk) (hb:b.ops.length<1000000):Zp (std 0) p1 f1 p2 f2 (b,()) (fun y=>y=(gW b,())):=by
 dsimp only [Zp,Alg.cl,Alg.cg,Alg.rb,Alg.bd,Alg.l1,Tup.q,Tup.o]
 simp (disch:=omega) only [RR,RB,hp2 b (by omega),hf2 b (by omega),Int.toNat_natCast]
 refine⟨fun h=>by unfold gW;rw [h,if_neg (by decide)];rfl,fun h=> ?_⟩
 have ok:=bM.1 h
 rw [OG ok]
 have n48:=ok.sz
 have kl:(dO b.ops).length=b.ops.length:=by unfold dO;rw [List.length_map,List.length_range]
 refine⟨by omega,by omega,by omega,by omega,au (fun(y:Int×Blk×Int×Int×Int×Int×Int×Int×List Bool×List Bool×Unit)=> -1≤y.1∧y.1<b.ops.length∧y.2.1=b∧y.2.2.2.2.2.2.2.2.1=List.replicate (y.1+1).toNat false++(dO b.ops).drop (y.1+1).toNat∧y.2.2.2.2.2.2.2.2.2.1.length=4∧∀r:Int,0≤r→r≤3→((y.2.2.2.2.2.2.2.2.2.1).getD (r).toNat default)=iH (b.ops.drop (y.1+1).toNat) r) (fun y=>(y.1+1).toNat) ⟨by dsimp only;omega,by dsimp only;omega,rfl,?_,rfl,fun r r0 r3=> ?_⟩ ?_⟩
 ·dsimp only
  rw [show((b.ops.length:Int)-1+1).toNat=b.ops.length by omega,List.drop_of_length_le (by omega),List.append_nil]
 ·dsimp only
  rw [show((b.ops.length:Int)-1+1).toNat=b.ops.length by omega,List.drop_of_length_le (by omega)]
  rcases(by omega:r=0∨r=1∨r=2∨r=3)with h | h | h | h<;>subst h<;>rfl
 rintro⟨(j:Int),(b':Blk),u1,u2,u3,u4,u5,u6,(kp:List Bool),(ag:List Bool),⟨⟩⟩ hI
 dsimp only at hI ⊢
 obtain⟨h1,h2,rfl,rfl,h4,h5⟩:=hI
 by_cases c:0≤j
 ·have o:=ok.op j c h2
  have e1:(j+1).toNat=j.toNat+1:=by omega
  have kd:dO b'.ops=dO b'.ops:=rfl
  have dk:(dO b'.ops).drop j.toNat=(!(decide ((((b'.ops).getD (j).toNat default)).kind=8)&&iH (b'.ops.drop (j.toNat+1)) (((b'.ops).getD (j).toNat default)).k))::(dO b'.ops).drop (j.toNat+1):=by
   rw [List.drop_eq_getElem_cons (show j.toNat< (dO b'.ops).length by omega),←getD_lt (d:=default) (show j.toNat< (dO b'.ops).length by omega),wm (by omega)]
  have dl:∀r,iH (b'.ops.drop j.toNat) r=if(((b'.ops).getD (j).toNat default)).kind=4∨(((b'.ops).getD (j).toNat default)).kind=5∨(((b'.ops).getD (j).toNat default)).kind=2∧(((b'.ops).getD (j).toNat default)).k=r then false else if(((b'.ops).getD (j).toNat default)).kind=8∧(((b'.ops).getD (j).toNat default)).k=r then true else iH (b'.ops.drop (j.toNat+1)) r:=fun r=>by
   rw [List.drop_eq_getElem_cons (show j.toNat<b'.ops.length by omega),H7,←getD_lt (d:=default) (show j.toNat<b'.ops.length by omega)]
  rw [e1]at h5 ⊢
  have k2:=o.k2
  have ln1:∀v:Bool,(List.replicate j.toNat false++v::(dO b'.ops).drop (j.toNat+1)).length=b'.ops.length:=fun v=>by rw [List.length_append,List.length_replicate,List.length_cons,List.length_drop];omega
  have ln0:(List.replicate (j.toNat+1) false++(dO b'.ops).drop (j.toNat+1)).length=b'.ops.length:=by rw [List.length_append,List.length_replicate,List.length_drop];omega
  generalize hq:((b'.ops).getD (j).toNat default)=q at*
  simp (disch:=omega) only [RR,RB,ln0,ln1,acn,aak,h4,hq,c,eq_true c,List.length_set]
  simp only [Int.sub_add_cancel]
  have K:∀v,v=(!(decide (q.kind=8)&&iH (b'.ops.drop (j.toNat+1)) q.k))→List.replicate j.toNat false++v::(dO b'.ops).drop (j.toNat+1)=List.replicate j.toNat false++(dO b'.ops).drop j.toNat:=fun v e=>by rw [dk,e]
  have fr:∀r:Int,0≤r→r≤3→(((List.replicate 4 false)).getD (r).toNat default)=false:=fun r r0 r3=>by
   rcases(by omega:r=0∨r=1∨r=2∨r=3)with h | h | h | h<;>subst h<;>rfl
  have kk:=fun g=>k2 g
  refine⟨h2,h2,h2,fun e8=> ?_,fun e8=>⟨fun e2=> ?_,fun e2=> ?_⟩⟩
  ·have kk:=k2 (Or.inr e8)
   refine⟨kk.1,by omega,kk.1,by omega,h2,h2,kk.1,by omega,kk.1,by omega,⟨by omega,by omega,K _ ?_,fun r r0 r3=> ?_⟩,by omega⟩
   ·rw [h5 _ kk.1 kk.2,decide_eq_true e8,Bool.true_and]
   ·rw [dl,rA r0 kk.1 (by omega)]
    by_cases g:r=q.k
    ·rw [if_pos g,if_neg (by omega),if_pos ⟨e8,g.symm⟩]
    ·rw [if_neg g,h5 r r0 r3,if_neg (by omega),if_neg (fun q=>g q.2.symm)]
  ·have kk:=k2 (Or.inl e2)
   refine⟨kk.1,by omega,kk.1,by omega,⟨by omega,by omega,K _ ?_,fun r r0 r3=> ?_⟩,by omega⟩
   ·rw [decide_eq_false e8,Bool.false_and];rfl
   ·rw [dl,rA r0 kk.1 (by omega)]
    by_cases g:r=q.k
    ·rw [if_pos g,if_pos (by omega)]
    ·rw [if_neg g,h5 r r0 r3,if_neg (by omega),if_neg (fun q=>e8 q.1)]
  ·have kv:=K true (by rw [decide_eq_false e8,Bool.false_and];rfl)
   have A45:q.kind=4∨q.kind=5→∀r:Int,0≤r→r≤3→(((List.replicate 4 false)).getD (r).toNat default)=iH (b'.ops.drop j.toNat) r:=fun g r r0 r3=>by rw [fr r r0 r3,dl,if_pos (by omega)]
   have An:¬q.kind=4→¬q.kind=5→∀r:Int,0≤r→r≤3→((ag).getD (r).toNat default)=iH (b'.ops.drop j.toNat) r:=fun g4 g5 r r0 r3=>by rw [h5 r r0 r3,dl,if_neg (by omega),if_neg (fun q=>e8 q.1)]
   refine⟨fun e4=>⟨fun _=>⟨⟨by omega,by omega,kv,rfl,A45 (Or.inl e4)⟩,by omega⟩,fun g=>absurd e4 g⟩,fun e4=>⟨fun e5=>⟨⟨by omega,by omega,kv,rfl,A45 (Or.inr e5)⟩,by omega⟩,fun e5=>⟨⟨by omega,by omega,kv,An e4 e5⟩,by omega⟩⟩⟩
 ·have z:(j+1).toNat=0:=by omega
  rw [z]
  have R:List.replicate 0 false++(dO b'.ops).drop 0=dO b'.ops:=rfl
  rw [R]
  simp (disch:=omega) only [RR,RB,c,eq_false c,hp1 _ _ ok kl,hf1 _ _ ok kl]
  rfl
theorem ao0 {p1:Blk×List Bool×Unit→Bool} {f1:Blk×List Bool×Unit→Int×Int×Int×Int×Int×Int×List IOp×Unit} (hp1:∀b kp,bI b→kp.length=b.ops.length→p1 (b,kp,())=true) (hf1:∀b kp,bI b→kp.length=b.ops.length→f1 (b,kp,())=bk7 (gM b kp)) {p2:Blk×Unit→Bool} {f2:Blk×Unit→List Bool×Unit} (hp2:∀b,bI b→p2 (b,())=true) (hf2:∀b,bI b→f2 (b,())=(us b b.ops.length,())) {p3:Blk×Unit→Bool} {f3:Blk×Unit→Bool×Unit} (hp3:∀b,b.ops.length<1000000000→p3 (b,())=true) (hf3:∀b,b.ops.length<1000000000→f3 (b,())=(bp (bI b),())) (b:Blk) (hb:b.ops.length<1000000):Zm (std 0) p1 f1 p2 f2 p3 f3 (b,()) (fun y=>y=(fK b,())):=by
 dsimp only [Zm,Alg.cl,Alg.cg,Alg.rb,Alg.bd,Alg.l1,Tup.q,Tup.o]
 simp (disch:=omega) only [RR,RB,hp3 b (by omega),hf3 b (by omega)]
 refine⟨fun h=>by unfold fK;rw [h,if_neg (by decide)];rfl,fun h=> ?_⟩
 have ok:=bM.1 h
 have ul:=uP b b.ops.length
 rw [OH ok,hf2 b ok,hf1 _ _ ok ul]
 exact⟨hp2 b ok,hp1 _ _ ok ul,rfl⟩
theorem ao1 {p1:Blk×Unit→Bool} {f1:Blk×Unit→Blk×Unit} (hp1:∀b,b.ops.length<1000000→p1 (b,())=true) (hf1:∀b,b.ops.length<1000000→f1 (b,())=(bS b,())) {p2:Blk×Unit→Bool} {f2:Blk×Unit→Blk×Unit} (hp2:∀b,b.ops.length<1000000→p2 (b,())=true) (hf2:∀b,b.ops.length<1000000→f2 (b,())=(bB b,())) {p3:Blk×Unit→Bool} {f3:Blk×Unit→Blk×Unit} (hp3:∀b,b.ops.length<1000000→p3 (b,())=true) (hf3:∀b,b.ops.length<1000000→f3 (b,())=(fK b,())) {p4:Blk×Unit→Bool} {f4:Blk×Unit→Blk×Unit} (hp4:∀b,b.ops.length<1000000→p4 (b,())=true) (hf4:∀b,b.ops.length<1000000→f4 (b,())=(gW b,())) (b:Blk) (hb:b.ops.length<1000000):Zt (std 0) p1 f1 p2 f2 p3 f3 p4 f4 (b,()) (fun y=>y=(kE b,())):=by
 have m1:(bB b).ops.length<1000000:=Nat.lt_of_le_of_lt (rD b) hb
 have m2:=Nat.lt_of_le_of_lt (uQ (bB b)) m1
 have m3:=Nat.lt_of_le_of_lt (rC (bS (bB b))) m2
 have m4:=Nat.lt_of_le_of_lt (yH (fK (bS (bB b)))) m3
 dsimp only [Zt,Alg.cl,Alg.cg,Alg.rb,Alg.bd,Alg.l1,Tup.q,Tup.o]
 simp (disch:=omega) only [RR,hp2 b hb,hf2 b hb,hp1 _ m1,hf1 _ m1,hp3 _ m2,hf3 _ m2,hp4 _ m3,hf4 _ m3,hp3 _ m4,hf3 _ m4]
 rfl
end Go.TX.F
namespace Go.TX.F
open Go Go.AE Go.TX
theorem aix {p1:List Int×Unit→Bool} {f1:List Int×Unit→List Int×Int×Unit} (hp1:∀b,By b→b.length<1000000000→p1 (b,())=true) (hf1:∀b,By b→b.length<1000000000→Bt (f1 (b,())).1∧(f1 (b,())).2.1=0) {p2:Int×List Int×Int×Unit→Bool} {f2:Int×List Int×Int×Unit→Blk×List Int×Int×Unit} (hp2:∀n b p,Bt b→0≤p→p<500000000→p2 (n,b,p,())=true) (hf2:∀n b p,Bt b→0≤p→p<500000000→BoD b p (f2 (n,b,p,()))) (c:List Int) (hc:By c) (hl:c.length<1000000000):RQ (std 0) p1 f1 p2 f2 (c,()) (fun y=>y.1.ops.length<100000):=by
 obtain⟨hb,e0⟩:=hf1 c hc hl
 generalize hbe:(f1 (c,())).1=b at hb
 dsimp only [RQ,Alg.cl,Alg.cg,Alg.rb,Alg.bd,Alg.l1,Tup.q,Tup.o]
 simp (disch:=omega) only [RR,hp1 c hc hl,hbe,e0,hp2 12 b 0 hb (by omega) (by omega)]
 exact(hf2 12 b 0 hb (by omega) (by omega)).1
end Go.TX.F
namespace Go.TX.F
open Go Go.AE Go.TX
def ShC (l:List Cer):Prop:=l.length<1000∧∀q∈l,q.base.ops.length<1000000∧q.made.ops.length<1000000
theorem ShC.at {l:List Cer} (h:ShC l) (i:Nat):(l.getD i default).base.ops.length<1000000∧(l.getD i default).made.ops.length<1000000:=by
 by_cases c:i<l.length
 ·rw [getD_lt c];exact h.2 _ (List.getElem_mem _)
 ·rw [List.getD_eq_getElem?_getD,List.getElem?_eq_none (by omega)];exact⟨by decide,by decide⟩
theorem ShC.add {l:List Cer} (h:ShC l) (n:l.length<999) {q:Cer} (h1:q.base.ops.length<1000000) (h2:q.made.ops.length<1000000):ShC (l++ [q]):=by
 refine⟨by rw [List.length_append,List.length_singleton];omega,fun c g=> ?_⟩
 rw [List.mem_append,List.mem_singleton]at g
 rcases g with g | rfl
 ·exact h.2 c g
 ·exact⟨h1,h2⟩
end Go.TX.F
namespace Go.TX.F
open Go Go.AE Go.TX
theorem ao2 {p1:Blk×Blk×Unit→Bool} {f1:Blk×Blk×Unit→Bool×Unit} (hp1:∀b c,b.ops.length<1000000000→c.ops.length<1000000000→p1 (b,c,())=true) (hf1:∀b c,b.ops.length<1000000000→c.ops.length<1000000000→f1 (b,c,())=(chk b c,())) {p2:Blk×Unit→Bool} {f2:Blk×Unit→Blk×Unit} (hp2:∀b,b.ops.length<1000000→p2 (b,())=true) (hf2:∀b,b.ops.length<1000000→f2 (b,())=(kE b,())) {p3:Unit→Bool} {f3:Unit→Bool×Unit} (hp3:p3 ()=true) (hf3:f3 ()=(true,())) {p4:List Int×Unit→Bool} {f4:List Int×Unit→Blk×Unit} (hp4:∀c,By c→c.length<1000000000→p4 (c,())=true) (hf4:∀c,By c→c.length<1000000000→(f4 (c,())).1.ops.length<100000) {p5:Blk×Unit→Bool} {f5:Blk×Unit→Bool×Unit} (hp5:∀b,b.ops.length<1000000000→p5 (b,())=true) (hf5:∀b,b.ops.length<1000000000→f5 (b,())=(bp (bI b),())) (c:List Int) (hc:By c):Zu (std 0) p1 f1 p2 f2 p3 f3 p4 f4 p5 f5 (c,()) (fun y=>y=(true,())):=by
 dsimp only [Zu,Alg.cl,Alg.cg,Alg.rb,Alg.bd,Alg.l1,Tup.q,Tup.o]
 simp (disch:=omega) only [RR]
 by_cases hl:1048576< (c.length:Int)
 ·simp (disch:=omega) only [RR,hl]
 ·have D:=hf4 c hc (by omega)
  have P:=hp4 c hc (by omega)
  generalize (f4 (c,())).1=b at D ⊢
  have le:=AJ b
  have le2:=AJ (kE b)
  have mE:∀c:Blk,Co.mk .blk (c.pc,c.len,c.ops,c.fin,c.x,c.y,c.k,())=c:=fun _=>rfl
  have b1:b.ops.length<1000000:=by omega
  have b2:(kE b).ops.length<1000000:=by omega
  simp (disch:=omega) only [RR,hl,P,RB,hp2 b b1,hf2 b b1,mE,hp2 _ b2,hf2 _ b2,hp5 b (by omega),hf5 b (by omega),hp3,hf3]
  refine⟨fun h=>by rw [Jv (rU.1 h),Jv zF];rfl,fun h=> ?_⟩
  have lk:=Ju (bM.1 h)
  have lk2:=lk.trans (Ju lk.oc)
  rw [hf1 b _ (by omega) (by omega),lk2.chk,decide_eq_true (show((kE (kE b)).ops.length:Int)≤(kE b).ops.length by omega)]
  exact⟨hp1 b _ (by omega) (by omega),rfl⟩
end Go.TX.F
namespace Go.TX
open Go Go.AE
theorem enters_of {P:Program} {f:FuncId} {fn:Func} {c:Code} (hf:P.funcs[f]? =some fn) (hname:(fn.name== "runtime.NumGoroutine")=false) (hb:fn.body=some c):Enters P f:=by
 intro args w
 have h1:fn.name≠ "runtime.NumGoroutine" :=by simpa using hname
 simp [callFunc,hf,h1,hb,mark]
def UU (P:Program):Nat→List Field→Bool
 | _,[]=>true
 | k,f::fs=> !(f.name== "_")&&f.offset==k&& (match P.underlying f.type with | some (.int _)=>true | _=>false)&&UU P (k+1) fs
theorem UW {P:Program} (w:World) (d:Nat) (xs ys:List Int) (hl:xs.length=ys.length):∀(fs:List Field) (k:Nat),UU P k fs=true→k+fs.length=xs.length→
  (Op.eqFields (d+1) (xs.map (Value.int .i64)).toArray (ys.map (Value.int .i64)).toArray fs).run P w= .ok (xs.drop k==ys.drop k) w
 | [],k,_,h2=>by
  rw [List.drop_eq_nil_of_le (show xs.length≤k by simp only [List.length_nil]at h2;omega),List.drop_eq_nil_of_le (show ys.length≤k by simp only [List.length_nil]at h2;omega)]
  simp [Op.eqFields]
 | f::fs,k,h1,h2=>by
  simp only [List.length_cons]at h2
  simp only [UU,Bool.and_eq_true,Bool.not_eq_true',beq_eq_false_iff_ne,beq_iff_eq]at h1
  obtain⟨⟨⟨n1,n2⟩,n3⟩,n4⟩:=h1
  have hk:k<xs.length:=by omega
  have hk':k<ys.length:=by omega
  obtain⟨kd,hu⟩:∃kd,P.underlying f.type=some (.int kd):=by
   cases hu:P.underlying f.type with
   | none=>rw [hu]at n3;cases n3
   | some z=>cases z<;>(first | exact⟨_,rfl⟩ | (rw [hu]at n3;cases n3))
  have pk:P.plainKey f.type=true:=by unfold Program.plainKey;rw [hu]
  have p1:=run_part_plain w pk (xs:=(xs.map (Value.int .i64)).toArray) (off:=f.offset) (v:= .int .i64 xs[k]) (by rw [n2];simp [hk])
  have p2:=run_part_plain w pk (xs:=(ys.map (Value.int .i64)).toArray) (off:=f.offset) (v:= .int .i64 ys[k]) (by rw [n2];simp [hk'])
  have ih:=UW w d xs ys hl fs (k+1) n4 (by omega)
  simp only [Op.eqFields,if_pos n1,Sem.run_bind,p1,p2,Result.andThen_ok,run_equalIn_int w d f.type .i64 kd _ _ hu]
  have e:(xs.drop k==ys.drop k)=((xs[k]==ys[k])&& (xs.drop (k+1)==ys.drop (k+1))):=by rw [List.drop_eq_getElem_cons hk,List.drop_eq_getElem_cons hk'];rfl
  rw [e]
  by_cases c:(xs[k]==ys[k])=true
  ·rw [c]
   simp only [Bool.not_true,Bool.false_eq_true,if_false,ih,Bool.true_and]
  ·have c2:(xs[k]==ys[k])=false:=by simpa using c
   rw [c2]
   simp only [Bool.not_false,if_true,Sem.run_pure,Bool.false_and]
theorem aiy {P:Program} {t:TypeId} {n:Nat} (hu:P.underlying t=some (.struct (P.fieldsOf t))) (hs:P.stoodInHeld t=false) (hg:P.eqGuardType P.depth t=false) (hf:UU P 0 (P.fieldsOf t).toList=true) (hn:(P.fieldsOf t).size=n) (xs ys:List Int) (hx:xs.length=n) (hy:ys.length=n) (w:World):
  (Op.equal t (.agg (xs.map (Value.int .i64)).toArray) (.agg (ys.map (Value.int .i64)).toArray)).run P w= .ok (xs==ys) w∧
  (eqGuard .eql t (.tmp 0) (.tmp 0) (.agg (xs.map (Value.int .i64)).toArray) (.agg (ys.map (Value.int .i64)).toArray)).run P w= .ok () w:=by
 refine⟨?_,run_eqGuard_agg w _ _ _ _ _ _ hg⟩
 show(Op.equalIn (9999+1) t _ _).run P w=_
 rw [run_equalIn_struct w 9999 t _ _ hu hs,UW w 9998 xs ys (by omega) _ 0 hf (by rw [Array.length_toList];omega)]
 rfl
noncomputable def never (s:Sig):Ct aC s:={pre:=fun _=>false,fn:=fun _=>Classical.choice (tX _)}
theorem jM {E:Tab} {f:FuncId} {s:Sig} (h:Enters E.P f):cB E f (bY (never s)) where
 enters:=h
 calls:=by
  rintro args hh n K ⟨m,vs,h2,h3,h4,h5,cr,h6,h7,h8⟩
  exfalso
  unfold qQ at h6
  split at h6
  ·split at h6
   ·split at h6
    ·split at h6
     ·cases h6
      have:=h7 false (List.mem_append_right _ (List.mem_singleton.2 rfl))
      cases this
     ·cases h6
    ·cases h6
   ·cases h6
  ·cases h6
abbrev arR:Sig:={args:=[.c (.rows true .u8)],objs:=[],res:=[.c .bool],dK:=[]}
def entry (W:World):Ctx:={K:=fun _ b=>b<W.heap.size,μ:=fun _=>none,n:=0}
theorem Sl (W:World):bE (entry W) W []:=
 ⟨fun l o h=>(by cases h),fun l o l' o' b h=>(by cases h),fun f b ⟨l,o,h,_⟩=>(by cases h),fun f b h=>h,fun b h=>h⟩
theorem OO {W W':World} {c':Ctx} {h':Heap} (g:Grow (entry W) W [] c' W' h'):RowKit.Below W.heap.size W W':=
 ⟨g.os,g.tape,g.output,g.size,fun k hk=>g.kept k hk fun⟨l,o,h,_⟩=>by cases h⟩
theorem aco {c:Ctx} {w:World} {v:Value} {r:PV} {N:NM} {b:Bool} (h1:bD c w v r) (h2:PVR N r (.c (.d true (.bool b)))):v= .bool b:=by
 cases h2 with
 | one h=>
  cases h with
  | c h=>
   cases h with
   | d h3 _=>
    subst h3
    cases h1 with
    | c _ _ h4=>cases h4 with
     | d _ _ _ h5=>cases h5;rfl
  | agg h=>cases h
theorem arS {E:Tab} {f:FuncId} {c:Ct aC arR} (hc:cB E f (bY c)) {xs:List Int} {W:World} {v:Value} (hv:dI (fun b=>b<W.heap.size) W v (.rows 1 (aK .u8 xs)))
  (hg:qF E (entry W) W) (hp:c.pre (xs,())=true):Go.Calls E.P f #[v] W fun e W'=>e= .returned (.bool (c.fn (xs,())).1)∧RowKit.Below W.heap.size W W':=by
 refine(hc.calls [.c (.d true (.rows 1 (aK .u8 xs)))] [] 0 (fun r _ _=>PVR (nmh []) r (.c (.d true (.bool (c.fn (xs,())).1)))) ?_ (entry W) W [v] rfl (.cons (.c _ _ (.d true _ _ hv)) .nil) (Sl W) hg).mono ?_
 ·refine⟨0,[.c (.d true (.rows .u8 xs))],[],.cons (.one (.c (.d rfl fun _=> .inl rfl))) .nil,⟨fun l o h=>(by cases h),fun _ _=>rfl⟩,rfl,_,rfl,?_,_,_,rfl,?_⟩
  ·intro b hb
   rcases List.mem_append.1 hb with h | h
   ·cases h
   ·rw [List.mem_singleton]at h;rw [h];exact hp
  ·intro r _ _ h _ _ _;exact h
 ·rintro e W' he
  cases e with
  | returned u=>
   obtain⟨c',r,h',j,g,_,_,h1,h2⟩:=he
   exact⟨by rw [aco h1 h2],OO g⟩
  | outgrown=>exact he.elim
  | panicked _=>exact he.elim
open Go.RowKit Go.ChangeShapes Go.WideShapes Go.ChangeAt in
theorem aal {H:Type} {enc:TypeId×Value→H} {P:Program} {t e:TypeId} (ht:P.underlying t=some (.slice e)) (he:P.underlying e=some (.int .u8)) (hc:P.cellsOf e=1) {W:World} {base:Nat} {v:Value} {d:DataW H} {p:List MemPlace}
  (hval:Value.okWide P W .any base t v) (h:DataW.Trod enc P W 0 (fun _=>true) true t v d p) (hlt:∀x∈p,x.block<W.heap.size):
  ∃xs:List Int,dI (fun b=>b<W.heap.size) W v (.rows 1 (aK .u8 xs))∧∀z∈xs,0≤z∧z≤255:=by
 obtain⟨a0,len,cap,rfl⟩:=okWide_slice ht hval
 obtain⟨fuel,hf⟩:=h
 rcases open_ints ht he hc hf with⟨hcs,hx⟩ | ⟨a,len',cap',zs,hcs,_,hl,hm,hz,hx,hcell,hwz⟩
 ·simp [Value.cells]at hcs
  obtain⟨rfl,rfl,rfl⟩:=hcs
  exact⟨[],.none _ _ _,fun _ h=>by cases h⟩
 ·simp [Value.cells]at hcs
  obtain⟨rfl,rfl,rfl⟩:=hcs
  simp only [Prod.mk.injEq]at hx
  obtain⟨rfl,rfl⟩:=hx
  simp only [if_true]at hz
  have rng:∀z∈zs,0≤z∧z≤255:=fun z hz=>by
   obtain⟨i,hi,rfl⟩:=List.getElem_of_mem hz
   have:=range_u8 hwz i
   rwa [List.getElem?_eq_getElem hi]at this
  refine⟨zs.take len,?_,fun z h=>rng z (List.mem_of_mem_take h)⟩
  by_cases h0:len=0
  ·subst h0;exact .none _ _ _
  ·obtain⟨b,off,spot⟩:=a
   have hspot:spot=none:=by simpa [Addr.add]using World.cell?_spot (hcell 0 (by omega))
   subst hspot
   have hbW:b<W.heap.size:=hlt (.cell b off) (MemPlace.mem_row.2 ⟨0,by omega,by simp⟩)
   have hlen:(aK .u8 (zs.take len)).length=len:=by simp only [aK,List.length_map,List.length_take];omega
   have hget:∀i,i<len→(aK .u8 (zs.take len)).getD i []=[.int .u8 (zs.getD i 0)]:=fun i hi=>by
    simp only [aK,List.getD,List.getElem?_map,List.getElem?_take_of_lt hi,List.getElem?_eq_getElem (show i<zs.length by omega)]
    rfl
   refine .rows b off cap 1 len _ (fun i j=> .int .u8 (zs.getD i 0)) hbW hlen.symm hl (fun i j hi hj=> ?_) (fun i hi=> ?_) (fun i j hi hj=> ?_)
   ·rw [hlen]at hi
    have:=hcell i (by omega)
    rw [add_plain]at this
    rw [show off+i*1+j=off+i by omega]
    exact this
   ·rw [hlen]at hi;rw [hget i hi];rfl
   ·rw [hlen]at hi
    have hj0:j=0:=by omega
    subst hj0
    unfold gd;rw [hget i hi];exact .int _ _
end Go.TX
namespace Go.TX.Seat
open Go Go.AE Go.TX Go.TX.F Go.Proofs
set_option maxRecDepth 100000
theorem arT:∀t n,E.ieq t=some n→∀(xs ys:List Int),xs.length=n→ys.length=n→∀w,
  (Op.equal t (.agg (xs.map (Value.int .i64)).toArray) (.agg (ys.map (Value.int .i64)).toArray)).run E.P w= .ok (xs==ys) w∧
  (eqGuard .eql t (.tmp 0) (.tmp 0) (.agg (xs.map (Value.int .i64)).toArray) (.agg (ys.map (Value.int .i64)).toArray)).run E.P w= .ok () w:=by
 intro t n h
 obtain⟨c,hc,rfl⟩:∃c,ieq t=some c∧c.size=n:=by
  have h':(ieq t).map (fun c=>c.size)=some n:=h
  cases hi:ieq t with
  | none=>rw [hi]at h';cases h'
  | some c=>rw [hi]at h';cases h';exact⟨c,rfl,rfl⟩
 unfold ieq at hc
 split at hc
 all_goals first | (cases hc;exact aiy (by kernel_rfl) (by kernel_rfl) (by kernel_rfl) (by kernel_rfl) (by kernel_rfl)) | cases hc
theorem hE:aH E:=⟨arF,arT⟩
theorem arU:∀t c,X.ieq t=some c→(c= .ins∧E.ieq t=some 4)∨(c= .iop∧E.ieq t=some 5):=by
 intro t c h
 have h:ieq t=some c:=h
 have e:E.ieq t=(ieq t).map fun c=>c.size:=rfl
 rw [e,h]
 unfold ieq at h
 split at h
 all_goals first | (cases h;first | exact Or.inl ⟨rfl,rfl⟩ | exact Or.inr ⟨rfl,rfl⟩) | cases h
theorem xok:XOK X E:=⟨rfl,fun g c h=>(by cases h),arU⟩
theorem hm:E.P.follows .mixedOrders=true:=by kernel_rfl
theorem hlN:∀p∈([]:List (FuncId×Sigma (Ct aC))),cB E p.1 (bY p.2.2):=fun _ h=>by cases h
theorem hlC {f:FuncId} {s:Sig} {c:Ct aC s} {l:List (FuncId×Sigma (Ct aC))} (h:cB E f (bY c)) (r:∀p∈l,cB E p.1 (bY p.2.2)):∀p∈(f,⟨s,c⟩)::l,cB E p.1 (bY p.2.2):=fun p hp=>by
 rcases List.mem_cons.1 hp with rfl | hp
 ·exact h
 ·exact r p hp
@[reducible] def _root_.Go.TX.Fn.c {E : Tab} {f : FuncId} {s : Sig} {F : gU s.inp → (gU s.out → Prop) → Prop} {c : Ct aC s} (_ : Fn E f F c) : Ct aC s := c
theorem mk {lk:aF} {f:FuncId} {fn:Func} (hf:E.P.funcs[f]? =some fn) {l:List (FuncId×Sigma (Ct aC))} (hl:∀p∈l,cB E p.1 (bY p.2.2)) {ord:List (Nat×List fD)} {s:Sig} {an:Ann}
 {F:gU s.inp→(gU s.out→Prop)→Prop} (h:Ru X E (std 0) ord an s fn l F) (hb:fn.body.isSome=true:=by rfl) (hn:(fn.name== "runtime.NumGoroutine")=false:=by kernel_rfl):Fn E f F (cn F):=aqU hE xok hm hf hb (fun _=>enters_of hf hn) hl h
theorem aam {E:Tab} {f:FuncId} {c:Ct aC {args:=[.c (.int .u64)],objs:=[],res:=[.c (.int .i64)],dK:=[]}} {g:Int→Int} (hent:Enters E.P f) (hg:(fun x:Int=>(c.fn (x,())).1)=g)
  (h:∀(x:Int) (w:World),c.pre (x,())=true→Go.Calls E.P f #[.int .u64 x] w fun e w'=>e= .returned (.int .i64 (g x))∧w'=w):cB E f (bY c) where
 enters:=hent
 calls:=by
  rintro args hh n K ⟨m,qs,hs,hargs,HR,hlen,cr,hcall,abL,v,kT,hvk,hK⟩ c1 w vs hcn qp Hh Gl
  have key:∀f0 (x:Int),qs=[.c (.d f0 (.int .u64 x))]→qQ (std m) hs {args:=[.c (.int .u64)],objs:=[],res:=[.c (.int .i64)],dK:=[]} c qs=some {ck:=[c.pre (x,())],ts:=[.i],y:=c.fn (x,()),touched:=[],pure:=true,k:=fun y=>some (.c (.d true (.int .i64 y.1)),hs)}:=by
   intro f0 x e;subst e;rfl
  have hq:∃f0 x,qs=[.c (.d f0 (.int .u64 x))]:=by
   unfold qQ at hcall
   cases qs with
   | nil=>simp [nQ]at hcall
   | cons q r=>
    cases r with
    | cons q2 r2=>
     exfalso
     simp only [nQ]at hcall
     cases hx:Ir (std m) hs (.c (.int .u64)) q (es0 (std m) 0 [])with
     | none=>rw [hx]at hcall;simp at hcall
     | some s=>rw [hx]at hcall;simp [nQ]at hcall
    | nil=>
     simp only [nQ]at hcall
     cases q with
     | c y=>
      simp only [Ir,extC]at hcall
      cases y with
      | d f0 y=>
       cases y with
       | int k x=>
        by_cases hk:IntKind.u64=k
        ·subst hk;exact⟨f0,x,rfl⟩
        ·simp [hk]at hcall
       | _=>simp at hcall
      | _=>simp at hcall
     | _=>simp [Ir]at hcall
  obtain⟨f0,x,rfl⟩:=hq
  rw [key f0 x rfl]at hcall
  simp only [Option.some.injEq]at hcall
  subst hcall
  simp only [Option.some.injEq,Prod.mk.injEq]at hvk
  obtain⟨rfl,rfl⟩:=hvk
  have hpre:=abL _ (List.mem_singleton.2 rfl)
  have hv:vs=[.int .u64 x]:=by
   cases hargs with
   | cons h1 h2=>
    cases h2
    cases qp with
    | cons h3 h4=>
     cases h4
     cases h1 with
     | one h1=>
      cases h1 with
      | c h1=>
       cases h1 with
       | d h5 _=>
        subst h5
        cases h3 with
        | c _ _ h6=>cases h6 with
         | d _ _ _ h7=>cases h7;rfl
      | agg h1=>cases h1
  subst hv
  refine(h x w hpre).mono ?_
  rintro e w' ⟨rfl,rfl⟩
  refine⟨c1,.c (.d true (.int .i64 (g x))),hh,0,.refl _ _ _,Hh,hcn,.c _ _ (.d _ _ _ (.int _ _)),hK _ _ _ ?_ HR (.refl _ _ _) hlen⟩
  rw [←hg]
  exact .one (.c (.d rfl fun _=> .inl rfl))
end Go.TX.Seat
namespace Go.TX.F
open Go Go.AE Go.TX Go.TX.Seat Go.Proofs
set_option maxRecDepth 100000
def pJ:=mk Tryz.func78 hlN (agi (std 0))
noncomputable def bQ:=pJ.c
def yI:=fun n b p hb h1 h2=>(pJ.cs (ZR n b p hb h1 h2)).1
def yJ:=fun n b p hb h1 h2=>(pJ.cs (ZR n b p hb h1 h2)).2
def Sn:=mk Tryz.func91 (hlC pJ.ok hlN) (agj (std 0) bQ)
noncomputable def Gr:=Sn.c
def qA:=fun n b p hb h1 h2=>Sn.cs (ahP yI yJ n b p hb h1 h2)
def aiz:=fun n b p hb h1 h2=>(qA n b p hb h1 h2).1
def aiA:=fun n b p hb h1 h2=>(qA n b p hb h1 h2).2
def pK:=mk Tryz.func61 hlN (agk (std 0))
noncomputable def bR:=pK.c
def uR:=fun a b c=>(pK.cs (ZI a b c)).1
def uS:=fun a b c=>(pK.cs (ZI a b c)).2
def AL:=mk Tryz.func115 hlN (agl (std 0))
noncomputable def je:=AL.c
def Sq:=fun a=>(AL.cs (ZJ a)).1
def Sr:=fun a=>(AL.cs (ZJ a)).2
def Sv:=mk Tryz.func156 (hlC pK.ok hlN) (agm (std 0) bR)
noncomputable def FX:=Sv.c
def uT:=fun k=>Sv.cs (ahV uR uS k)
def aiB:=fun k=>(uT k).1
def aiC:=fun k=>(uT k).2
def KN:=mk Tryz.func116 (hlC Sv.ok hlN) (agn (std 0) FX)
noncomputable def oW:=KN.c
def zH:=fun ops x n h1=>KN.cs (ahW aiB aiC ops x n h1)
def aan:=fun ops x n h1=>(zH ops x n h1).1
def aao:=fun ops x n h1=>(zH ops x n h1).2
def Sw:=mk Tryz.func62 (hlC AL.ok (hlC pK.ok (hlC KN.ok hlN))) (agp (std 0) je bR oW)
noncomputable def FZ:=Sw.c
def BQ:=fun ops i len h0 h1 h3=>Sw.cs (ahX Sq Sr uR uS aan aao ops i len h0 h1 h3)
def aiD:=fun ops i len h0 h1 h3=>(BQ ops i len h0 h1 h3).1
def aiE:=fun ops i len h0 h1 h3=>(BQ ops i len h0 h1 h3).2
def Sy:=mk Tryz.func63 (hlC AL.ok (hlC KN.ok hlN)) (agq (std 0) je oW)
noncomputable def FY:=Sy.c
def zI:=fun b=>Sy.cs (ahY Sq Sr aan aao b)
def aiF:=fun b=>(zI b).1
def aiG:=fun b=>(zI b).2
def uU:=mk Tryz.func19 (hlC pK.ok (hlC Sy.ok (hlC Sw.ok hlN))) (agr (std 0) bR FY FZ)
noncomputable def dx:=uU.c
def BR:=fun b h2=>uU.cs (ahZ uR uS aiF aiG aiD aiE b h2)
def AO:=fun b h2=>(BR b h2).1
def AP:=fun b h2=>(BR b h2).2
def AQ:=mk Tryz.func59 hlN (ags (std 0))
noncomputable def jf:=AQ.c
def Sz:=fun b hb=>(AQ.cs (aac b hb)).1
def SA:=fun b hb=>(AQ.cs (aac b hb)).2
def Ia:=mk Tryz.func60 (hlC pK.ok hlN) (agt (std 0) bR)
noncomputable def oZ:=Ia.c
def aap:=fun o al hk hx hy=>(Ia.cs (aaf uR uS o al hk hx hy)).1
def aaq:=fun o al hk hx hy=>(Ia.cs (aaf uR uS o al hk hx hy)).2
def KO:=mk Tryz.func18 (hlC uU.ok (hlC Ia.ok (hlC AQ.ok hlN))) (agu (std 0) dx oZ jf)
noncomputable def o9:=KO.c
def uV:=fun b hb=>KO.cs (air AO AP aap aaq Sz SA b hb)
def aar:=fun b hb=>(uV b hb).1
def aas:=fun b hb=>(uV b hb).2
def KQ:=mk Tryz.func130 (hlC Ia.ok hlN) (agv (std 0) oZ)
noncomputable def o7:=KQ.c
def uW:=fun b kp ok hk=>KQ.cs (ain aap aaq b kp ok hk)
def aat:=fun b kp ok hk=>(uW b kp ok hk).1
def aau:=fun b kp ok hk=>(uW b kp ok hk).2
def SB:=mk Tryz.func131 (hlC uU.ok (hlC pK.ok hlN)) (agw (std 0) dx bR)
noncomputable def F3:=SB.c
def uX:=fun b hb=>SB.cs (ail AO AP uR uS b hb)
def aiH:=fun b hb=>(uX b hb).1
def aiI:=fun b hb=>(uX b hb).2
def SE:=mk Tryz.func70 (hlC uU.ok (hlC SB.ok (hlC KQ.ok hlN))) (agx (std 0) dx F3 o7)
noncomputable def Ga:=SE.c
def uY:=fun b hb=>SE.cs (aio AO AP aiH aiI aat aau b hb)
def aiJ:=fun b hb=>(uY b hb).1
def aiK:=fun b hb=>(uY b hb).2
def KR:=mk Tryz.func132 hlN (agy (std 0))
noncomputable def F4:=KR.c
def aiL:=fun ops k h0 h1 h2=>(KR.cs (aag ops k h0 h1 h2)).1
def aiM:=fun ops k h0 h1 h2=>(KR.cs (aag ops k h0 h1 h2)).2
def SF:=mk Tryz.func71 (hlC uU.ok (hlC KQ.ok (hlC KR.ok hlN))) (agz (std 0) dx o7 F4)
noncomputable def Gb:=SF.c
def uZ:=fun b hb=>SF.cs (aip AO AP aat aau aiL aiM b hb)
def aiN:=fun b hb=>(uZ b hb).1
def aiO:=fun b hb=>(uZ b hb).2
def Ib:=mk Tryz.func133 hlN (agA (std 0))
noncomputable def o8:=Ib.c
def aav:=fun ops k=>(Ib.cs (aad ops k)).1
def aaw:=fun ops k=>(Ib.cs (aad ops k)).2
def KS:=mk Tryz.func169 hlN (agB (std 0))
noncomputable def F5:=KS.c
def aiP:=fun a=>(KS.cs (ZL a)).1
def aiQ:=fun a=>(KS.cs (ZL a)).2
def SG:=mk Tryz.func134 (hlC KS.ok (hlC AL.ok hlN)) (agC (std 0) F5 je)
noncomputable def F7:=SG.c
def zJ:=fun op a b=>SG.cs (ahN Sq Sr aiP aiQ op a b)
def aiR:=fun op a b=>(zJ op a b).1
def aiS:=fun op a b=>(zJ op a b).2
def KT:=mk Tryz.func170 hlN (agD (std 0))
noncomputable def F6:=KT.c
def aiT:=fun b k=>(KT.cs (aae b k)).1
def aiU:=fun b k=>(KT.cs (aae b k)).2
def SH:=mk Tryz.func135 (hlC KT.ok (hlC Ib.ok hlN)) (agE (std 0) F6 o8)
noncomputable def F8:=SH.c
def u7:=fun b h=>SH.cs (aii aiT aiU aav aaw b h)
def aiV:=fun b h=>(u7 b h).1
def aiW:=fun b h=>(u7 b h).2
def SK:=mk Tryz.func72 (hlC uU.ok (hlC SG.ok (hlC SH.ok (hlC Ib.ok (hlC AQ.ok hlN))))) (agF (std 0) dx F7 F8 o8 jf)
noncomputable def F9:=SK.c
def rW:=fun b hb=>SK.cs (aik AO AP aiR aiS aiV aiW aav aaw Sz SA b hb)
def aiX:=fun b hb=>(rW b hb).1
def aiY:=fun b hb=>(rW b hb).2
def SL:=mk Tryz.func25 (hlC SK.ok (hlC KO.ok (hlC SE.ok (hlC SF.ok hlN)))) (agG (std 0) F9 o9 Ga Gb)
noncomputable def Gp:=SL.c
def xG:=fun b hb=>SL.cs (aij aiX aiY aar aas aiJ aiK aiN aiO b hb)
def aiZ:=fun b hb=>(xG b hb).1
def ai0:=fun b hb=>(xG b hb).2
def SN:=mk Tryz.func179 (hlC pJ.ok hlN) (agH (std 0) bQ)
noncomputable def Gd:=SN.c
def xH:=fun b p hb h1 h2=>SN.cs (aic yI yJ b p hb h1 h2)
def ai1:=fun b p hb h1 h2=>(xH b p hb h1 h2).1
def ai2:=fun b p hb h1 h2=>(xH b p hb h1 h2).2
def SQ:=mk Tryz.func237 hlN (agI (std 0))
noncomputable def Gc:=SQ.c
def ai3:=fun i=>(SQ.cs (ah1 i)).1
def KU:=mk Tryz.func181 (hlC pK.ok (hlC SQ.ok hlN)) (agJ (std 0) bR Gc)
noncomputable def pz:=KU.c
def KV:=fun i=>KU.cs (ah2 uR uS ai3 i)
def aax:=fun i=>(KV i).1
def KW:=mk Tryz.func182 hlN (agK (std 0))
noncomputable def pq:=KW.c
def aay:=fun i=>(KW.cs (ah3 i)).1
def KY:=mk Tryz.func180 (hlC KW.ok (hlC KU.ok hlN)) (agL (std 0) pq pz)
noncomputable def pE:=KY.c
def Ic:=fun i=>KY.cs (ah4 aay aax i)
def aaz:=fun i=>(Ic i).1
def SX:=mk Tryz.func143 (hlC SN.ok (hlC pJ.ok (hlC KY.ok hlN))) (agM (std 0) Gd bQ pE)
noncomputable def Gf:=SX.c
def vg:=fun b p hb h1 h2=>SX.cs (aie ai1 ai2 yI yJ aaz b p hb h1 h2)
def ai4:=fun b p hb h1 h2=>(vg b p hb h1 h2).1
def ai5:=fun b p hb h1 h2=>(vg b p hb h1 h2).2
def SY:=mk Tryz.func92 (hlC SX.ok (hlC pJ.ok hlN)) (agN (std 0) Gf bQ)
noncomputable def Gq:=SY.c
def vk:=fun b p hb h1 h2=>SY.cs (aif ai4 ai5 yI yJ b p hb h1 h2)
def ai6:=fun b p hb h1 h2=>(vk b p hb h1 h2).1
def ai7:=fun b p hb h1 h2=>(vk b p hb h1 h2).2
def S9:=mk Tryz.func145 (hlC KW.ok (hlC KU.ok (hlC pK.ok (hlC KY.ok hlN)))) (agO (std 0) pq pz bR pE)
noncomputable def Gj:=S9.c
def KZ:=fun pc l hl=>S9.cs (ah5 aay aax uR uS aaz pc l hl)
def ai8:=fun pc l hl=>(KZ pc l hl).1
def vo:=mk Tryz.func183 hlN (agP (std 0))
noncomputable def eP:=vo.c
def yK:=fun a1 a2 a3 a4 a5 a6 o ops hl=>(vo.cs (Z6 a1 a2 a3 a4 a5 a6 o ops hl)).1
def yL:=fun a1 a2 a3 a4 a5 a6 o ops hl=>(vo.cs (Z6 a1 a2 a3 a4 a5 a6 o ops hl)).2
def Ie:=mk Tryz.func184 (hlC vo.ok hlN) (agQ (std 0) eP)
noncomputable def pG:=Ie.c
def aaA:=fun a1 a2 a3 a4 a5 a6 k x ops hl=>(Ie.cs (Z8 yK yL a1 a2 a3 a4 a5 a6 k x ops hl)).1
def aaB:=fun a1 a2 a3 a4 a5 a6 k x ops hl=>(Ie.cs (Z8 yK yL a1 a2 a3 a4 a5 a6 k x ops hl)).2
def yM:=mk Tryz.func185 (hlC vo.ok hlN) (agR (std 0) eP)
noncomputable def gJ:=yM.c
def Ig:=fun a1 a2 a3 a4 a5 a6 k ops hl=>(yM.cs (Z7 yK yL a1 a2 a3 a4 a5 a6 k ops hl)).1
def Ih:=fun a1 a2 a3 a4 a5 a6 k ops hl=>(yM.cs (Z7 yK yL a1 a2 a3 a4 a5 a6 k ops hl)).2
def K4:=mk Tryz.func186 (hlC yM.ok (hlC vo.ok hlN)) (agS (std 0) gJ eP)
noncomputable def pF:=K4.c
def rX:=fun a1 a2 a3 a4 a5 a6 k a o ops hl=>K4.cs (ah6 Ig Ih yK yL a1 a2 a3 a4 a5 a6 k a o ops hl)
def aaC:=fun a1 a2 a3 a4 a5 a6 k a o ops hl=>(rX a1 a2 a3 a4 a5 a6 k a o ops hl).1
def aaD:=fun a1 a2 a3 a4 a5 a6 k a o ops hl=>(rX a1 a2 a3 a4 a5 a6 k a o ops hl).2
def Ta:=mk Tryz.func187 hlN (agT (std 0))
noncomputable def Gi:=Ta.c
def ai9:=fun k hk=>(Ta.cs (ah8 k hk)).1
def Tc:=mk Tryz.func188 (hlC yM.ok (hlC vo.ok (hlC K4.ok (hlC Ie.ok hlN)))) (agU (std 0) gJ eP pF pG)
noncomputable def Gh:=Tc.c
def vw:=fun a1 a2 a3 a4 a5 a6 i k ops hl=>Tc.cs (ah7 Ig Ih yK yL aaC aaD aaA aaB a1 a2 a3 a4 a5 a6 i k ops hl)
def aja:=fun a1 a2 a3 a4 a5 a6 i k ops hl=>(vw a1 a2 a3 a4 a5 a6 i k ops hl).1
def ajb:=fun a1 a2 a3 a4 a5 a6 i k ops hl=>(vw a1 a2 a3 a4 a5 a6 i k ops hl).2
def K6:=mk Tryz.func189 (hlC yM.ok hlN) (agV (std 0) gJ)
noncomputable def Gg:=K6.c
def ajc:=fun a1 a2 a3 a4 a5 a6 i ops hl=>(K6.cs (Z9 Ig Ih a1 a2 a3 a4 a5 a6 i ops hl)).1
def ajd:=fun a1 a2 a3 a4 a5 a6 i ops hl=>(K6.cs (Z9 Ig Ih a1 a2 a3 a4 a5 a6 i ops hl)).2
def Td:=mk Tryz.func146 (hlC yM.ok (hlC K6.ok (hlC vo.ok (hlC Tc.ok (hlC K4.ok (hlC Ie.ok (hlC Ta.ok hlN))))))) (agW (std 0) gJ Gg eP Gh pF pG Gi)
noncomputable def Gm:=Td.c
def zK:=fun a1 a2 a3 a4 a5 a6 i k ops hk hl=>Td.cs (ah9 Ig Ih ajc ajd yK yL aja ajb aaC aaD aaA aaB ai9 a1 a2 a3 a4 a5 a6 i k ops hk hl)
def aje:=fun a1 a2 a3 a4 a5 a6 i k ops hk hl=>(zK a1 a2 a3 a4 a5 a6 i k ops hk hl).1
def ajf:=fun a1 a2 a3 a4 a5 a6 i k ops hk hl=>(zK a1 a2 a3 a4 a5 a6 i k ops hk hl).2
def Te:=mk Tryz.func94 (hlC S9.ok (hlC Td.ok hlN)) (agX (std 0) Gj Gm)
noncomputable def Gn:=Te.c
def rY:=fun pc l hl hk=>Te.cs (aia ai8 aje ajf pc l hl hk)
def ajg:=fun pc l hl hk=>(rY pc l hl hk).1
def ajh:=fun pc l hl hk=>(rY pc l hl hk).2
def Tf:=mk Tryz.func111 (hlC Te.ok (hlC SL.ok (hlC KO.ok (hlC pJ.ok (hlC SY.ok hlN))))) (agY (std 0) Gn Gp o9 bQ Gq)
noncomputable def Gt:=Tf.c
def rZ:=fun b p hb h1 h2=>Tf.cs (ais ajg ajh aiZ ai0 aar aas yI yJ ai6 ai7 b p hb h1 h2)
def aji:=fun b p hb h1 h2=>(rZ b p hb h1 h2).1
def ajj:=fun b p hb h1 h2=>(rZ b p hb h1 h2).2
end Go.TX.F
namespace Go.TX.F
open Go Go.AE Go.TX Go.TX.Seat Go.Proofs
set_option maxRecDepth 100000
def Tg:=mk Tryz.func112 (hlC pJ.ok (hlC AQ.ok hlN)) (agZ (std 0) bQ jf)
noncomputable def Gs:=Tg.c
def vB:=fun c b p hc hb h1 h2=>Tg.cs (ait yI yJ Sz SA c b p hc hb h1 h2)
def ajk:=fun c b p hc hb h1 h2=>(vB c b p hc hb h1 h2).1
def ajl:=fun c b p hc hb h1 h2=>(vB c b p hc hb h1 h2).2
def Ti:=mk Tryz.func55 (hlC Sn.ok (hlC pJ.ok (hlC Tg.ok (hlC Tf.ok hlN)))) (ag0 (std 0) Gr bQ Gs Gt)
noncomputable def G6:=Ti.c
def oh:=fun n b p hb h1 h2=>Ti.cs (aiu aiz aiA yI yJ ajk ajl aji ajj n b p hb h1 h2)
def ajm:=fun n b p hb h1 h2=>(oh n b p hb h1 h2).1
def ajn:=fun n b p hb h1 h2=>(oh n b p hb h1 h2).2
def K7:=mk Tryz.func56 hlN (ag1 (std 0))
noncomputable def G5:=K7.c
def ajo:=fun b hb hl=>(K7.cs (ZQ b hb hl)).1
def ajp:=fun b hb hl=>(K7.cs (ZQ b hb hl)).2
def kW:=mk Tryz.func73 hlN (amF (std 0))
noncomputable def aU:=kW.c
def kX:=fun a b c=>(kW.cs (acU a b c)).1
def kY:=fun a b c=>(kW.cs (acU a b c)).2
def zL:=mk Tryz.func64 (hlC kW.ok hlN) (amG (std 0) aU)
noncomputable def fM:=zL.c
def Jy:=fun a=>(zL.cs (acV kX kY a)).1
def Jz:=fun a=>(zL.cs (acV kX kY a)).2
def JA:=mk Tryz.func113 (hlC kW.ok hlN) (amH (std 0) aU)
noncomputable def jv:=JA.c
def r9:=fun o=>JA.cs (aou kX kY o)
def UY:=fun o=>(r9 o).1
def UZ:=fun o=>(r9 o).2
def OP:=mk Tryz.func136 (hlC kW.ok hlN) (amI (std 0) aU)
noncomputable def wQ:=OP.c
def ac9:=fun a=>(OP.cs (acX kX kY a)).1
def ada:=fun a=>(OP.cs (acX kX kY a)).2
def OQ:=mk Tryz.func137 (hlC kW.ok hlN) (amJ (std 0) aU)
noncomputable def wP:=OQ.c
def adb:=fun a=>(OQ.cs (acW kX kY a)).1
def ade:=fun a=>(OQ.cs (acW kX kY a)).2
def aaE:=mk Tryz.func171 (hlC kW.ok hlN) (amK (std 0) aU)
noncomputable def NG:=aaE.c
def kZ:=fun o=>aaE.cs (aov kX kY o)
def ao3:=fun o=>(kZ o).1
def ao4:=fun o=>(kZ o).2
def U0:=mk Tryz.func138 (hlC aaE.ok (hlC kW.ok hlN)) (amL (std 0) NG aU)
noncomputable def wO:=U0.c
def lg:=fun b x n h0 h1 h2=>U0.cs (aox ao3 ao4 kX kY b x n h0 h1 h2)
def adf:=fun b x n h0 h1 h2=>(lg b x n h0 h1 h2).1
def adg:=fun b x n h0 h1 h2=>(lg b x n h0 h1 h2).2
def aaF:=mk Tryz.func74 (hlC U0.ok (hlC JA.ok (hlC zL.ok (hlC kW.ok (hlC OQ.ok (hlC OP.ok hlN)))))) (amM (std 0) wO jv fM aU wP wQ)
noncomputable def NI:=aaF.c
def lN:=fun b i h0 h1 h2 h3=>aaF.cs (aoy adf adg UY UZ Jy Jz kX kY adb ade ac9 ada b i h0 h1 h2 h3)
def ao5:=fun b i h0 h1 h2 h3=>(lN b i h0 h1 h2 h3).1
def ao6:=fun b i h0 h1 h2 h3=>(lN b i h0 h1 h2 h3).2
def Ii:=mk Tryz.func114 hlN (amN (std 0))
noncomputable def jw:=Ii.c
def U1:=fun b=>(Ii.cs (ac6 b)).1
def U2:=fun b=>(Ii.cs (ac6 b)).2
def aaG:=mk Tryz.func75 (hlC Ii.ok (hlC U0.ok (hlC zL.ok (hlC kW.ok hlN)))) (amO (std 0) jw wO fM aU)
noncomputable def NH:=aaG.c
def lu:=fun b h2=>aaG.cs (aoz U1 U2 adf adg Jy Jz kX kY b h2)
def ao7:=fun b h2=>(lu b h2).1
def ao8:=fun b h2=>(lu b h2).2
def BS:=mk Tryz.func26 (hlC aaG.ok (hlC aaF.ok (hlC kW.ok hlN))) (amP (std 0) NH NI aU)
noncomputable def fO:=BS.c
def BU:=fun b h2=>BS.cs (aoA ao7 ao8 ao5 ao6 kX kY b h2)
def JB:=fun b h2=>(BU b h2).1
def JC:=fun b h2=>(BU b h2).2
def OT:=mk Tryz.func57 hlN (amQ (std 0))
noncomputable def wR:=OT.c
def adh:=fun b hb=>(OT.cs (ac7 b hb)).1
def adi:=fun b hb=>(OT.cs (ac7 b hb)).2
def U3:=mk Tryz.func58 (hlC Ii.ok (hlC JA.ok hlN)) (amR (std 0) jw jv)
noncomputable def wS:=U3.c
def jS:=fun nm pc len fin x y k ops h=>U3.cs (aoU U1 U2 UY UZ nm pc len fin x y k ops h)
def adk:=fun nm pc len fin x y k ops h=>(jS nm pc len fin x y k ops h).1
def adl:=fun nm pc len fin x y k ops h=>(jS nm pc len fin x y k ops h).2
def aaH:=mk Tryz.func16 (hlC OT.ok (hlC U3.ok (hlC BS.ok hlN))) (amS (std 0) wR wS fO)
noncomputable def Oo:=aaH.c
def vC:=fun b hb=>aaH.cs (aoX adh adi adk adl JB JC b hb)
def ao9:=fun b hb=>(vC b hb).1
def apa:=fun b hb=>(vC b hb).2
def aaI:=mk Tryz.func20 (hlC zL.ok hlN) (amT (std 0) fM)
noncomputable def Ox:=aaI.c
def BX:=aaI.cs (aop Jy Jz)
def apb:=(BX).1
def apc:=(BX).2
def aaJ:=mk Tryz.func65 (hlC Ii.ok (hlC JA.ok hlN)) (amU (std 0) jw jv)
noncomputable def Oj:=aaJ.c
def lQ:=fun b ok=>aaJ.cs (aoY U1 U2 UY UZ b ok)
def apd:=fun b ok=>(lQ b ok).1
def ape:=fun b ok=>(lQ b ok).2
def K8:=mk Tryz.func117 hlN (ag2 (std 0))
noncomputable def Gu:=K8.c
def ajq:=fun a b ha=>(K8.cs (aaj a b ha)).1
def ajr:=fun a b ha=>(K8.cs (aaj a b ha)).2
def aaK:=mk Tryz.func66 (hlC K8.ok hlN) (amV (std 0) Gu)
noncomputable def Oe:=aaK.c
def xI:=fun a b ha=>aaK.cs (aoO ajq ajr a b ha)
def apf:=fun a b ha=>(xI a b ha).1
def apg:=fun a b ha=>(xI a b ha).2
def U4:=mk Tryz.func252 hlN (amW (std 0))
noncomputable def NJ:=U4.c
def aph:=fun a n=>(U4.cs (acY a n)).1
def apj:=fun a n=>(U4.cs (acY a n)).2
def Tj:=mk Tryz.func275 (hlC U4.ok hlN) (ag3 (std 0) NJ)
noncomputable def Gw:=Tj.c
def iI:=fun a n ha=>Tj.cs (ahB aph apj a n ha)
def ajs:=fun a n ha=>(iI a n ha).1
def ajt:=fun a n ha=>(iI a n ha).2
def Tk:=mk Tryz.func251 (hlC Tj.ok hlN) (ag4 (std 0) Gw)
noncomputable def Gx:=Tk.c
def gN:=fun a n ha=>Tk.cs (ahC ajs ajt a n ha)
def aju:=fun a n ha=>(gN a n ha).1
def ajv:=fun a n ha=>(gN a n ha).2
def U5:=mk Tryz.func210 (hlC Tk.ok hlN) (amX (std 0) Gx)
noncomputable def wT:=U5.c
def su:=fun a n ha=>U5.cs (anY aju ajv a n ha)
def adn:=fun a n ha=>(su a n ha).1
def ado:=fun a n ha=>(su a n ha).2
def aaL:=mk Tryz.func257 hlN (arG (std 0))
noncomputable def Iu:=aaL.c
def apk:=fun a=>(aaL.cs (anU a)).1
def apl:=fun a=>(aaL.cs (anU a)).2
def aaM:=mk Tryz.func217 (hlC aaL.ok hlN) (arH (std 0) Iu)
noncomputable def yE:=aaM.c
def om:=fun a b=>aaM.cs (arL apk apl a b)
def ajw:=fun a b=>(om a b).1
def ajx:=fun a b=>(om a b).2
def aaN:=mk Tryz.func218 hlN (arI (std 0))
noncomputable def Iw:=aaN.c
def apm:=fun a b=>(aaN.cs (anV a b)).1
def apn:=fun a b=>(aaN.cs (anV a b)).2
def aaO:=mk Tryz.func258 (hlC aaM.ok hlN) (amY (std 0) yE)
noncomputable def NK:=aaO.c
def iU:=fun a b ha=>aaO.cs (anW ajw ajx a b ha)
def apo:=fun a b ha=>(iU a b ha).1
def apq:=fun a b ha=>(iU a b ha).2
def JD:=mk Tryz.func219 (hlC aaN.ok (hlC aaM.ok (hlC aaO.ok hlN))) (amZ (std 0) Iw yE NK)
noncomputable def jy:=JD.c
def oq:=fun a b ha=>JD.cs (anX ajw ajx apo apq apm apn a b ha)
def U6:=fun a b ha=>(oq a b ha).1
def U7:=fun a b ha=>(oq a b ha).2
def aaP:=mk Tryz.func259 (hlC aaL.ok hlN) (arJ (std 0) Iu)
noncomputable def yF:=aaP.c
def vD:=fun a b=>aaP.cs (arM apk apl a b)
def apr:=fun a b=>(vD a b).1
def aps:=fun a b=>(vD a b).2
def Tm:=mk Tryz.func221 (hlC aaP.ok hlN) (ag5 (std 0) yF)
noncomputable def Gz:=Tm.c
def iQ:=fun a ha=>Tm.cs (ahA apr aps a ha)
def ajy:=fun a ha=>(iQ a ha).1
def ajz:=fun a ha=>(iQ a ha).2
def U8:=mk Tryz.func223 hlN (am0 (std 0))
noncomputable def NP:=U8.c
def apt:=fun m=>(U8.cs (acZ m)).1
def apu:=fun m=>(U8.cs (acZ m)).2
def Tn:=mk Tryz.func260 (hlC U8.ok hlN) (ag6 (std 0) NP)
noncomputable def Gy:=Tn.c
def dh:=fun a ha=>Tn.cs (ahD (G:=(fun m:aj=>0<m.atoms.length∧m.atoms.getD 0 default<0)) apt apu a ha)
def ajA:=fun a ha=>(dh a ha).1
def ajB:=fun a ha=>(dh a ha).2
def Tp:=mk Tryz.func222 (hlC Tn.ok hlN) (ag7 (std 0) Gy)
noncomputable def GA:=Tp.c
def cu:=fun a ha=>Tp.cs (ahE (G:=(fun m:aj=>0<m.atoms.length∧m.atoms.getD 0 default<0)) ajA ajB a ha)
def ajC:=fun a ha=>(cu a ha).1
def ajD:=fun a ha=>(cu a ha).2
def zN:=mk Tryz.func164 (hlC kW.ok (hlC U5.ok (hlC Tm.ok (hlC JD.ok (hlC Tp.ok hlN))))) (am1 (std 0) aU wT Gz jy GA)
noncomputable def dV:=zN.c
def zO:=fun a ha=>zN.cs (anZ kX kY adn ado ajy ajz U6 U7 ajC ajD a ha)
def Ij:=fun a ha=>(zO a ha).1
def Ik:=fun a ha=>(zO a ha).2
end Go.TX.F
namespace Go.TX.F
open Go Go.AE Go.TX Go.TX.Seat Go.Proofs
set_option maxRecDepth 100000
def U9:=mk Tryz.func158 (hlC kW.ok (hlC OQ.ok (hlC U5.ok (hlC zN.ok (hlC OP.ok hlN))))) (am2 (std 0) aU wP wT dV wQ)
noncomputable def wU:=U9.c
def jN:=fun a n ha=>U9.cs (aod kX kY adb ade adn ado Ij Ik ac9 ada a n ha)
def adp:=fun a n ha=>(jN a n ha).1
def adq:=fun a n ha=>(jN a n ha).2
def OU:=mk Tryz.func161 (hlC aaN.ok (hlC aaM.ok (hlC JD.ok hlN))) (am3 (std 0) Iw yE jy)
noncomputable def mX:=OU.c
def sw:=fun a b ha=>OU.cs (an0 apm apn ajw ajx U6 U7 a b ha)
def aaQ:=fun a b ha=>(sw a b ha).1
def aaR:=fun a b ha=>(sw a b ha).2
def BZ:=mk Tryz.func128 (hlC OU.ok hlN) (am4 (std 0) mX)
noncomputable def fP:=BZ.c
def lS:=fun a b ha=>BZ.cs (an1 aaQ aaR a b ha)
def JE:=fun a b ha=>(lS a b ha).1
def JF:=fun a b ha=>(lS a b ha).2
def aaS:=mk Tryz.func213 (hlC BZ.ok hlN) (am5 (std 0) fP)
noncomputable def NQ:=aaS.c
def lT:=fun a b ha=>aaS.cs (aoa JE JF a b ha)
def apv:=fun a b ha=>(lT a b ha).1
def apw:=fun a b ha=>(lT a b ha).2
def aaT:=mk Tryz.func212 (hlC aaS.ok hlN) (am6 (std 0) NQ)
noncomputable def NR:=aaT.c
def lC:=fun a b hb=>aaT.cs (aob apv apw a b hb)
def apx:=fun a b hb=>(lC a b hb).1
def apy:=fun a b hb=>(lC a b hb).2
def Tq:=mk Tryz.func211 (hlC aaT.ok hlN) (ag8 (std 0) NR)
noncomputable def GD:=Tq.c
def dw:=fun a b ha hb=>Tq.cs (ahF apx apy a b ha hb)
def ajE:=fun a b ha hb=>(dw a b ha hb).1
def ajF:=fun a b ha hb=>(dw a b ha hb).2
def Va:=mk Tryz.func159 (hlC Tq.ok hlN) (am7 (std 0) GD)
noncomputable def wV:=Va.c
def nI:=fun a b ha hb=>Va.cs (aoc ajE ajF a b ha hb)
def adr:=fun a b ha hb=>(nI a b ha hb).1
def ads:=fun a b ha hb=>(nI a b ha hb).2
def aaU:=mk Tryz.func220 hlN (am8 (std 0))
noncomputable def NS:=aaU.c
def dQ:=fun a=>aaU.cs (an9 a)
def apz:=fun a=>(dQ a).1
def apA:=fun a=>(dQ a).2
def Vb:=mk Tryz.func162 (hlC U9.ok (hlC Va.ok (hlC aaU.ok hlN))) (am9 (std 0) wU wV NS)
noncomputable def wX:=Vb.c
def ou:=fun t a ht ha=>Vb.cs (aof adp adq adr ads apz apA t a ht ha)
def adt:=fun t a ht ha=>(ou t a ht ha).1
def adu:=fun t a ht ha=>(ou t a ht ha).2
def Vd:=mk Tryz.func163 (hlC kW.ok hlN) (ana (std 0) aU)
noncomputable def wW:=Vd.c
def vE:=fun a=>Vd.cs (an4 kX kY a)
def adw:=fun a=>(vE a).1
def adx:=fun a=>(vE a).2
def Ve:=mk Tryz.func124 (hlC Vd.ok (hlC Vb.ok hlN)) (anb (std 0) wW wX)
noncomputable def wY:=Ve.c
def qB:=fun kd k t fl ht=>Ve.cs (aoE adw adx adt adu kd k t fl ht)
def ady:=fun kd k t fl ht=>(qB kd k t fl ht).1
def adz:=fun kd k t fl ht=>(qB kd k t fl ht).2
def Vf:=mk Tryz.func118 (hlC Ve.ok hlN) (ane (std 0) wY)
noncomputable def xg:=Vf.c
def ow:=fun t fl ht hl=>Vf.cs (aoF ady adz t fl ht hl)
def adA:=fun t fl ht hl=>(ow t fl ht hl).1
def adB:=fun t fl ht hl=>(ow t fl ht hl).2
def OV:=mk Tryz.func190 hlN (anf (std 0))
noncomputable def wZ:=OV.c
def adC:=fun a ha=>(OV.cs (ac1 a ha)).1
def adD:=fun a ha=>(OV.cs (ac1 a ha)).2
def OW:=mk Tryz.func157 (hlC OV.ok hlN) (ang (std 0) wZ)
noncomputable def mY:=OW.c
def lD:=fun a ha=>OW.cs (an6 adC adD a ha)
def aaV:=fun a ha=>(lD a ha).1
def aaW:=fun a ha=>(lD a ha).2
def Vg:=mk Tryz.func119 (hlC OW.ok hlN) (anh (std 0) mY)
noncomputable def w9:=Vg.c
def lU:=fun a ha=>Vg.cs (an7 aaV aaW a ha)
def adE:=fun a ha=>(lU a ha).1
def adF:=fun a ha=>(lU a ha).2
def aaX:=mk Tryz.func67 (hlC Vg.ok (hlC Vf.ok hlN)) (ani (std 0) w9 xg)
noncomputable def Og:=aaX.c
def xJ:=aaX.cs (aoH adE adF adA adB)
def apB:=(xJ).1
def apC:=(xJ).2
def aaY:=mk Tryz.func76 (hlC kW.ok hlN) (anj (std 0) aU)
noncomputable def N7:=aaY.c
def oC:=fun o=>aaY.cs (aow kX kY o)
def apD:=fun o=>(oC o).1
def apE:=fun o=>(oC o).2
def aaZ:=mk Tryz.func120 (hlC U9.ok (hlC Va.ok hlN)) (ank (std 0) wU wV)
noncomputable def N9:=aaZ.c
def zP:=fun a ha=>aaZ.cs (aoe adp adq adr ads a ha)
def apF:=fun a ha=>(zP a ha).1
def apG:=fun a ha=>(zP a ha).2
def aa0:=mk Tryz.func121 hlN (anl (std 0))
noncomputable def Ob:=aa0.c
def dM:=fun a h0 h1=>aa0.cs (aoG a h0 h1)
def apH:=fun a h0 h1=>(dM a h0 h1).1
def apI:=fun a h0 h1=>(dM a h0 h1).2
def OX:=mk Tryz.func122 (hlC kW.ok hlN) (anm (std 0) aU)
noncomputable def nu:=OX.c
def sD:=fun a=>OX.cs (an3 kX kY a)
def aa1:=fun a=>(sD a).1
def aa2:=fun a=>(sD a).2
def JG:=mk Tryz.func141 hlN (ano (std 0))
noncomputable def mZ:=JG.c
def aa3:=fun a=>(JG.cs (ac0 a)).1
def aa4:=fun a=>(JG.cs (ac0 a)).2
def Vh:=mk Tryz.func86 (hlC zL.ok (hlC JG.ok hlN)) (anp (std 0) fM mZ)
noncomputable def xu:=Vh.c
def zQ:=fun op a b=>Vh.cs (an2 Jy Jz aa3 aa4 op a b)
def adG:=fun op a b=>(zQ op a b).1
def adH:=fun op a b=>(zQ op a b).2
def Vi:=mk Tryz.func166 (hlC zN.ok hlN) (anq (std 0) dV)
noncomputable def xw:=Vi.c
def xK:=fun a ha=>Vi.cs (an5 Ij Ik a ha)
def adI:=fun a ha=>(xK a ha).1
def adJ:=fun a ha=>(xK a ha).2
def Vj:=mk Tryz.func277 (hlC JD.ok hlN) (anr (std 0) jy)
noncomputable def og:=Vj.c
def zR:=fun a b ha=>Vj.cs (an8 U6 U7 a b ha)
def adK:=fun a b ha=>(zR a b ha).1
def adL:=fun a b ha=>(zR a b ha).2
def Tt:=mk Tryz.func309 (hlC Vj.ok hlN) (ag9 (std 0) og)
noncomputable def GI:=Tt.c
def dB:=fun a b d hd h1 h2 h3=>Tt.cs (ahH adK adL a b d hd h1 h2 h3)
def ajG:=fun a b d hd h1 h2 h3=>(dB a b d hd h1 h2 h3).1
def ajH:=fun a b d hd h1 h2 h3=>(dB a b d hd h1 h2 h3).2
def K9:=mk Tryz.func319 hlN (aha (std 0))
noncomputable def GH:=K9.c
def ajI:=fun a b n d hl h1 h2 h3 h4=>(K9.cs (ZB a b n d hl h1 h2 h3 h4)).1
def ajJ:=fun a b n d hl h1 h2 h3 h4=>(K9.cs (ZB a b n d hl h1 h2 h3 h4)).2
def Tv:=mk Tryz.func317 (hlC K9.ok hlN) (ahb (std 0) GH)
noncomputable def qY:=Tv.c
def eZ:=fun a m b d hl h1 h2 h3 h4=>Tv.cs (ahG ajI ajJ a m b d hl h1 h2 h3 h4)
def ajK:=fun a m b d hl h1 h2 h3 h4=>(eZ a m b d hl h1 h2 h3 h4).1
def ajL:=fun a m b d hl h1 h2 h3 h4=>(eZ a m b d hl h1 h2 h3 h4).2
noncomputable def cK:Nat→Ct aC mU
 | 0=>never mU
 | k+1=>cn (FR (std 0) og.pre og.fn qY.pre qY.fn (cK k).pre (cK k).fn)
theorem kK:∀k:Nat,cB E 310 (bY (cK k))∧∀(a m b:Int) (d:List aj),Az a m b d→b-a<k→(cK k).pre (a,m,b,d,())=true∧Mrg d ((cK k).fn (a,m,b,d,())).1 a b
 | 0=>⟨jM (enters_of Tryz.func310 (by kernel_rfl) rfl),fun a m b d h1 h2=>(by have g1:=h1.h2;have g2:=h1.h3;omega)⟩
 | k+1=>by
  have ih:=kK k
  have t:Fn E 310 (FR (std 0) og.pre og.fn qY.pre qY.fn (cK k).pre (cK k).fn) (cK (k+1)):=mk Tryz.func310 (hlC Vj.ok (hlC Tv.ok (hlC ih.1 hlN))) (ahc (std 0) og qY (cK k))
  exact⟨t.ok,fun a m b d h1 h2=>t.cs (ahI adK adL ajK ajL (k:Int) (fun a m b d h1 h2=>(ih.2 a m b d h1 h2).1) (fun a m b d h1 h2=>(ih.2 a m b d h1 h2).2) a m b d h1 (by omega))⟩
noncomputable def pI:Ct aC mU:=cK 1000000000
theorem ajM:cB E 310 (bY pI):=(kK 1000000000).1
theorem adM {a m b:Int} {d:List aj} (h:Az a m b d):b-a< ((1000000000:Nat):Int):=by have g0:=h.sh.1;have g1:=h.h1;have g2:=h.h4;omega
def ajN:=fun a m b d h=>((kK 1000000000).2 a m b d h (adM h)).1
def ajO:=fun a m b d h=>((kK 1000000000).2 a m b d h (adM h)).2
def Tw:=mk Tryz.func291 (hlC Tt.ok (hlC ajM hlN)) (ahd (std 0) GI pI)
noncomputable def GJ:=Tw.c
def fC:=fun n d hd hn=>Tw.cs (ahJ ajG ajH ajN ajO n d hd hn)
def ajP:=fun n d hd hn=>(fC n d hd hn).1
def ajQ:=fun n d hd hn=>(fC n d hd hn).2
def Tx:=mk Tryz.func276 (hlC Tw.ok hlN) (ahe (std 0) GJ)
noncomputable def GK:=Tx.c
def bV:=fun d hd=>Tx.cs (ahK ajP ajQ d hd)
def ajR:=fun d hd=>(bV d hd).1
def ajS:=fun d hd=>(bV d hd).2
def Vk:=mk Tryz.func253 (hlC JD.ok (hlC zN.ok (hlC JG.ok (hlC OV.ok (hlC Tx.ok hlN))))) (ant (std 0) jy dV mZ wZ GK)
noncomputable def xk:=Vk.c
def Il:=fun l hl hc=>Vk.cs (aoh U6 U7 Ij Ik aa3 aa4 adC adD ajR ajS l hl hc)
def adN:=fun l hl hc=>(Il l hl hc).1
def adO:=fun l hl hc=>(Il l hl hc).2
end Go.TX.F
namespace Go.TX.F
open Go Go.AE Go.TX Go.TX.Seat Go.Proofs
set_option maxRecDepth 100000
def Tz:=mk Tryz.func278 hlN (ahf (std 0))
noncomputable def GL:=Tz.c
def dR:=fun n h1 h2=>Tz.cs (ahL n h1 h2)
def ajT:=fun n h1 h2=>(dR n h1 h2).1
def ajU:=fun n h1 h2=>(dR n h1 h2).2
def aa5:=mk Tryz.func254 (hlC Tz.ok hlN) (anu (std 0) GL)
noncomputable def NT:=aa5.c
def dG:=fun a b ha hb=>aa5.cs (aoi ajT ajU a b ha hb)
def apJ:=fun a b ha hb=>(dG a b ha hb).1
def apK:=fun a b ha hb=>(dG a b ha hb).2
def aa6:=mk Tryz.func214 (hlC zN.ok (hlC Vk.ok (hlC aa5.ok hlN))) (anv (std 0) dV xk NT)
noncomputable def NU:=aa6.c
def xL:=fun a b ha hb=>aa6.cs (aoj Ij Ik adN adO apJ apK a b ha hb)
def apL:=fun a b ha hb=>(xL a b ha hb).1
def apM:=fun a b ha hb=>(xL a b ha hb).2
def La:=mk Tryz.func279 hlN (ahg (std 0))
noncomputable def GN:=La.c
def ajV:=fun n h1 h2=>(La.cs (ZF n h1 h2)).1
def ajW:=fun n h1 h2=>(La.cs (ZF n h1 h2)).2
def TA:=mk Tryz.func255 (hlC La.ok hlN) (ahh (std 0) GN)
noncomputable def GV:=TA.c
def jB:=fun a b ha hb=>TA.cs (ahM ajV ajW a b ha hb)
def ajX:=fun a b ha hb=>(jB a b ha hb).1
def ajY:=fun a b ha hb=>(jB a b ha hb).2
def TB:=mk Tryz.func292 (hlC aaP.ok hlN) (ahi (std 0) yF)
noncomputable def GQ:=TB.c
def fQ:=fun a b d hd h1 h2=>TB.cs (ahQ apr aps a b d hd h1 h2)
def ajZ:=fun a b d hd h1 h2=>(fQ a b d hd h1 h2).1
def aj0:=fun a b d hd h1 h2=>(fQ a b d hd h1 h2).2
noncomputable def Ao:Ct aC Fb:=never Fb
theorem aj1:cB E 293 (bY Ao):=jM (enters_of Tryz.func293 (by kernel_rfl) rfl)
noncomputable def Ap:Ct aC Fe:=never Fe
theorem aj2:cB E 294 (bY Ap):=jM (enters_of Tryz.func294 (by kernel_rfl) rfl)
noncomputable def Aq:Ct aC Fg:=never Fg
theorem aj3:cB E 295 (bY Aq):=jM (enters_of Tryz.func295 (by kernel_rfl) rfl)
noncomputable def Ar:Ct aC Fh:=never Fh
theorem aj4:cB E 296 (bY Ar):=jM (enters_of Tryz.func296 (by kernel_rfl) rfl)
noncomputable def Au:Ct aC Fj:=never Fj
theorem aj5:cB E 297 (bY Au):=jM (enters_of Tryz.func297 (by kernel_rfl) rfl)
noncomputable def Av:Ct aC Fp:=never Fp
theorem aj6:cB E 298 (bY Av):=jM (enters_of Tryz.func298 (by kernel_rfl) rfl)
noncomputable def Aw:Ct aC Fq:=never Fq
theorem aj7:cB E 299 (bY Aw):=jM (enters_of Tryz.func299 (by kernel_rfl) rfl)
noncomputable def iq:Ct aC oO:=never oO
theorem lI:cB E 280 (bY iq):=jM (enters_of Tryz.func280 (by kernel_rfl) rfl)
def TD:=mk Tryz.func280 (hlC aaP.ok (hlC TB.ok (hlC aj1 (hlC aj2 (hlC aj3 (hlC aj4 (hlC aj5 (hlC aj6 (hlC aj7 (hlC lI hlN)))))))))) (ahj (std 0) yF GQ Ao Ap Aq Ar Au Av Aw iq)
noncomputable def qZ:=TD.c
def iA:=fun a b k d hd h1 h2=>TD.cs (ahR ajZ aj0 _ _ _ _ _ _ _ _ _ _ _ _ _ _ _ _ a b k d hd h1 h2)
def aj8:=fun a b k d hd h1 h2=>(iA a b k d hd h1 h2).1
def aj9:=fun a b k d hd h1 h2=>(iA a b k d hd h1 h2).2
noncomputable def GU:Ct aC Uu:={pre:=fun x=>decide ((0:Int)≤x.1)&&decide ((x.1:Int)≤18446744073709551615),fn:=fun x=>((Lib.bitLen (x.1:Int).toNat:Int),())}
theorem apN (n:Int) (h1:0≤n) (h2:n≤18446744073709551615):GU.pre (n,())=true:=by
 show(decide _&&decide _)=true;simp only [Bool.and_eq_true,decide_eq_true_eq];exact⟨h1,h2⟩
theorem apO:cB E 281 (bY GU):=
 aam (enters_of Tryz.func281 (by kernel_rfl) rfl) rfl fun x w h=>by
  have h':(decide ((0:Int)≤x)&&decide (x≤18446744073709551615))=true:=h
  simp only [Bool.and_eq_true,decide_eq_true_eq]at h'
  exact bits_Len x w h'.1 h'.2
def TF:=mk Tryz.func256 (hlC TD.ok (hlC apO hlN)) (ahk (std 0) qZ GU)
noncomputable def GX:=TF.c
def jT:=fun a ha=>TF.cs (ahS aj8 aj9 apN a ha)
def akb:=fun a ha=>(jT a ha).1
def akc:=fun a ha=>(jT a ha).2
def Vm:=mk Tryz.func216 (hlC zN.ok (hlC JG.ok (hlC Vk.ok (hlC TA.ok (hlC TF.ok hlN))))) (anw (std 0) dV mZ xk GV GX)
noncomputable def xq:=Vm.c
def xM:=fun a b ha hb=>Vm.cs (aol Ij Ik aa3 aa4 adN adO ajX ajY akb akc a b ha hb)
def adP:=fun a b ha hb=>(xM a b ha hb).1
def adQ:=fun a b ha hb=>(xM a b ha hb).2
def aa7:=mk Tryz.func215 (hlC zN.ok (hlC OX.ok (hlC zL.ok (hlC Vm.ok hlN)))) (anx (std 0) dV nu fM xq)
noncomputable def NV:=aa7.c
def sF:=fun a n ha=>aa7.cs (aom Ij Ik aa1 aa2 Jy Jz adP adQ a n ha)
def apP:=fun a n ha=>(sF a n ha).1
def apQ:=fun a n ha=>(sF a n ha).2
def aa8:=mk Tryz.func160 (hlC BZ.ok (hlC OX.ok (hlC Vh.ok (hlC aa6.ok (hlC Vm.ok (hlC aa7.ok (hlC Vi.ok hlN))))))) (anz (std 0) fP nu xu NU xq NV xw)
noncomputable def NW:=aa8.c
def xO:=fun op x y hx hy=>aa8.cs (aon JE JF aa1 aa2 adG adH apL apM adP adQ apP apQ adI adJ op x y hx hy)
def apR:=fun op x y hx hy=>(xO op x y hx hy).1
def apS:=fun op x y hx hy=>(xO op x y hx hy).2
def aa9:=mk Tryz.func123 (hlC OU.ok (hlC aa8.ok (hlC Vb.ok (hlC Vd.ok hlN)))) (anA (std 0) mX NW wX wW)
noncomputable def Oa:=aa9.c
def qC:=fun t op x y ht hx hy=>aa9.cs (aoo aaQ aaR apR apS adt adu adw adx t op x y ht hx hy)
def apT:=fun t op x y ht hx hy=>(qC t op x y ht hx hy).1
def apU:=fun t op x y ht hx hy=>(qC t op x y ht hx hy).2
def Vn:=mk Tryz.func87 (hlC zL.ok hlN) (anB (std 0) fM)
noncomputable def xA:=Vn.c
def xP:=fun r a b=>Vn.cs (aoB Jy Jz r a b)
def adR:=fun r a b=>(xP r a b).1
def adS:=fun r a b=>(xP r a b).2
def abb:=mk Tryz.func224 (hlC OW.ok hlN) (anC (std 0) mY)
noncomputable def NY:=abb.c
def oD:=fun a ha=>abb.cs (aoC aaV aaW a ha)
def apV:=fun a ha=>(oD a ha).1
def apW:=fun a ha=>(oD a ha).2
def abd:=mk Tryz.func165 (hlC OW.ok (hlC abb.ok hlN)) (anD (std 0) mY NY)
noncomputable def NZ:=abd.c
def lV:=fun s hs=>abd.cs (aoD aaV aaW apV apW s hs)
def apX:=fun s hs=>(lV s hs).1
def apY:=fun s hs=>(lV s hs).2
def abe:=mk Tryz.func125 (hlC Vi.ok (hlC zN.ok (hlC OU.ok (hlC abd.ok (hlC BZ.ok (hlC Vn.ok hlN)))))) (anE (std 0) xw dV mX NZ fP xA)
noncomputable def N8:=abe.c
def xQ:=fun s n hs h0 h1=>abe.cs (aoI adI adJ Ij Ik aaQ aaR apX apY JE JF adR adS s n hs h0 h1)
def apZ:=fun s n hs h0 h1=>(xQ s n hs h0 h1).1
def ap0:=fun s n hs h0 h1=>(xQ s n hs h0 h1).2
def abf:=mk Tryz.func68 (hlC Ii.ok (hlC BS.ok (hlC aaY.ok (hlC JA.ok (hlC OX.ok (hlC abe.ok (hlC aaZ.ok (hlC Vg.ok (hlC aa9.ok (hlC Ve.ok (hlC Vf.ok (hlC aa0.ok hlN)))))))))))) (anF (std 0) jw fO N7 jv nu N8 N9 w9 Oa wY xg Ob)
noncomputable def Oh:=abf.c
def xR:=fun t b ht hb=>abf.cs (aoJ U1 U2 JB JC apD apE UY UZ aa1 aa2 apZ ap0 apF apG adE adF apT apU ady adz adA adB apH apI t b ht hb)
def ap1:=fun t b ht hb=>(xR t b ht hb).1
def ap2:=fun t b ht hb=>(xR t b ht hb).2
def abg:=mk Tryz.func168 (hlC BZ.ok hlN) (anG (std 0) fP)
noncomputable def Oc:=abg.c
def nJ:=fun a b ha=>abg.cs (aoP JE JF a b ha)
def ap3:=fun a b ha=>(nJ a b ha).1
def ap4:=fun a b ha=>(nJ a b ha).2
def TG:=mk Tryz.func167 (hlC abg.ok hlN) (ahl (std 0) Oc)
noncomputable def GY:=TG.c
def aY:=fun a b ha=>TG.cs (aiv ap3 ap4 a b ha)
def akd:=fun a b ha=>(aY a b ha).1
def ake:=fun a b ha=>(aY a b ha).2
def Vo:=mk Tryz.func129 (hlC TG.ok hlN) (anH (std 0) GY)
noncomputable def xB:=Vo.c
def qD:=fun a b ha=>Vo.cs (aoQ akd ake a b ha)
def adT:=fun a b ha=>(qD a b ha).1
def adU:=fun a b ha=>(qD a b ha).2
def abh:=mk Tryz.func127 (hlC BZ.ok (hlC Vo.ok hlN)) (anI (std 0) fP xB)
noncomputable def Od:=abh.c
def qE:=fun a b ha=>abh.cs (aoR JE JF adT adU a b ha)
def ap5:=fun a b ha=>(qE a b ha).1
def ap6:=fun a b ha=>(qE a b ha).2
def TH:=mk Tryz.func126 (hlC abh.ok hlN) (ahm (std 0) Od)
noncomputable def GZ:=TH.c
def aR:=fun a b ha=>TH.cs (aiw ap5 ap6 a b ha)
def akf:=fun a b ha=>(aR a b ha).1
def akg:=fun a b ha=>(aR a b ha).2
end Go.TX.F
namespace Go.TX.F
open Go Go.AE Go.TX Go.TX.Seat Go.Proofs
set_option maxRecDepth 100000
def abj:=mk Tryz.func69 (hlC BZ.ok (hlC Vo.ok (hlC TH.ok hlN))) (anJ (std 0) fP xB GZ)
noncomputable def Oi:=abj.c
def vF:=fun a b ha=>abj.cs (aoS JE JF adT adU akf akg a b ha)
def ap7:=fun a b ha=>(vF a b ha).1
def ap8:=fun a b ha=>(vF a b ha).2
def abk:=mk Tryz.func22 (hlC BS.ok (hlC aaK.ok (hlC aaX.ok (hlC abf.ok (hlC abj.ok hlN))))) (anK (std 0) fO Oe Og Oh Oi)
noncomputable def Ov:=abk.c
def vG:=fun b c hb hc=>abk.cs (aoT JB JC apf apg apB apC ap1 ap2 ap7 ap8 b c hb hc)
def ap9:=fun b c hb hc=>(vG b c hb hc).1
def aqa:=fun b c hb hc=>(vG b c hb hc).2
def TI:=mk Tryz.func23 (hlC K7.ok (hlC Ti.ok hlN)) (ahn (std 0) G5 G6)
noncomputable def G7:=TI.c
def oF:=fun c hc hl=>TI.cs (aix ajo ajp ajm ajn c hc hl)
def akh:=fun c hc hl=>(oF c hc hl).1
def aki:=fun c hc hl=>(oF c hc hl).2
def Vp:=mk Tryz.func84 (hlC U3.ok hlN) (anL (std 0) wS)
noncomputable def xC:=Vp.c
def lW:=fun b kp ok hk=>Vp.cs (aoV adk adl b kp ok hk)
def adV:=fun b kp ok hk=>(lW b kp ok hk).1
def adW:=fun b kp ok hk=>(lW b kp ok hk).2
def abl:=mk Tryz.func33 (hlC Vp.ok (hlC aaJ.ok (hlC BS.ok hlN))) (anM (std 0) xC Oj fO)
noncomputable def Oq:=abl.c
def vH:=fun b hb=>abl.cs (ao0 adV adW apd ape JB JC b hb)
def aqb:=fun b hb=>(vH b hb).1
def aqc:=fun b hb=>(vH b hb).2
def abm:=mk Tryz.func34 (hlC Vp.ok (hlC BS.ok hlN)) (anN (std 0) xC fO)
noncomputable def Ou:=abm.c
def vI:=fun b hb=>abm.cs (aoZ adV adW JB JC b hb)
def aqd:=fun b hb=>(vI b hb).1
def aqe:=fun b hb=>(vI b hb).2
def Vq:=mk Tryz.func85 hlN (anO (std 0))
noncomputable def Ol:=Vq.c
def aqf:=fun i a1 a2 a3 a4 a5 a6 ops h=>(Vq.cs (ac8 i a1 a2 a3 a4 a5 a6 ops h)).1
def aqg:=fun i a1 a2 a3 a4 a5 a6 ops h=>(Vq.cs (ac8 i a1 a2 a3 a4 a5 a6 ops h)).2
def abn:=mk Tryz.func35 (hlC OT.ok (hlC BS.ok (hlC Vq.ok (hlC Vh.ok (hlC Vn.ok hlN))))) (anP (std 0) wR fO Ol xu xA)
noncomputable def Om:=abn.c
def sG:=fun b hb=>abn.cs (aoW adh adi JB JC aqf aqg adG adH adR adS b hb)
def aqh:=fun b hb=>(sG b hb).1
def aqi:=fun b hb=>(sG b hb).2
def abo:=mk Tryz.func24 (hlC abn.ok (hlC aaH.ok (hlC abl.ok (hlC abm.ok hlN)))) (anQ (std 0) Om Oo Oq Ou)
noncomputable def Ow:=abo.c
def xS:=fun b hb=>abo.cs (ao1 aqh aqi ao9 apa aqb aqc aqd aqe b hb)
def aqj:=fun b hb=>(xS b hb).1
def aqk:=fun b hb=>(xS b hb).2
def adX:=mk Tryz.func6 (hlC abk.ok (hlC abo.ok (hlC aaI.ok (hlC TI.ok (hlC uU.ok hlN))))) (anR (std 0) Ov Ow Ox G7 dx)
def oG:=fun c hc=>adX.cs (ao2 ap9 aqa aqj aqk apb apc akh aki AO AP c hc)
def aql:=fun c hc=>(oG c hc).1
def aqm:=fun c hc=>(oG c hc).2
end Go.TX.F
namespace Go.TX.F
open Go Go.AE Go.TX Go.TX.Seat Go.Proofs
set_option maxRecDepth 100000
end Go.TX.F
namespace Go.Proofs.YtkecklmejhogoaaGreat
open Go.ChangeShapes Go.WideShapes Go.ChangeAt Go.RowKit
theorem arV:ownKnob Tryz.prog.godebug=Option.none:=by kernel_rfl
theorem aqn:laidOutB Tryz.prog=true:=by kernel_rfl
theorem akj:Tryz.prog.cellsOf 5=1:=by kernel_rfl
set_option maxRecDepth 100000 in
theorem lifted (os:Os) (started:os.Started) (H:Type) (enc:TypeId×Value→H):
  ReturnsInHanded {} Tryz.checked os 6 .any (Rows.fnOptTwiceSpec.pre6 enc Tryz.prog Tryz.f6 Rows.fnOptTwiceRow.domain false) (Rows.fnOptTwiceSpec.post enc Tryz.prog Tryz.f6 false true false false):=by
 refine returnsInHanded_of_change (C:=Tryz.checked) arV started (by kernel_rfl) Tryz.func6
  (ChangeSpec.witness6 (enc:=enc) (C:=Tryz.checked) false ⟨#[], #[.slice none 0 0],[]⟩ 8 (by kernel_rfl) (by kernel_rfl) (by kernel_rfl) (by kernel_rfl)) ?_
 intro W base args ds gs before hval0 hW _ _
 have hval:∀(j:Nat) t v,Tryz.f6.params[j]? =some t→args[j]? =some v→Value.okWide Tryz.prog W .any base t v:=hval0
 have hW':=hW
 obtain⟨p,q,hA0,hV,rfl,_,_⟩:=hW
 have hA:DataW.TrodAll enc Tryz.prog W 0 (fun _=>true) true Tryz.f6.params.toList args.toList ds p:=hA0
 rw [Tryz.params6]at hA hval
 obtain⟨v0,d0,rfl,rfl,h0⟩:=trodAll_one hA
 obtain⟨rfl,rfl⟩:=trodVars_none hV
 clear hA0 hval0
 simp only [List.append_nil]at hW'
 have hlt:∀x∈p,x.block<W.heap.size:=fun x hx=>by simpa using hW'.lt x hx
 obtain⟨xs,hr,hb⟩:=Go.TX.aal Tryz.underlying22 Tryz.underlying5 akj (hval 0 22 v0 rfl rfl) h0 hlt
 have hp:=Go.TX.F.aql xs hb
 have hq:=Go.TX.F.aqm xs hb
 refine(Go.TX.arS Go.TX.F.adX.ok hr (fun g d h=>by cases h) hp).mono fun e W' ⟨he,hw⟩=> ?_
 have he:e= .returned (.bool true):=he.trans (congrArg (fun z:Bool×Unit=>Ending.returned (.bool z.1)) hq)
 refine⟨_,he,[d0],[],p,[],p,[],hW',trodAll_mk1 (shut_bool Tryz.underlying4 true),?_,rfl,hw.frame _,fun h=>by cases h⟩
 exact trodAll_mk1 (Below.trod aqn (by kernel_rfl) (of_decide_eq_true (by kernel_rfl)) h0 hw hlt)
theorem y1:Tryz.pinned.checked.prog.funcNamed Rows.fnOptTwiceRow.func=some 6:=by kernel_rfl
theorem aS {a b:Bool} (h:a=true) (k:b=true):(a&&b)=true:=by rw [h,k];rfl
set_option maxHeartbeats 4000000 in
theorem y2:joinedFacts Tryz.pinned.checked.prog 6 Tryz.f6 Rows.fnOptTwiceSpec Rows.fnOptTwiceRow=true:=by
 unfold joinedFacts
 repeat' with_reducible apply aS
 all_goals (as_aux_lemma=>kernel_rfl)
theorem y3:Func.isWrapper Tryz.prog Tryz.f6 Rows.fnOptTwiceRow.wrapper Rows.fnOptTwiceRow.mainSum:=(by unfold Func.isWrapper;first | (rw [if_pos (by decide+kernel)];kernel_rfl) | (rw [if_neg (by decide+kernel)];exact⟨rfl,rfl⟩))
theorem x_holds:Rows.FnOptTwiceSaid:=
 OpenClaim.holds_of_wide 6 Tryz.f6 rfl rfl rfl rfl rfl rfl rfl ⟨rfl,rfl,rfl,rfl,rfl⟩ rfl rfl rfl rfl rfl y1 Tryz.func6 y2
  (of_decide_eq_true (by kernel_rfl)) y3
  (fun os started H enc _=>lifted os started H enc)
end Go.Proofs.YtkecklmejhogoaaGreat
