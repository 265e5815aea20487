/- For every input the law returns true, and the input reads as it did. No condition. -/
import Derived.Test.YtkecklmejhogoaaGreatZe
import Derived.ChangeSlices
import Derived.ChangeSame
import Derived.JoinedOf
import Derived.JoinedAt
import Derived.Handed
import Derived.Below
import Derived.Carry
import Derived.OpenShut
import Derived.ChangeKeysEq
import Derived.Test.YtkecklmejhogoaaGreatY
import Derived.Test.YtkecklmejhogoaaGreatRows
set_option linter.all false
set_option linter.unusedSectionVars false
set_option linter.unusedVariables false
set_option linter.unusedSimpArgs false
namespace Go.TX.F
open Go Go.AE Go.TX
theorem RB:(∀o:IOp,jD .iop 0 o=o.kind)∧(∀o:IOp,jD .iop 1 o=o.x)∧(∀o:IOp,jD .iop 2 o=o.y)∧(∀o:IOp,jD .iop 3 o=o.k)∧(∀o:IOp,jD .iop 4 o=o.at_)∧
  (∀b:Blk,jD .blk 0 b=b.pc)∧(∀b:Blk,jD .blk 1 b=b.len)∧(∀b:Blk,oZ .blk 2 .iop b=b.ops)∧(∀b:Blk,jD .blk 3 b=b.fin)∧(∀b:Blk,jD .blk 4 b=b.x)∧(∀b:Blk,jD .blk 5 b=b.y)∧(∀b:Blk,jD .blk 6 b=b.k)∧
  (∀x,Co.mk .iop x=⟨x.1,x.2.1,x.2.2.1,x.2.2.2.1,x.2.2.2.2.1⟩)∧(∀x,Co.mk .blk x=⟨x.1,x.2.1,x.2.2.1,x.2.2.2.1,x.2.2.2.2.1,x.2.2.2.2.2.1,x.2.2.2.2.2.2.1⟩)∧
  (∀i:Ins,jD .ins 0 i=i.op)∧(∀i:Ins,jD .ins 1 i=i.d)∧(∀i:Ins,jD .ins 2 i=i.a)∧(∀i:Ins,jD .ins 3 i=i.k)∧(∀x,Co.mk .ins x=⟨x.1,x.2.1,x.2.2.1,x.2.2.2.1⟩)∧
  (∀e:Ev,jD .ev 0 e=e.kind)∧(∀e:Ev,jD .ev 1 e=e.at_)∧(∀e:Ev,oZ .ev 2 .mono e=e.x)∧(∀e:Ev,oZ .ev 3 .mono e=e.y)∧(∀e:Ev,oZ .ev 4 .poly e=e.regs)∧(∀x,Co.mk .ev x=⟨x.1,x.2.1,x.2.2.1,x.2.2.2.1,x.2.2.2.2.1⟩)∧
  (∀s:Sym,oZ .sym 0 .ev s=s.events)∧(∀s:Sym,oZ .sym 1 .poly s=s.regs)∧(∀s:Sym,jD .sym 2 s=s.fin)∧(∀s:Sym,oZ .sym 3 .mono s=s.x)∧(∀s:Sym,oZ .sym 4 .mono s=s.y)∧(∀s:Sym,jD .sym 5 s=s.k)∧
  (∀x,Co.mk .sym x=⟨x.1,x.2.1,x.2.2.1,x.2.2.2.1,x.2.2.2.2.1,x.2.2.2.2.2.1⟩)∧(∀x,Co.mk .bool x=x.1)∧(∀x:Bool,akD .bool 0 x=x):=
 ⟨fun _=>rfl,fun _=>rfl,fun _=>rfl,fun _=>rfl,fun _=>rfl,fun _=>rfl,fun _=>rfl,fun _=>rfl,fun _=>rfl,fun _=>rfl,fun _=>rfl,fun _=>rfl,fun _=>rfl,fun _=>rfl,fun _=>rfl,fun _=>rfl,fun _=>rfl,fun _=>rfl,fun _=>rfl,fun _=>rfl,fun _=>rfl,fun _=>rfl,fun _=>rfl,fun _=>rfl,fun _=>rfl,fun _=>rfl,fun _=>rfl,fun _=>rfl,fun _=>rfl,fun _=>rfl,fun _=>rfl,fun _=>rfl,fun _=>rfl,fun _=>rfl⟩
@[reducible] def hK (o : IOp) : Prop := o.kind = 1 ∨ o.kind = 2 ∨ o.kind = 3 ∨ o.kind = 8
theorem aoo {p1:Int×Int×Int×Unit→Bool} {f1:Int×Int×Int×Unit→Bool×Unit} (hp1:∀a b c,p1 (a,b,c,())=true) (hf1:∀a b c,f1 (a,b,c,())=(inB a b c,())) (o:IOp):
  XF (std 0) p1 f1 (o,()) (fun y=>y=(decide (hX o),decide (hY o),decide (hK o),decide (evO o),())):=by
 dsimp only [XF,Alg.cl,Alg.cg,Alg.rb,Alg.bd,Alg.l1,Tup.q,Tup.o]
 simp (disch:=omega) only [RR,RB,hp1,hf1]
 refine Prod.ext ?_ (Prod.ext ?_ (Prod.ext ?_ (Prod.ext ?_ rfl)))<;>rw [Bool.eq_iff_iff]<;>simp [hX,hY,hK,evO,inB,or_assoc,and_assoc]
theorem aop {p1:Int×Int×Int×Unit→Bool} {f1:Int×Int×Int×Unit→Bool×Unit} (hp1:∀a b c,p1 (a,b,c,())=true) (hf1:∀a b c,f1 (a,b,c,())=(inB a b c,())) (o:IOp):
  XI (std 0) p1 f1 (o,()) (fun y=>y=(decide (mkV o),())):=by
 dsimp only [XI,Alg.cl,Alg.cg,Alg.rb,Alg.bd,Alg.l1,Tup.q,Tup.o]
 simp (disch:=omega) only [RR,RB,hp1,hf1]
 refine Prod.ext ?_ rfl
 rw [Bool.eq_iff_iff];simp [mkV,inB]
theorem aoq {p1:Int×Int×Int×Unit→Bool} {f1:Int×Int×Int×Unit→Bool×Unit} (hp1:∀a b c,p1 (a,b,c,())=true) (hf1:∀a b c,f1 (a,b,c,())=(inB a b c,())) (o:IOp):
  YK (std 0) p1 f1 (o,()) (fun y=>y=(decide (evO o),())):=by
 dsimp only [YK,Alg.cl,Alg.cg,Alg.rb,Alg.bd,Alg.l1,Tup.q,Tup.o]
 simp (disch:=omega) only [RR,RB,hp1,hf1]
 refine Prod.ext ?_ rfl
 rw [Bool.eq_iff_iff];simp [evO,inB]
theorem aor {p2:IOp×Unit→Bool} {f2:IOp×Unit→Bool×Unit} (hp2:∀o,p2 (o,())=true) (hf2:∀o,f2 (o,())=(decide (mkV o),()))
  {p1:Int×Int×Int×Unit→Bool} {f1:Int×Int×Int×Unit→Bool×Unit} (hp1:∀a b c,p1 (a,b,c,())=true) (hf1:∀a b c,f1 (a,b,c,())=(inB a b c,())) (b:Blk) (x n:Int) (h0:0≤n) (h1:n≤b.ops.length) (h2:b.ops.length<1000000000):
  XJ (std 0) p2 f2 p1 f1 (b,x,n,()) (fun y=>y=(bp (Vl b.ops x n),())):=by
 dsimp only [XJ,Alg.cl,Alg.cg,Alg.rb,Alg.bd,Alg.l1,Tup.q,Tup.o]
 simp (disch:=omega) only [RR,RB,hp1,hf1,hp2,hf2,eP,rZ]
 refine⟨by omega,by omega,?_⟩
 refine Prod.ext ?_ rfl
 dsimp only
 rw [Bool.eq_iff_iff,bO,Bool.and_eq_true,eP,decide_eq_true_eq]
 unfold Vl
 constructor
 ·rintro⟨⟨a1,a2⟩,a3⟩;exact⟨a1,by omega,a3⟩
 ·rintro⟨a1,a2,a3⟩;exact⟨⟨a1,by omega⟩,a3⟩
theorem OI {ops:List IOp} {len i:Int} {o:IOp}:AL ops len i o↔(1≤o.kind∧o.kind≤8)∧(hX o∧Vl ops o.x i∨¬hX o∧o.x=0)∧(hY o∧Vl ops o.y i∨¬hY o∧o.y=0)∧
  (hK o∧(o.kind=1∧(0≤o.k∧o.k≤65535)∨(o.kind=2∨o.kind=8)∧(0≤o.k∧o.k≤3)∨o.kind=3∧(1≤o.k∧o.k≤5))∨¬hK o∧o.k=0)∧(evO o∧(0≤o.at_∧o.at_<len)∨¬evO o∧o.at_=0):=by
 constructor
 ·rintro⟨kd,x1,x0,y1,y0,k1,k2,k3,k0,a1,a0⟩
  refine⟨kd,?_,?_,?_,?_⟩
  ·by_cases h:hX o
   ·exact Or.inl ⟨h,x1 h⟩
   ·exact Or.inr ⟨h,x0 h⟩
  ·by_cases h:hY o
   ·exact Or.inl ⟨h,y1 h⟩
   ·exact Or.inr ⟨h,y0 h⟩
  ·unfold hK;omega
  ·by_cases h:evO o
   ·exact Or.inl ⟨h,a1 h⟩
   ·exact Or.inr ⟨h,a0 h⟩
 ·rintro⟨kd,x,y,k,a⟩
  refine⟨kd,fun h=> ?_,fun h=> ?_,fun h=> ?_,fun h=> ?_,fun h=> ?_,fun h=> ?_,fun h=> ?_,fun h h'=> ?_,fun h=> ?_,fun h=> ?_⟩
  ·rcases x with x | x
   ·exact x.2
   ·exact absurd h x.1
  ·rcases x with x | x
   ·exact absurd x.1 h
   ·exact x.2
  ·rcases y with y | y
   ·exact y.2
   ·exact absurd h y.1
  ·rcases y with y | y
   ·exact absurd y.1 h
   ·exact y.2
  ·unfold hK at k;omega
  ·unfold hK at k;omega
  ·unfold hK at k;omega
  ·unfold hK at k;omega
  ·rcases a with a | a
   ·exact a.2
   ·exact absurd h a.1
  ·rcases a with a | a
   ·exact absurd a.1 h
   ·exact a.2
theorem aos {p3:Blk×Int×Int×Unit→Bool} {f3:Blk×Int×Int×Unit→Bool×Unit} (hp3:∀b x n,0≤n→n≤b.ops.length→b.ops.length<1000000000→p3 (b,x,n,())=true) (hf3:∀b x n,0≤n→n≤b.ops.length→b.ops.length<1000000000→f3 (b,x,n,())=(bp (Vl b.ops x n),()))
  {p2:IOp×Unit→Bool} {f2:IOp×Unit→Bool×Bool×Bool×Bool×Unit} (hp2:∀o,p2 (o,())=true) (hf2:∀o,f2 (o,())=(decide (hX o),decide (hY o),decide (hK o),decide (evO o),()))
  {p4:Int×Unit→Bool} {f4:Int×Unit→Bool×Unit} (hp4:∀a,p4 (a,())=true) (hf4:∀a,f4 (a,())=(inB a 0 65535,()))
  {p1:Int×Int×Int×Unit→Bool} {f1:Int×Int×Int×Unit→Bool×Unit} (hp1:∀a b c,p1 (a,b,c,())=true) (hf1:∀a b c,f1 (a,b,c,())=(inB a b c,()))
  {p5:Int×Unit→Bool} {f5:Int×Unit→Bool×Unit} (hp5:∀a,p5 (a,())=true) (hf5:∀a,f5 (a,())=(inB a 1 5,()))
  {p6:Int×Unit→Bool} {f6:Int×Unit→Bool×Unit} (hp6:∀a,p6 (a,())=true) (hf6:∀a,f6 (a,())=(inB a 0 3,()))
  (b:Blk) (i:Int) (h0:0≤i) (h1:i<b.ops.length) (h2:b.ops.length<1000000000) (h3:1≤b.len∧b.len≤8):
  XK (std 0) p3 f3 p2 f2 p4 f4 p1 f1 p5 f5 p6 f6 (b,i,()) (fun y=>y=(bp (AL b.ops b.len i ((b.ops).getD (i).toNat default)),())):=by
 have R9:=fun x=>hp3 b x i h0 (by omega) h2
 have Sb:=fun x=>hf3 b x i h0 (by omega) h2
 dsimp only [XK,Alg.cl,Alg.cg,Alg.rb,Alg.bd,Alg.l1,Tup.q,Tup.o]
 simp (disch:=omega) only [RR,RB,hp1,hf1,hp2,hf2,R9,Sb,hp4,hf4,hp5,hf5,hp6,hf6,rZ]
 refine⟨by omega,by omega,fun h=> ?_,fun h=> ?_⟩
 ·rw [iB (fun g=>h g.kd)]
 ·have h:=eP.1 h
  refine Prod.ext ?_ rfl
  dsimp only
  rw [Bool.eq_iff_iff,bO,OI]
  generalize ((b.ops).getD (i).toNat default)=o at h ⊢
  simp only [Bool.and_eq_true,Bool.or_eq_true,Bool.not_eq_true',decide_eq_true_eq,decide_eq_false_iff_not,bO,eP,h,true_and,and_true]
  have e:∀ {a:Int},(0≤a∧a≤b.len-1)↔(0≤a∧a<b.len):=fun {a}=>by omega
  have k:(bif decide (o.kind=1)then inB o.k 0 65535 else bif decide (o.kind=2)then inB o.k 0 3 else bif decide (o.kind=3)then inB o.k 1 5 else(decide (o.kind=8)&&inB o.k 0 3))=true↔(o.kind=1∧(0≤o.k∧o.k≤65535)∨(o.kind=2∨o.kind=8)∧(0≤o.k∧o.k≤3)∨o.kind=3∧(1≤o.k∧o.k≤5)):=by
   rcases(by omega:o.kind=1∨o.kind=2∨o.kind=3∨o.kind=8∨(o.kind≠1∧o.kind≠2∧o.kind≠3∧o.kind≠8))with c | c | c | c | ⟨c1,c2,c3,c4⟩
   ·simp [c,inB]
   ·simp [c,inB]
   ·simp [c,inB]
   ·simp [c,inB]
   ·simp [c1,c2,c3,c4]
  rw [k]
  simp only [e,and_assoc]
theorem adb (b:Blk):XO (std 0) (b,()) (fun y=>y=(decide (b.fin≠1),decide (3≤b.fin),decide (b.fin≠2),())):=by
 dsimp only [XO,Alg.cl,Alg.cg,Alg.rb,Alg.bd,Alg.l1,Tup.q,Tup.o]
 simp (disch:=omega) only [RR,RB]
 refine Prod.ext ?_ (Prod.ext rfl (Prod.ext ?_ rfl))<;>simp
theorem Jy {b:Blk}:zF b↔(1≤b.fin∧b.fin≤4)∧(b.fin≠1∧Vl b.ops b.x b.ops.length∨¬b.fin≠1∧b.x=0)∧(3≤b.fin∧Vl b.ops b.y b.ops.length∨¬3≤b.fin∧b.y=0)∧(b.fin≠2∧(0≤b.k∧b.k≤65535)∨¬b.fin≠2∧b.k=0):=by
 constructor
 ·rintro⟨f,x1,x0,y1,y0,k1,k0⟩
  refine⟨f,?_,?_,by omega⟩
  ·by_cases h:b.fin=1
   ·exact Or.inr ⟨fun g=>g h,x0 h⟩
   ·exact Or.inl ⟨h,x1 h⟩
  ·by_cases h:3≤b.fin
   ·exact Or.inl ⟨h,y1 h⟩
   ·exact Or.inr ⟨h,y0 (by omega)⟩
 ·rintro⟨f,x,y,k⟩
  refine⟨f,fun h=> ?_,fun h=> ?_,fun h=> ?_,fun h=> ?_,fun h=>by omega,fun h=>by omega⟩
  ·rcases x with x | x
   ·exact x.2
   ·exact absurd h x.1
  ·rcases x with x | x
   ·exact absurd h x.1
   ·exact x.2
  ·rcases y with y | y
   ·exact y.2
   ·exact absurd h y.1
  ·rcases y with y | y
   ·exact absurd y.1 (by omega)
   ·exact y.2
theorem aot {p2:Blk×Unit→Bool} {f2:Blk×Unit→Bool×Bool×Bool×Unit} (hp2:∀b,p2 (b,())=true) (hf2:∀b,f2 (b,())=(decide (b.fin≠1),decide (3≤b.fin),decide (b.fin≠2),()))
  {p3:Blk×Int×Int×Unit→Bool} {f3:Blk×Int×Int×Unit→Bool×Unit} (hp3:∀b x n,0≤n→n≤b.ops.length→b.ops.length<1000000000→p3 (b,x,n,())=true) (hf3:∀b x n,0≤n→n≤b.ops.length→b.ops.length<1000000000→f3 (b,x,n,())=(bp (Vl b.ops x n),()))
  {p4:Int×Unit→Bool} {f4:Int×Unit→Bool×Unit} (hp4:∀a,p4 (a,())=true) (hf4:∀a,f4 (a,())=(inB a 0 65535,()))
  {p1:Int×Int×Int×Unit→Bool} {f1:Int×Int×Int×Unit→Bool×Unit} (hp1:∀a b c,p1 (a,b,c,())=true) (hf1:∀a b c,f1 (a,b,c,())=(inB a b c,())) (b:Blk) (h2:b.ops.length<1000000000):
  XP (std 0) p2 f2 p3 f3 p4 f4 p1 f1 (b,()) (fun y=>y=(bp (zF b),())):=by
 have R9:=fun x=>hp3 b x b.ops.length (by omega) (Int.le_refl _) h2
 have Sb:=fun x=>hf3 b x b.ops.length (by omega) (Int.le_refl _) h2
 dsimp only [XP,Alg.cl,Alg.cg,Alg.rb,Alg.bd,Alg.l1,Tup.q,Tup.o]
 simp (disch:=omega) only [RR,RB,hp1,hf1,hp2,hf2,R9,Sb,hp4,hf4]
 refine Prod.ext ?_ rfl
 dsimp only
 rw [Bool.eq_iff_iff,bO,Jy]
 simp only [Bool.and_eq_true,Bool.or_eq_true,Bool.not_eq_true',decide_eq_true_eq,decide_eq_false_iff_not,bO,eP,and_assoc]
theorem aou {p2:Blk×Unit→Bool} {f2:Blk×Unit→Bool×Unit} (hp2:∀b,b.ops.length<1000000000→p2 (b,())=true) (hf2:∀b,b.ops.length<1000000000→f2 (b,())=(bp (zF b),()))
  {p3:Blk×Int×Unit→Bool} {f3:Blk×Int×Unit→Bool×Unit} (hp3:∀(b:Blk) (i:Int),0≤i→i<b.ops.length→b.ops.length<1000000000→1≤b.len∧b.len≤8→p3 (b,i,())=true) (hf3:∀(b:Blk) (i:Int),0≤i→i<b.ops.length→b.ops.length<1000000000→1≤b.len∧b.len≤8→f3 (b,i,())=(bp (AL b.ops b.len i ((b.ops).getD (i).toNat default)),()))
  {p1:Int×Int×Int×Unit→Bool} {f1:Int×Int×Int×Unit→Bool×Unit} (hp1:∀a b c,p1 (a,b,c,())=true) (hf1:∀a b c,f1 (a,b,c,())=(inB a b c,())) (b:Blk) (h2:b.ops.length<1000000000):
  XQ (std 0) p2 f2 p3 f3 p1 f1 (b,()) (fun y=>y=(bp (bL b),())):=by
 dsimp only [XQ,Alg.cl,Alg.cg,Alg.rb,Alg.bd,Alg.l1,Tup.q,Tup.o]
 simp (disch:=omega) only [RR,RB,hp1,hf1]
 by_cases hl:1≤b.len∧b.len≤8
 ·have hl':=eP.2 hl
  simp (disch:=omega) only [RR,hl',eP,rZ]
  refine⟨fun h=> ?_,fun h=> ?_⟩
  ·rw [iB (fun g=> ?_)]
   have g1:=g.pc
   have g2:=g.sz
   omega
  ·refine au (fun(y:Int×Int×Blk×Unit)=>y.1=b.ops.length∧y.2.2.1=b∧0≤y.2.1∧y.2.1≤b.ops.length∧All y.2.1 (fun i=>AL b.ops b.len i ((b.ops).getD (i).toNat default))) (fun y=>(b.ops.length-y.2.1).toNat) ⟨rfl,rfl,by simp,by simp,All.zero⟩ ?_
   rintro⟨(n:Int),(i:Int),(b':Blk),⟨⟩⟩ hI
   dsimp only at hI ⊢
   obtain⟨rfl,rfl,h3,h4,h5⟩:=hI
   simp (disch:=omega) only [RR,hp2 b' h2,hf2 b' h2]
   refine⟨fun h6=>⟨hp3 b' i h3 h6 h2 hl,?_⟩,fun h6=> ?_⟩
   ·rw [hf3 b' i h3 h6 h2 hl]
    dsimp only
    refine⟨fun h7=> ?_,fun h7=>⟨⟨by omega,by omega,h5.snoc (bO.1 h7)⟩,by omega⟩⟩
    rw [iB (fun g=>rY.1 h7 (g.op i h3 h6))]
   ·by_cases he:zF b'
    ·rw [dI he,dI (show bL b' from⟨hl,by omega,by omega,fun j j1 j2=>h5 j j1 (by omega),he⟩)]
    ·rw [iB he,iB (fun g=>he g.en)]
 ·have hl':=rZ.2 hl
  simp (disch:=omega) only [RR,hl']
  rw [iB (fun g=>hl g.ln)]
  exact⟨rfl,fun h=>h.1.1.elim⟩
end Go.TX.F
namespace Go.TX.F
open Go Go.AE Go.TX
theorem ahY {p1:Int×Int×Int×Unit→Bool} {f1:Int×Int×Int×Unit→Bool×Unit} (hp1:∀a b c,p1 (a,b,c,())=true) (hf1:∀a b c,f1 (a,b,c,())=(inB a b c,())) (k:Int):
  Qg (std 0) p1 f1 (k,()) (fun y=>y=(decide ((1≤k∧k≤4)∨k=6),())):=by
 dsimp only [Qg,Alg.cl,Alg.cg,Alg.rb,Alg.bd,Alg.l1,Tup.q,Tup.o]
 simp (disch:=omega) only [RR,hp1,hf1]
 refine Prod.ext ?_ rfl
 rw [Bool.eq_iff_iff];simp [inB]
theorem ahZ {p1:Int×Unit→Bool} {f1:Int×Unit→Bool×Unit} (hp1:∀k,p1 (k,())=true) (hf1:∀k,f1 (k,())=(decide ((1≤k∧k≤4)∨k=6),())) (ops:List IOp) (x n:Int) (h1:n≤ops.length):
  Qh (std 0) p1 f1 (ops,x,n,()) (fun y=>y=(bp (Vl ops x n),())):=by
 dsimp only [Qh,Alg.cl,Alg.cg,Alg.rb,Alg.bd,Alg.l1,Tup.q,Tup.o]
 simp (disch:=omega) only [RR,RB,hp1,hf1]
 refine⟨by simp only [Bool.and_eq_false_iff,decide_eq_false_iff_not];omega,by simp only [Bool.and_eq_false_iff,decide_eq_false_iff_not];omega,?_⟩
 refine Prod.ext ?_ rfl
 dsimp only
 rw [Bool.eq_iff_iff,bO,Bool.and_eq_true,Bool.and_eq_true,decide_eq_true_eq,decide_eq_true_eq,decide_eq_true_eq,and_assoc]
 rfl
theorem ah0 {p4:Int×Unit→Bool} {f4:Int×Unit→Bool×Unit} (hp4:∀a,p4 (a,())=true) (hf4:∀a,f4 (a,())=(inB a 0 65535,()))
  {p1:Int×Int×Int×Unit→Bool} {f1:Int×Int×Int×Unit→Bool×Unit} (hp1:∀a b c,p1 (a,b,c,())=true) (hf1:∀a b c,f1 (a,b,c,())=(inB a b c,()))
  {p3:List IOp×Int×Int×Unit→Bool} {f3:List IOp×Int×Int×Unit→Bool×Unit} (hp3:∀(ops:List IOp) (x n:Int),n≤ops.length→p3 (ops,x,n,())=true) (hf3:∀(ops:List IOp) (x n:Int),n≤ops.length→f3 (ops,x,n,())=(bp (Vl ops x n),()))
  (ops:List IOp) (i len:Int) (h0:0≤i) (h1:i<ops.length) (h3:1≤len∧len≤8):Qi (std 0) p4 f4 p1 f1 p3 f3 (ops,i,len,()) (fun y=>y=(bp (AL ops len i ((ops).getD (i).toNat default)),())):=by
 have R9:=fun x=>hp3 ops x i (by omega)
 have Sb:=fun x=>hf3 ops x i (by omega)
 have e:∀ {a:Int},(0≤a∧a≤len-1)↔(0≤a∧a<len):=fun {a}=>by omega
 dsimp only [Qi,Alg.cl,Alg.cg,Alg.rb,Alg.bd,Alg.l1,Tup.q,Tup.o]
 simp (disch:=omega) only [RR,RB,hp1,hf1,R9,Sb,hp4,hf4]
 refine⟨by omega,by omega,?_⟩
 rw [show bp (AL ops len i ((ops).getD (i).toNat default))=bp (_)from uM OI]
 generalize ((ops).getD (i).toNat default)=o
 have go:∀ {c:Bool} {P:Prop},(c=true↔P)→(c,())=(bp P,()):=fun {c P} h=>Prod.ext (by dsimp only;rw [Bool.eq_iff_iff,bO];exact h) rfl
 refine⟨fun c=> ?_,fun c1=>⟨fun c=> ?_,fun c2=>⟨fun c=> ?_,fun c3=> ?_⟩⟩⟩
 ·refine go ?_
  simp only [Bool.and_eq_true,decide_eq_true_eq,bO,eP,c,hX,hY,hK,evO,e]
  simp [and_assoc]
 ·refine go ?_
  simp only [Bool.and_eq_true,decide_eq_true_eq,bO,eP,c,hX,hY,hK,evO,e]
  simp [and_assoc]
 ·refine go ?_
  simp only [Bool.and_eq_true,decide_eq_true_eq,bO,eP,c,hX,hY,hK,evO,e]
  simp [and_assoc]
 ·by_cases c4:o.kind=4∨o.kind=7
  ·have c5:o.kind≠8:=by omega
   rcases c4 with c | c<;>simp (disch:=omega) only [RR,c,Int.reduceEq]<;>(refine go ?_)<;>simp only [Bool.and_eq_true,decide_eq_true_eq,bO,eP,c,hX,hY,hK,evO,e]<;>simp [and_assoc]
  ·by_cases c:o.kind=5
   ·simp (disch:=omega) only [RR,c,Int.reduceEq]
    refine go ?_
    simp only [Bool.and_eq_true,decide_eq_true_eq,bO,eP,c,hX,hY,hK,evO,e]
    simp [and_assoc]
   ·by_cases c':o.kind=6
    ·simp (disch:=omega) only [RR,c',Int.reduceEq]
     refine go ?_
     simp only [Bool.and_eq_true,decide_eq_true_eq,bO,eP,c',hX,hY,hK,evO,e]
     simp [and_assoc]
    ·by_cases c8:o.kind=8
     ·simp (disch:=omega) only [RR,c8,Int.reduceEq]
      refine go ?_
      simp only [Bool.and_eq_true,decide_eq_true_eq,bO,eP,c8,hX,hY,hK,evO,e]
      simp [and_assoc]
     ·have n4:¬o.kind=4:=fun h=>c4 (Or.inl h)
      have n7:¬o.kind=7:=fun h=>c4 (Or.inr h)
      simp (disch:=omega) only [RR,n4,n7,c,c',c8]
      rw [iB (fun h=>by have:=h.1;omega)]
theorem ah1 {p4:Int×Unit→Bool} {f4:Int×Unit→Bool×Unit} (hp4:∀a,p4 (a,())=true) (hf4:∀a,f4 (a,())=(inB a 0 65535,()))
  {p3:List IOp×Int×Int×Unit→Bool} {f3:List IOp×Int×Int×Unit→Bool×Unit} (hp3:∀(ops:List IOp) (x n:Int),n≤ops.length→p3 (ops,x,n,())=true) (hf3:∀(ops:List IOp) (x n:Int),n≤ops.length→f3 (ops,x,n,())=(bp (Vl ops x n),()))
  (b:Blk):Qj (std 0) p4 f4 p3 f3 (b,()) (fun y=>y=(bp (zF b),())):=by
 have R9:=fun x=>hp3 b.ops x b.ops.length (Int.le_refl _)
 have Sb:=fun x=>hf3 b.ops x b.ops.length (Int.le_refl _)
 dsimp only [Qj,Alg.cl,Alg.cg,Alg.rb,Alg.bd,Alg.l1,Tup.q,Tup.o]
 simp (disch:=omega) only [RR,RB,R9,Sb,hp4,hf4]
 rw [show bp (zF b)=bp (_)from uM Jy]
 have go:∀ {c:Bool} {P:Prop},(c=true↔P)→(c,())=(bp P,()):=fun {c P} h=>Prod.ext (by dsimp only;rw [Bool.eq_iff_iff,bO];exact h) rfl
 refine⟨fun c=> ?_,fun c1=>⟨fun c=> ?_,fun c2=> ?_⟩⟩
 ·refine go ?_
  simp only [Bool.and_eq_true,decide_eq_true_eq,bO,eP,c]
  simp [and_assoc]
 ·refine go ?_
  simp only [Bool.and_eq_true,decide_eq_true_eq,bO,eP,c]
  simp [and_assoc]
 ·by_cases c:b.fin=3
  ·simp (disch:=omega) only [RR,c,Int.reduceEq]
   refine go ?_
   simp only [Bool.and_eq_true,decide_eq_true_eq,bO,eP,c]
   simp [and_assoc]
  ·by_cases c4:b.fin=4
   ·simp (disch:=omega) only [RR,c4,Int.reduceEq]
    refine go ?_
    simp only [Bool.and_eq_true,decide_eq_true_eq,bO,eP,c4]
    simp [and_assoc]
   ·simp (disch:=omega) only [RR,c,c4]
    rw [iB (fun h=>by have:=h.1;omega)]
theorem ah2 {p1:Int×Int×Int×Unit→Bool} {f1:Int×Int×Int×Unit→Bool×Unit} (hp1:∀a b c,p1 (a,b,c,())=true) (hf1:∀a b c,f1 (a,b,c,())=(inB a b c,()))
  {p2:Blk×Unit→Bool} {f2:Blk×Unit→Bool×Unit} (hp2:∀b,p2 (b,())=true) (hf2:∀b,f2 (b,())=(bp (zF b),()))
  {p3:List IOp×Int×Int×Unit→Bool} {f3:List IOp×Int×Int×Unit→Bool×Unit} (hp3:∀(ops:List IOp) (i len:Int),0≤i→i<ops.length→1≤len∧len≤8→p3 (ops,i,len,())=true) (hf3:∀(ops:List IOp) (i len:Int),0≤i→i<ops.length→1≤len∧len≤8→f3 (ops,i,len,())=(bp (AL ops len i ((ops).getD (i).toNat default)),())) (b:Blk) (h2:b.ops.length<1000000000):
  Qk (std 0) p1 f1 p2 f2 p3 f3 (b,()) (fun y=>y=(bp (bL b),())):=by
 dsimp only [Qk,Alg.cl,Alg.cg,Alg.rb,Alg.bd,Alg.l1,Tup.q,Tup.o]
 simp (disch:=omega) only [RR,RB,hp1,hf1]
 by_cases hl:1≤b.len∧b.len≤8
 ·have hl':=eP.2 hl
  simp (disch:=omega) only [RR,hl',eP,rZ]
  refine⟨fun h=> ?_,fun h=> ?_⟩
  ·rw [iB (fun g=> ?_)]
   have g1:=g.pc
   have g2:=g.sz
   omega
  ·refine au (fun(y:Int×Blk×Unit)=>y.2.1=b∧0≤y.1∧y.1≤b.ops.length∧All y.1 (fun i=>AL b.ops b.len i ((b.ops).getD (i).toNat default))) (fun y=>(b.ops.length-y.1).toNat) ⟨rfl,by simp,by simp,All.zero⟩ ?_
   rintro⟨(i:Int),(b':Blk),⟨⟩⟩ hI
   dsimp only at hI ⊢
   obtain⟨rfl,h3,h4,h5⟩:=hI
   simp (disch:=omega) only [RR,hp2 b',hf2 b']
   refine⟨fun h6=>⟨hp3 b'.ops i b'.len h3 h6 hl,?_⟩,fun h6=> ?_⟩
   ·rw [hf3 b'.ops i b'.len h3 h6 hl]
    dsimp only
    refine⟨fun h7=> ?_,fun h7=>⟨⟨by omega,by omega,h5.snoc (bO.1 h7)⟩,by omega⟩⟩
    rw [iB (fun g=>rY.1 h7 (g.op i h3 h6))]
   ·by_cases he:zF b'
    ·rw [dI he,dI (show bL b' from⟨hl,by omega,by omega,fun j j1 j2=>h5 j j1 (by omega),he⟩)]
    ·rw [iB he,iB (fun g=>he g.en)]
 ·have hl':=rZ.2 hl
  simp (disch:=omega) only [RR,hl']
  rw [iB (fun g=>hl g.ln)]
  exact⟨rfl,fun h=>h.1.1.elim⟩
theorem aov {p4:Int×Unit→Bool} {f4:Int×Unit→Bool×Unit} (hp4:∀a,p4 (a,())=true) (hf4:∀a,f4 (a,())=(inB a 0 65535,())) (r a b:Int):
  Y8 (std 0) p4 f4 (r,a,b,()) (fun y=>y=(inB a 0 65535&&inB b 0 65535&& (decide (r=1∧a=b∨r=2∧a<b)),())):=by
 dsimp only [Y8,Alg.cl,Alg.cg,Alg.rb,Alg.bd,Alg.l1,Tup.q,Tup.o]
 simp (disch:=omega) only [RR,hp4,hf4]
 refine Prod.ext ?_ rfl
 rw [Bool.eq_iff_iff];simp
theorem aow {p1:List aj×Unit→Bool} {f1:List aj×Unit→List aj×Unit} (hp1:∀a,Sh a→p1 (a,())=true) (hf1:∀a,Sh a→f1 (a,())=(a,())) (a:List (List aj)) (ha:ShP a):
  Y9 (std 0) p1 f1 (a,()) (fun y=>y=(a,())):=by
 have hlen:=ha.1
 dsimp only [Y9,Alg.cl,Alg.cg,Alg.rb,Alg.bd,Alg.l1,Tup.q,Tup.o]
 refine au (fun(y:List (List aj)×Int×Int×List (List aj)×Unit)=>y.1=a∧y.2.1=a.length∧y.2.2.2.1=a.take y.2.2.1.toNat∧0≤y.2.2.1∧y.2.2.1≤a.length) (fun y=>(a.length-y.2.2.1).toNat) ⟨rfl,rfl,by simp,by simp,by simp⟩ ?_
 rintro⟨(l:List (List aj)),(m:Int),(i:Int),(o:List (List aj)),⟨⟩⟩ hI
 dsimp only at hI ⊢
 obtain⟨rfl,rfl,rfl,h1,h2⟩:=hI
 simp (disch:=omega) only [RR,hp1 _ (ha.at _),hf1 _ (ha.at _)]
 refine⟨fun h4=>⟨by omega,by omega,?_,⟨iM h1 h4 rfl,by omega,by omega⟩,by omega⟩,fun h4=>by rw [List.take_of_length_le (by omega)]⟩
 have:=List.length_take_le' i.toNat l
 simp only [List.length_cons,List.length_nil];omega
theorem aox {p1:List aj×Unit→Bool} {f1:List aj×Unit→List aj×Unit} (hp1:∀a,Sh a→p1 (a,())=true) (hf1:∀a,Sh a→f1 (a,())=(a,()))
  {p2:List (List aj)×Unit→Bool} {f2:List (List aj)×Unit→List (List aj)×Unit} (hp2:∀a,ShP a→p2 (a,())=true) (hf2:∀a,ShP a→f2 (a,())=(a,())) (s:Sym) (hs:ShY s):
  Za (std 0) p1 f1 p2 f2 (s,()) (fun y=>y=(s.fin,s.k,s.events,s.regs,s.x,s.y,())):=by
 have hlen:=hs.e.1
 dsimp only [Za,Alg.cl,Alg.cg,Alg.rb,Alg.bd,Alg.l1,Tup.q,Tup.o]
 simp (disch:=omega) only [RR,RB,hp1 _ hs.x,hf1 _ hs.x,hp1 _ hs.y,hf1 _ hs.y,hp2 _ hs.r,hf2 _ hs.r]
 refine au (fun(y:List Ev×Int×Int×Int×Int×Int×Int×List Ev×List (List aj)×List aj×List aj×Unit)=>y.1=s.events∧y.2.1=s.events.length∧y.2.2.2.2.2.1=s.fin∧y.2.2.2.2.2.2.1=s.k∧y.2.2.2.2.2.2.2.1=s.events.take y.2.2.1.toNat∧y.2.2.2.2.2.2.2.2.1=s.regs∧y.2.2.2.2.2.2.2.2.2.1=s.x∧y.2.2.2.2.2.2.2.2.2.2.1=s.y∧0≤y.2.2.1∧y.2.2.1≤s.events.length) (fun y=>(s.events.length-y.2.2.1).toNat) ⟨rfl,rfl,rfl,rfl,by simp,rfl,rfl,rfl,by simp,by simp⟩ ?_
 rintro⟨(l:List Ev),(m:Int),(i:Int),(q1:Int),(q2:Int),(q3:Int),(q4:Int),(o:List Ev),(r:List (List aj)),(u:List aj),(v:List aj),⟨⟩⟩ hI
 dsimp only at hI ⊢
 obtain⟨rfl,rfl,rfl,rfl,rfl,rfl,rfl,rfl,h1,h2⟩:=hI
 have he:=hs.e.at i.toNat
 simp (disch:=omega) only [RR,RB,hp1 _ he.1,hf1 _ he.1,hp1 _ he.2.1,hf1 _ he.2.1,hp2 _ he.2.2,hf2 _ he.2.2]
 refine⟨fun h4=>⟨by omega,by omega,?_,⟨iM h1 h4 rfl,by omega,by omega⟩,by omega⟩,fun h4=>by rw [List.take_of_length_le (by omega)]⟩
 have:=List.length_take_le' i.toNat s.events
 simp only [List.length_cons,List.length_nil];omega
end Go.TX.F
namespace Go.TX.F
open Go Go.AE Go.TX
theorem aoy {p1:Int×Unit→Bool} {f1:Int×Unit→List aj×Unit} (hp1:∀n,p1 (n,())=true) (hf1:∀n,f1 (n,())=(ig n,()))
  {p2:List Atom×Atom×Unit→Bool} {f2:List Atom×Atom×Unit→List Atom×Int×Unit} (hp2:∀(t:List Atom) a,t.length<1000000000→ShA a→p2 (t,a,())=true) (hf2:∀(t:List Atom) a,t.length<1000000000→ShA a→f2 (t,a,())=((bM t a).1,(bM t a).2,()))
  (kd k:Int) (t:List Atom) (fl:Bool) (ht:t.length<1000000000):
  Yu (std 0) p1 f1 p2 f2 (kd,k,t,fl,()) (fun y=>y=if(bM t ⟨kd,k,[],[]⟩).2<0 then([],t,true,())else(ig (bM t ⟨kd,k,[],[]⟩).2,(bM t ⟨kd,k,[],[]⟩).1,fl,())):=by
 have sa:ShA ⟨kd,k,[],[]⟩:=⟨nL,nL⟩
 dsimp only [Yu,Alg.cl,Alg.cg,Alg.rb,Alg.bd,Alg.l1,Tup.q,Tup.o]
 simp (disch:=omega) only [RR,hp1,hf1,hp2 _ _ ht sa,hf2 _ _ ht sa]
 exact⟨fun h=>by rw [if_pos h],fun h=>by rw [if_neg h]⟩
theorem UQ (t:List Atom) (n:Nat):rN t (n+1)=((bM (rN t n).1 ⟨1,n,[],[]⟩).1,(rN t n).2++ [ig (bM (rN t n).1 ⟨1,n,[],[]⟩).2]):=rfl
theorem aoz {p1:Int×Int×List Atom×Bool×Unit→Bool} {f1:Int×Int×List Atom×Bool×Unit→List aj×List Atom×Bool×Unit} (hp1:∀kd k (t:List Atom) fl,t.length<1000000000→p1 (kd,k,t,fl,())=true)
  (hf1:∀kd k (t:List Atom) fl,t.length<1000000000→f1 (kd,k,t,fl,())=if(bM t ⟨kd,k,[],[]⟩).2<0 then([],t,true,())else(ig (bM t ⟨kd,k,[],[]⟩).2,(bM t ⟨kd,k,[],[]⟩).1,fl,()))
  (t:List Atom) (fl:Bool) (ht:aH t) (hl:t.length≤196):Yz (std 0) p1 f1 (t,fl,()) (fun y=>y=((rN t 4).1,fl,(rN t 4).2,())):=by
 dsimp only [Yz,Alg.cl,Alg.cg,Alg.rb,Alg.bd,Alg.l1,Tup.q,Tup.o]
 refine au (fun(y:Int×List Atom×Bool×List (List aj)×Unit)=>0≤y.1∧y.1≤4∧y.2.2.1=fl∧y.2.1=(rN t y.1.toNat).1∧y.2.2.2.1=(rN t y.1.toNat).2) (fun y=>(4-y.1).toNat) ⟨by simp,by simp,rfl,rfl,rfl⟩ ?_
 rintro⟨(i:Int),(u:List Atom),(g:Bool),(r:List (List aj)),⟨⟩⟩ hI
 dsimp only at hI ⊢
 obtain⟨h1,h2,rfl,rfl,rfl⟩:=hI
 have ok:=HV ht hl i.toNat (by omega)
 have l1:=ok.tl
 have l2:=ok.r4
 simp (disch:=omega) only [RR,hp1 _ _ (rN t i.toNat).1 _ (by omega),hf1 _ _ (rN t i.toNat).1 _ (by omega),List.length_cons,List.length_nil]
 refine⟨fun h3=> ?_,fun h3=> ?_⟩
 ·have hp:=KD ht hl (n:=i.toNat) (by omega)
  rw [show((i.toNat:Nat):Int)=i by omega]at hp
  rw [if_neg (by omega)]
  have e:(i+1).toNat=i.toNat+1:=by omega
  have e2:((i.toNat:Nat):Int)=i:=by omega
  refine⟨by omega,⟨by omega,by omega,rfl,?_,?_⟩,by omega⟩
  ·rw [e,UQ,e2]
  ·rw [e,UQ,e2]
 ·rw [show i.toNat=4 by omega]
theorem aoA (a:List (List aj)) (h0:0<a.length) (h1:a.length<1000000000):YM (std 0) (a,()) (fun y=>y=(a,a,())):=by
 dsimp only [YM,Alg.cl,Alg.cg,Alg.rb,Alg.bd,Alg.l1,Tup.q,Tup.o]
 simp (disch:=omega) only [RR,List.length_nil]
 exact⟨by omega,by omega,rfl⟩
theorem aoB {p2:List Atom×Unit→Bool} {f2:List Atom×Unit→List Atom×Unit} (hp2:∀a,ShT a→p2 (a,())=true) (hf2:∀a,ShT a→f2 (a,())=(a,()))
  {p1:List Atom×Bool×Unit→Bool} {f1:List Atom×Bool×Unit→List Atom×Bool×List (List aj)×Unit} (hp1:∀(t:List Atom) fl,aH t→t.length≤196→p1 (t,fl,())=true) (hf1:∀(t:List Atom) fl,aH t→t.length≤196→f1 (t,fl,())=((rN t 4).1,fl,(rN t 4).2,())):
  YF (std 0) p2 f2 p1 f1 () (fun y=>y.1=t4):=by
 have s4:ShT t4:=Z7.1.sh
 unfold t4 at s4 ⊢
 dsimp only [YF,Alg.cl,Alg.cg,Alg.rb,Alg.bd,Alg.l1,Tup.q,Tup.o]
 simp (disch:=omega) only [RR,hp1 [] false wz (by simp),hf1 [] false wz (by simp),hp2 _ s4,hf2 _ s4]
theorem aoC {p1:List aj×Unit→Bool} {f1:List aj×Unit→Int×Bool×Unit} (hp1:∀a,Sh a→p1 (a,())=true) (hf1:∀a,Sh a→f1 (a,())=((eu a).1,(eu a).2,()))
  {p2:List aj×Unit→Bool} {f2:List aj×Unit→Bool×Unit} (hp2:∀a,Sh a→p2 (a,())=true) (hf2:∀a,Sh a→f2 (a,())=(bp (aQ a),()))
  {p3:List aj×List aj×Unit→Bool} {f3:List aj×List aj×Unit→Int×Unit} (hp3:∀a b,Sh a→p3 (a,b,())=true) (hf3:∀a b,Sh a→f3 (a,b,())=(iT a b,()))
  {p4:Sym×Unit→Bool} {f4:Sym×Unit→Int×Int×List Ev×List (List aj)×List aj×List aj×Unit} (hp4:∀s,ShY s→p4 (s,())=true) (hf4:∀s,ShY s→f4 (s,())=(s.fin,s.k,s.events,s.regs,s.x,s.y,()))
  {p5:List aj×List aj×Unit→Bool} {f5:List aj×List aj×Unit→Bool×Unit} (hp5:∀a b,Sh a→p5 (a,b,())=true) (hf5:∀a b,Sh a→f5 (a,b,())=(decide (iT a b=0),()))
  {p6:Int×Int×Int×Unit→Bool} {f6:Int×Int×Int×Unit→Bool×Unit} (hp6:∀r a b,p6 (r,a,b,())=true) (hf6:∀r a b,f6 (r,a,b,())=(inB a 0 65535&&inB b 0 65535&& (decide (r=1∧a=b∨r=2∧a<b)),()))
  (s:Sym) (n:Int) (hs:ShY s) (h0:0≤s.fin) (h1:s.fin≤4):Zb (std 0) p1 f1 p2 f2 p3 f3 p4 f4 p5 f5 p6 f6 (s,n,()) (fun y=>y=(symEnd s n,())):=by
 dsimp only [Zb,Alg.cl,Alg.cg,Alg.rb,Alg.bd,Alg.l1,Tup.q,Tup.o]
 simp (disch:=omega) only [RR,RB,hp1 _ hs.x,hf1 _ hs.x,hp1 _ hs.y,hf1 _ hs.y,hp2 _ hs.x,hf2 _ hs.x,hp2 _ hs.y,hf2 _ hs.y,hp3 _ _ hs.x,hf3 _ _ hs.x,hp4 s hs,hf4 s hs,hp5 _ _ hs.x,hf5 _ _ hs.x,hp6,hf6]
 have xy:iT s.x s.y=0↔s.x=s.y:=mH
 have rx:(eu s.x).2=true→inB (eu s.x).1 0 65535=true:=fun h=>eP.2 (Hy h).2.2
 have ry:(eu s.y).2=true→inB (eu s.y).1 0 65535=true:=fun h=>eP.2 (Hy h).2.2
 unfold symEnd
 refine⟨fun h=> ?_,fun h=>⟨fun g=> ?_,fun g=>⟨fun k=> ?_,fun k=>⟨fun l=>⟨fun m=> ?_,fun m=> ?_⟩,fun l=>⟨fun m=> ?_,fun m=> ?_⟩⟩⟩⟩⟩
 ·rw [if_pos (by rw [uL,Bool.and_eq_false_iff];exact h)];rfl
 all_goals rw [if_neg (by rw [uL,h.1,h.2];simp)]
 ·rw [if_pos g]
 all_goals rw [if_neg (show¬(s.fin=2∧(eu s.x).2=true) by
  rintro⟨a,b⟩;rw [decide_eq_true a,b]at g;cases g)]
 ·rw [if_pos k]
 all_goals rw [if_neg (show¬(s.fin≠3∧s.fin≠4) by
  rintro⟨a,b⟩;rw [decide_eq_false a,decide_eq_false b]at k;cases k)]
 ·rw [if_pos (by rw [←xy];exact l),if_neg]
  rintro(⟨q1,q2⟩ | ⟨⟨q1,q2⟩,q3⟩)
  ·have:=m.1;rw [decide_eq_true (xy.2 q1),decide_eq_true q2]at this;cases this
  ·have:=m.2
   rw [q1,q2,rx q1,ry q2,decide_eq_true (by omega)]at this;cases this
 ·rw [if_pos (by rw [←xy];exact l),if_pos]
  rcases m with⟨q1,q2⟩ | ⟨q1,_,q3⟩
  ·exact Or.inl ⟨xy.1 q1,q2⟩
  ·exact Or.inr ⟨q1,by omega⟩
 all_goals rw [if_neg (show¬(s.x=s.y∨(eu s.x).2=true∧(eu s.y).2=true) by
  rintro(q | ⟨q1,q2⟩)
  ·exact l.1 (xy.2 q)
  ·have:=l.2;rw [q1,q2]at this;cases this)]
 ·rw [if_pos m]
 ·rw [if_neg]
  rintro⟨a,b⟩;rw [decide_eq_true a,decide_eq_true b]at m;cases m
end Go.TX.F
namespace Go.TX.F
open Go Go.AE Go.TX
noncomputable def SW (t:List Atom) (b:Blk) (i:Nat):SS:=(b.ops.take i).foldl stp (s0 t)
structure At (t:List Atom) (b:Blk) (i:Nat) (ld inn:Int) (tb:List Atom) (V:List (List aj)) (ev:List Ev) (rg:List (List aj)):Prop where
 ld:ld=(SW t b i).ld
 inn:inn=(SW t b i).inn
 tb:tb=(SW t b i).t
 V:V=(SW t b i).vals++List.replicate (b.ops.length-i) []
 ev:ev=(SW t b i).evs
 rg:rg=(SW t b i).regs
theorem At.arE {t:List Atom} {b:Blk} {i:Nat} {ld inn:Int} {tb:List Atom} {V:List (List aj)} {ev:List Ev} {rg:List (List aj)} (h:At t b i ld inn tb V ev rg) (hv:(SW t b i).vals.length=i) (hi:i≤b.ops.length):V.length=b.ops.length:=by
 rw [h.V,List.length_append,List.length_replicate,hv];omega
theorem UR (t:List Atom):∀(l:List IOp) (s:SS),(l.foldl stp s).evs.length≤s.evs.length+l.length
 | [],s=>Nat.le_refl _
 | o::r,s=>by
  rw [List.foldl_cons,List.length_cons]
  have h1:=UR t r (stp s o)
  have h2:(stp s o).evs.length≤s.evs.length+1:=by
   show(nE s o).length≤_
   unfold nE;split
   ·rw [List.length_append];exact Nat.le_refl _
   ·omega
  omega
theorem ah3 {t:List Atom} {b:Blk} (i:Nat) (hi:i≤b.ops.length):(SW t b i).evs.length≤i:=by
 have:=UR t (b.ops.take i) (s0 t)
 rw [List.length_take,Nat.min_eq_left hi]at this
 show((b.ops.take i).foldl stp (s0 t)).evs.length≤i
 have e:(s0 t).evs.length=0:=rfl
 omega
theorem acr {t:List Atom} {b:Blk} {i:Nat} (hi:i<b.ops.length):SW t b (i+1)=stp (SW t b i) (b.ops.getD i default):=by
 unfold SW;rw [kD _ _ hi,getD_lt hi]
theorem At.next {t:List Atom} {b:Blk} {i:Nat} {ld inn:Int} {tb:List Atom} {V:List (List aj)} {ev:List Ev} {rg:List (List aj)} (h:At t b i ld inn tb V ev rg) (hv:(SW t b i).vals.length=i) (hi:i<b.ops.length) {o:IOp} (ho:b.ops.getD i default=o)
  {ld' aae:Int} {tb':List Atom} {V':List (List aj)} {ev':List Ev} {rg':List (List aj)} (h1:ld'=if o.kind=4 then ld+1 else ld) (h2:aae=if o.kind=6 then inn+1 else inn) (h3:tb'=nT (SW t b i) o) (h4:V'=V.set i (nV (SW t b i) o)) (h5:ev'=nE (SW t b i) o) (h6:rg'=nR (SW t b i) o):At t b (i+1) ld' aae tb' V' ev' rg':=by
 have e:=acr (t:=t) hi
 rw [ho]at e
 refine⟨?_,?_,?_,?_,?_,?_⟩<;>rw [e]
 ·rw [h1,h.ld];rfl
 ·rw [h2,h.inn];rfl
 ·exact h3
 ·rw [h4,h.V]
  show _=((SW t b i).vals++ [nV (SW t b i) o])++_
  rw [List.set_append_right _ _ (by omega),hv,Nat.sub_self,show b.ops.length-i=(b.ops.length- (i+1))+1 by omega,List.replicate_succ,List.set_cons_zero,List.append_assoc];rfl
 ·exact h5
 ·exact h6
set_option maxHeartbeats 1000000 in
theorem aoD {p1:Blk×Unit→Bool} {f1:Blk×Unit→Bool×Bool×Bool×Unit} (hp1:∀b,p1 (b,())=true) (hf1:∀b,f1 (b,())=(decide (b.fin≠1),decide (3≤b.fin),decide (b.fin≠2),()))
  {p2:Blk×Unit→Bool} {f2:Blk×Unit→Bool×Unit} (hp2:∀b,b.ops.length<1000000000→p2 (b,())=true) (hf2:∀b,b.ops.length<1000000000→f2 (b,())=(bp (bL b),()))
  {p3:IOp×Unit→Bool} {f3:IOp×Unit→Bool×Unit} (hp3:∀o,p3 (o,())=true) (hf3:∀o,f3 (o,())=(decide (evO o),()))
  {p4:IOp×Unit→Bool} {f4:IOp×Unit→Bool×Bool×Bool×Bool×Unit} (hp4:∀o,p4 (o,())=true) (hf4:∀o,f4 (o,())=(decide (hX o),decide (hY o),decide (hK o),decide (evO o),()))
  {p5:Int×Unit→Bool} {f5:Int×Unit→List aj×Unit} (hp5:∀n,p5 (n,())=true) (hf5:∀n,f5 (n,())=(aX n,()))
  {p6:Sym×Int×Unit→Bool} {f6:Sym×Int×Unit→Sym×Unit} (hp6:∀s n,ShY s→0≤s.fin→s.fin≤4→p6 (s,n,())=true) (hf6:∀s n,ShY s→0≤s.fin→s.fin≤4→f6 (s,n,())=(symEnd s n,()))
  {p7:List Atom×Unit→Bool} {f7:List Atom×Unit→Bool×Unit} (hp7:∀a,ShT a→p7 (a,())=true) (hf7:∀a,ShT a→f7 (a,())=(bp (aH a),()))
  {p8:List Atom×Unit→Bool} {f8:List Atom×Unit→List Atom×Unit} (hp8:∀a,ShT a→p8 (a,())=true) (hf8:∀a,ShT a→f8 (a,())=(a,()))
  {p9:List Atom×Int×List aj×List aj×Unit→Bool} {f9:List Atom×Int×List aj×List aj×Unit→List Atom×List aj×Bool×Unit} (hp9:∀(t:List Atom) op x y,t.length<1000000000→Sh x→Sh y→p9 (t,op,x,y,())=true)
  (hf9:∀(t:List Atom) op x y,t.length<1000000000→Sh x→Sh y→(f9 (t,op,x,y,())).1=(tDo t op x y).1∧(f9 (t,op,x,y,())).2.1=(tDo t op x y).2∧(f9 (t,op,x,y,())).2.2.1=tOk t op x y)
  {p10:Int×Int×List Atom×Bool×Unit→Bool} {f10:Int×Int×List Atom×Bool×Unit→List aj×List Atom×Bool×Unit} (aoE:∀kd k (t:List Atom) fl,t.length<1000000000→p10 (kd,k,t,fl,())=true)
  (arF:∀kd k (t:List Atom) fl,t.length<1000000000→f10 (kd,k,t,fl,())=if(bM t ⟨kd,k,[],[]⟩).2<0 then([],t,true,())else(ig (bM t ⟨kd,k,[],[]⟩).2,(bM t ⟨kd,k,[],[]⟩).1,fl,()))
  {p11:List Atom×Bool×Unit→Bool} {f11:List Atom×Bool×Unit→List Atom×Bool×List (List aj)×Unit} (arG:∀(t:List Atom) fl,aH t→t.length≤196→p11 (t,fl,())=true) (arH:∀(t:List Atom) fl,aH t→t.length≤196→f11 (t,fl,())=((rN t 4).1,fl,(rN t 4).2,()))
  {p12:List (List aj)×Unit→Bool} {f12:List (List aj)×Unit→List (List aj)×List (List aj)×Unit} (aoF:∀a:List (List aj),0<a.length→a.length<1000000000→p12 (a,())=true) (aoG:∀a:List (List aj),0<a.length→a.length<1000000000→f12 (a,())=(a,a,()))
  (t:List Atom) (b:Blk) (ht:ShT t) (hb:b.ops.length<1000000000):Ze (std 0) p1 f1 p2 f2 p3 f3 p4 f4 p5 f5 p6 f6 p7 f7 p8 f8 p9 f9 p10 f10 p11 f11 p12 f12 (t,b,()) (fun y=>y=((bI t b).1,(bI t b).2,())):=by
 have hlt:=ht.1
 dsimp only [Ze,Alg.cl,Alg.cg,Alg.rb,Alg.bd,Alg.l1,Tup.q,Tup.o]
 simp (disch:=omega) only [RR,RB,hp7 t ht,hf7 t ht,hp2 b hb,hf2 b hb]
 by_cases c:aH t∧t.length≤100∧bL b
 case neg=>
  refine⟨fun _=> ?_,fun h=> ?_⟩
  ·unfold bI;rw [iB c];rfl
  ·exact absurd ⟨bO.1 h.1.1,by omega,bO.1 h.2⟩ c
 obtain⟨c1,c2,c3⟩:=c
 simp (disch:=omega) only [RR,dI c1,dI c3,arG t false c1 (by omega),arH t false c1 (by omega)]
 have sz:=c3.sz
 have hop:=c3.op
 have hk3:=c3.k3
 have i0:=zH c1 (by omega)
 have siw:∀j:Nat,j≤b.ops.length→SI (t.length+4) j (SW t b j):=fun j hj=>by
  have:=(uS (b.ops.take j) 0 (s0 t) i0 (fun o ho=>hk3 o (List.mem_of_mem_take ho)) (by rw [List.length_take];omega) (by rw [List.length_take];omega)).1
  rw [List.length_take,Nat.min_eq_left hj,Nat.zero_add]at this;exact this
 refine⟨fun h=>absurd h (by omega),fun _=>⟨by omega,by omega,?_⟩⟩
 refine au (fun(y:Int×Int×List IOp×Int×Int×Blk×Int×Int×List Atom×Bool×Int×Int×List (List aj)×List Ev×List (List aj)×Unit)=>y.2.2.2.2.2.1=b∧y.2.2.1=b.ops∧y.2.2.2.1=b.ops.length∧y.2.2.2.2.2.2.2.2.2.1=false∧y.2.2.2.2.2.2.2.2.2.2.1=b.fin∧y.2.2.2.2.2.2.2.2.2.2.2.1=b.k∧
   0≤y.2.2.2.2.1∧y.2.2.2.2.1≤b.ops.length∧At t b y.2.2.2.2.1.toNat y.1 y.2.1 y.2.2.2.2.2.2.2.2.1 y.2.2.2.2.2.2.2.2.2.2.2.2.1 y.2.2.2.2.2.2.2.2.2.2.2.2.2.1 y.2.2.2.2.2.2.2.2.2.2.2.2.2.2.1) (fun y=>(b.ops.length-y.2.2.2.2.1).toNat)
  ⟨rfl,rfl,rfl,rfl,rfl,rfl,by simp,by simp,⟨rfl,rfl,rfl,rfl,rfl,rfl⟩⟩ ?_
 rintro⟨(ld:Int),(inn:Int),(ops:List IOp),(n:Int),(i:Int),(b':Blk),(z1:Int),(z2:Int),(tb:List Atom),(fl:Bool),(fin:Int),(kk:Int),(V:List (List aj)),(ev:List Ev),(rg:List (List aj)),⟨⟩⟩ hI
 dsimp only at hI ⊢
 obtain⟨e1,e2,e3,e4,e5,e6,h1,h2,hA⟩:=hI
 subst e1 e2 e3 e4 e5 e6
 have hl:V.length=b'.ops.length:=hA.arE (siw i.toNat (by omega)).vl (by omega)
 have si:=siw i.toNat (by omega)
 obtain⟨a1,a2,a3,a4,a5,a6⟩:=hA
 have tl:tb.length<1000000000:=by rw [a3];have:=si.tl;omega
 have r4:rg.length=4:=by rw [a6];exact si.r4
 have evl:ev.length≤i.toNat:=by rw [a5];exact ah3 i.toNat (by omega)
 by_cases h7:i<b'.ops.length
 case neg=>
  have en:=c3.en
  have hf:=en.f
  have hpc:=c3.pc
  have hln:=c3.ln
  have ein:i.toNat=b'.ops.length:=by omega
  have eS:SW t b' i.toNat=eD t b':=by unfold SW eD;rw [ein,List.take_of_length_le (Nat.le_refl _)]
  rw [eS]at a1 a2 a3 a4 a5 a6 si
  have eV:V=(eD t b').vals:=by rw [a4,ein,Nat.sub_self];simp
  clear a4
  have pk:=KG (b:=b') si
  have eR:=kC c1 c2 c3
  have sh:ShY (jQ b' (eD t b')):=by
   have i0:=zH c1 (by omega)
   have hs:=RX b'.ops 0 (s0 t) i0 hk3 (by omega) (by omega) ⟨by simp [s0],fun e he=>absurd he (by simp [s0])⟩
   exact⟨⟨by have:=hs.1;show(b'.ops.foldl stp (s0 t)).evs.length<_;omega,hs.2⟩,si.regs,pk.1.sh,pk.2.sh⟩
  have st:=si.tok.sh
  have q6:=hp6 (jQ b' (eD t b')) (b'.pc+b'.len) sh (by show 0≤b'.fin;omega) hf.2
  have r6:=hf6 (jQ b' (eD t b')) (b'.pc+b'.len) sh (by show 0≤b'.fin;omega) hf.2
  subst a1 a2 a3 a5 a6 eV
  have x1:=en.x1
  have y1:=en.y1
  have sl:=si.vl
  have E:jQ b' (eD t b')=⟨(eD t b').evs,(eD t b').regs,b'.fin,if b'.fin=1 then []else(((eD t b').vals).getD (b'.x).toNat default),if 3≤b'.fin then(((eD t b').vals).getD (b'.y).toNat default)else [],b'.k⟩:=rfl
  rw [E]at q6 r6
  rcases(by omega:b'.fin=1∨b'.fin=2∨3≤b'.fin)with c | c | c
  ·have n2:¬3≤b'.fin:=by omega
   rw [if_pos c,if_neg n2]at q6 r6
   simp (disch:=omega) only [RR,RB,h7,hp1,hf1,decide_eq_false n2,c,ne_eq,not_true_eq_false,decide_false,hp8 _ st,hf8 _ st]
   rw [c]at q6 r6
   rw [eR,E,if_pos c,if_neg n2,c]
   exact⟨fun h=>absurd h (by omega),fun _=>⟨q6,by rw [r6]⟩⟩
  ·have n1:b'.fin≠1:=by omega
   have n2:¬3≤b'.fin:=by omega
   obtain⟨v1,v2,_⟩:=x1 n1
   rw [if_neg n1,if_neg n2]at q6 r6
   simp (disch:=omega) only [RR,RB,h7,hp1,hf1,decide_eq_true n1,decide_eq_false n2,hp8 _ st,hf8 _ st]
   rw [eR,E,if_neg n1,if_neg n2]
   exact⟨v1,by omega,v1,by omega,q6,by rw [r6]⟩
  ·have n1:b'.fin≠1:=by omega
   obtain⟨v1,v2,_⟩:=x1 n1
   obtain⟨w1,w2,_⟩:=y1 c
   rw [if_neg n1,if_pos c]at q6 r6
   simp (disch:=omega) only [RR,RB,h7,hp1,hf1,decide_eq_true n1,decide_eq_true c,hp8 _ st,hf8 _ st]
   rw [eR,E,if_neg n1,if_pos c]
   exact⟨v1,by omega,v1,by omega,w1,by omega,w1,by omega,q6,by rw [r6]⟩
 have hok:=hop i h1 h7
 have nxt:=fun {ld' aae:Int} {tb':List Atom} {V':List (List aj)} {ev':List Ev} {rg':List (List aj)}=>At.next (t:=t) (b:=b') (i:=i.toNat) (o:=((b'.ops).getD (i).toNat default)) ⟨a1,a2,a3,a4,a5,a6⟩ si.vl (by omega) rfl (ld':=ld') (aae:=aae) (tb':=tb') (V':=V') (ev':=ev') (rg':=rg')
 have ei:(i+1).toNat=i.toNat+1:=by omega
 have vx:∀j:Int,0≤j→j<i→((V).getD (j).toNat default)=(((SW t b' i.toNat).vals).getD (j).toNat default):=fun j j1 j2=>by
  have:=si.vl
  rw [a4,getD_lt (by rw [List.length_append];omega),getD_lt (by omega),List.getElem_append_left]
 have ex:hX ((b'.ops).getD (i).toNat default)→((V).getD ((((b'.ops).getD (i).toNat default)).x).toNat default)=xOf (SW t b' i.toNat) ((b'.ops).getD (i).toNat default):=fun h=>by
  unfold xOf;rw [if_pos h];exact vx _ (hok.x1 h).1 (hok.x1 h).2.1
 have ey:hY ((b'.ops).getD (i).toNat default)→((V).getD ((((b'.ops).getD (i).toNat default)).y).toNat default)=yOf (SW t b' i.toNat) ((b'.ops).getD (i).toNat default):=fun h=>by
  unfold yOf;rw [if_pos h];exact vx _ (hok.y1 h).1 (hok.y1 h).2.1
 have v0:V.set i.toNat []=V:=by
  have:=si.vl
  rw [a4,List.set_append_right _ _ (by omega),this,Nat.sub_self,show b'.ops.length-i.toNat=(b'.ops.length- (i.toNat+1))+1 by omega,List.replicate_succ,List.set_cons_zero]
 obtain⟨sn,so⟩:=KC (o:=((b'.ops).getD (i).toNat default)) si hok.k3 (by omega) (by omega)
 have gl:=si.ld
 have gi:=si.inn
 have shx:=(si.x ((b'.ops).getD (i).toNat default)).1.sh
 have shy:=(si.y ((b'.ops).getD (i).toNat default)).1.sh
 generalize hs:SW t b' i.toNat=s at*
 generalize ho:((b'.ops).getD (i).toNat default)=o at*
 have kd:=hok.kd
 subst a1 a2 a3 a5 a6
 have L0:o.kind≠4→s.ld=if o.kind=4 then s.ld+1 else s.ld:=fun h=>by rw [if_neg h]
 have I0:o.kind≠6→s.inn=if o.kind=6 then s.inn+1 else s.inn:=fun h=>by rw [if_neg h]
 have T0:o.kind≠3→o.kind≠4→o.kind≠6→s.t=nT s o:=fun h3 h4 h6=>by unfold nT;rw [if_neg h3,if_neg (by omega)]
 have R0:o.kind≠8→s.regs=nR s o:=fun h=>by unfold nR;rw [if_neg h]
 have E0:¬evO o→s.evs=nE s o:=fun h=>by unfold nE;rw [if_neg h]
 have V0:o.kind=5∨o.kind=7∨o.kind=8→V=V.set i.toNat (nV s o):=fun h=>by
  rw [show nV s o=[] by unfold nV;rw [if_neg (by omega),if_neg (by omega),if_neg (by omega),if_neg (by omega)],v0]
 have P0:∀kd k,0≤(bM s.t ⟨kd,k,[],[]⟩).2→f10 (kd,k,s.t,false,())=(ig (bM s.t ⟨kd,k,[],[]⟩).2,(bM s.t ⟨kd,k,[],[]⟩).1,false,()):=fun kd k h=>by
  rw [arF _ _ _ _ tl,if_neg (by omega)]
 have y0:¬hY o→yOf s o=[]:=fun h=>by unfold yOf;rw [if_neg h]
 have x0:¬hX o→xOf s o=[]:=fun h=>by unfold xOf;rw [if_neg h]
 rcases(by omega:o.kind=1∨o.kind=2∨o.kind=3∨o.kind=4∨o.kind=5∨o.kind=6∨o.kind=7∨o.kind=8)with c | c | c | c | c | c | c | c
 ·have dX:decide (hX o)=false:=decide_eq_false (by unfold hX;omega)
  have dY:decide (hY o)=false:=decide_eq_false (by unfold hY;omega)
  have dE:decide (evO o)=false:=decide_eq_false (by unfold evO;omega)
  have N:At t b' (i.toNat+1) s.ld s.inn s.t (V.set i.toNat (aX o.k)) s.evs s.regs:=nxt (L0 (by omega)) (I0 (by omega)) (T0 (by omega) (by omega) (by omega)) (by unfold nV;rw [if_pos c]) (E0 (by unfold evO;omega)) (R0 (by omega))
  simp (disch:=omega) only [RR,RB,ho,h7,hp4,hf4,hp3,hf3,dX,dY,dE,c,Int.reduceEq,List.length_cons,List.length_nil,hp5,hf5]
  repeat' apply And.intro
  all_goals first | omega | (rw [ei];exact N)
 ·have dX:decide (hX o)=false:=decide_eq_false (by unfold hX;omega)
  have dY:decide (hY o)=false:=decide_eq_false (by unfold hY;omega)
  have dE:decide (evO o)=false:=decide_eq_false (by unfold evO;omega)
  have k2:=hok.k2 (Or.inl c)
  have N:At t b' (i.toNat+1) s.ld s.inn s.t (V.set i.toNat ((s.regs).getD (o.k).toNat default)) s.evs s.regs:=nxt (L0 (by omega)) (I0 (by omega)) (T0 (by omega) (by omega) (by omega)) (by unfold nV;rw [if_neg (by omega),if_pos c]) (E0 (by unfold evO;omega)) (R0 (by omega))
  simp (disch:=omega) only [RR,RB,ho,h7,hp4,hf4,hp3,hf3,dX,dY,dE,c,Int.reduceEq,List.length_cons,List.length_nil,r4]
  repeat' apply And.intro
  all_goals first | omega | (rw [ei];exact N)
 ·have dX:decide (hX o)=true:=decide_eq_true (by unfold hX;omega)
  have dY:decide (hY o)=true:=decide_eq_true (by unfold hY;omega)
  have dE:decide (evO o)=false:=decide_eq_false (by unfold evO;omega)
  have v1:=hok.x1 (by unfold hX;omega)
  have v2:=hok.y1 (by unfold hY;omega)
  have u1:=v1.2.1
  have u2:=v2.2.1
  have w1:=v1.1
  have w2:=v2.1
  obtain⟨d1,d2,d3⟩:=hf9 s.t o.k _ _ tl shx shy
  have d4:=(so.d c).ok
  have N:At t b' (i.toNat+1) s.ld s.inn (tDo s.t o.k (xOf s o) (yOf s o)).1 (V.set i.toNat (tDo s.t o.k (xOf s o) (yOf s o)).2) s.evs s.regs:=nxt (L0 (by omega)) (I0 (by omega)) (by unfold nT;rw [if_pos c]) (by unfold nV;rw [if_neg (by omega),if_neg (by omega),if_pos c]) (E0 (by unfold evO;omega)) (R0 (by omega))
  simp (disch:=omega) only [RR,RB,ho,h7,hp4,hf4,hp3,hf3,dX,dY,dE,c,Int.reduceEq,List.length_cons,List.length_nil,ex (by unfold hX;omega),ey (by unfold hY;omega),hp9 s.t o.k _ _ tl shx shy,d1,d2,d3,d4]
  repeat' apply And.intro
  all_goals first | omega | (rw [ei];exact N)
 ·have dX:decide (hX o)=true:=decide_eq_true (by unfold hX;omega)
  have dY:decide (hY o)=false:=decide_eq_false (by unfold hY;omega)
  have dE:decide (evO o)=true:=decide_eq_true (by unfold evO;omega)
  have v1:=hok.x1 (by unfold hX;omega)
  have u1:=v1.2.1
  have w1:=v1.1
  have ea:aOf s o=⟨2,s.ld,[],[]⟩:=by unfold aOf;rw [if_pos c]
  have pp:=so.p (Or.inl c)
  rw [ea]at pp
  have N:At t b' (i.toNat+1) (s.ld+1) s.inn (bM s.t ⟨2,s.ld,[],[]⟩).1 (V.set i.toNat (ig (bM s.t ⟨2,s.ld,[],[]⟩).2)) (s.evs++ [⟨4,o.at_,xOf s o,[],s.regs⟩]) s.regs:=nxt (by rw [if_pos c]) (I0 (by omega)) (by unfold nT;rw [if_neg (by omega),if_pos (Or.inl c),ea]) (by unfold nV;rw [if_neg (by omega),if_neg (by omega),if_neg (by omega),if_pos (Or.inl c),ea]) (by unfold nE;rw [if_pos (by unfold evO;omega),if_pos (Or.inl c),c,y0 (by unfold hY;omega)]) (R0 (by omega))
  simp (disch:=omega) only [RR,RB,ho,h7,hp4,hf4,hp3,hf3,dX,dY,dE,c,Int.reduceEq,List.length_cons,List.length_nil,ex (by unfold hX;omega),aoF s.regs (by omega) (by omega),aoG s.regs (by omega) (by omega),aoE 2 s.ld s.t false tl,P0 2 s.ld pp]
  repeat' apply And.intro
  all_goals first | omega | (rw [ei];exact N)
 ·have dX:decide (hX o)=true:=decide_eq_true (by unfold hX;omega)
  have dY:decide (hY o)=true:=decide_eq_true (by unfold hY;omega)
  have dE:decide (evO o)=true:=decide_eq_true (by unfold evO;omega)
  have v1:=hok.x1 (by unfold hX;omega)
  have v2:=hok.y1 (by unfold hY;omega)
  have u1:=v1.2.1
  have u2:=v2.2.1
  have w1:=v1.1
  have w2:=v2.1
  have N:At t b' (i.toNat+1) s.ld s.inn s.t V (s.evs++ [⟨5,o.at_,xOf s o,yOf s o,s.regs⟩]) s.regs:=nxt (L0 (by omega)) (I0 (by omega)) (T0 (by omega) (by omega) (by omega)) (V0 (by omega)) (by unfold nE;rw [if_pos (by unfold evO;omega),if_pos (Or.inr c),c]) (R0 (by omega))
  simp (disch:=omega) only [RR,RB,ho,h7,hp4,hf4,hp3,hf3,dX,dY,dE,c,Int.reduceEq,List.length_cons,List.length_nil,ex (by unfold hX;omega),ey (by unfold hY;omega),aoF s.regs (by omega) (by omega),aoG s.regs (by omega) (by omega)]
  repeat' apply And.intro
  all_goals first | omega | (rw [ei];exact N)
 ·have dX:decide (hX o)=false:=decide_eq_false (by unfold hX;omega)
  have dY:decide (hY o)=false:=decide_eq_false (by unfold hY;omega)
  have dE:decide (evO o)=true:=decide_eq_true (by unfold evO;omega)
  have ea:aOf s o=⟨3,s.inn,[],[]⟩:=by unfold aOf;rw [if_neg (by omega)]
  have pp:=so.p (Or.inr c)
  rw [ea]at pp
  have N:At t b' (i.toNat+1) s.ld (s.inn+1) (bM s.t ⟨3,s.inn,[],[]⟩).1 (V.set i.toNat (ig (bM s.t ⟨3,s.inn,[],[]⟩).2)) (s.evs++ [⟨6,o.at_,[],[],[]⟩]) s.regs:=nxt (L0 (by omega)) (by rw [if_pos c]) (by unfold nT;rw [if_neg (by omega),if_pos (Or.inr c),ea]) (by unfold nV;rw [if_neg (by omega),if_neg (by omega),if_neg (by omega),if_pos (Or.inr c),ea]) (by unfold nE;rw [if_pos (by unfold evO;omega),if_neg (by omega),c,x0 (by unfold hX;omega),y0 (by unfold hY;omega)]) (R0 (by omega))
  simp (disch:=omega) only [RR,RB,ho,h7,hp4,hf4,hp3,hf3,dX,dY,dE,c,Int.reduceEq,List.length_cons,List.length_nil,aoE 3 s.inn s.t false tl,P0 3 s.inn pp]
  repeat' apply And.intro
  all_goals first | omega | (rw [ei];exact N)
 ·have dX:decide (hX o)=true:=decide_eq_true (by unfold hX;omega)
  have dY:decide (hY o)=false:=decide_eq_false (by unfold hY;omega)
  have dE:decide (evO o)=true:=decide_eq_true (by unfold evO;omega)
  have v1:=hok.x1 (by unfold hX;omega)
  have u1:=v1.2.1
  have w1:=v1.1
  have N:At t b' (i.toNat+1) s.ld s.inn s.t V (s.evs++ [⟨7,o.at_,xOf s o,[],[]⟩]) s.regs:=nxt (L0 (by omega)) (I0 (by omega)) (T0 (by omega) (by omega) (by omega)) (V0 (by omega)) (by unfold nE;rw [if_pos (by unfold evO;omega),if_neg (by omega),c,y0 (by unfold hY;omega)]) (R0 (by omega))
  simp (disch:=omega) only [RR,RB,ho,h7,hp4,hf4,hp3,hf3,dX,dY,dE,c,Int.reduceEq,List.length_cons,List.length_nil,ex (by unfold hX;omega)]
  repeat' apply And.intro
  all_goals first | omega | (rw [ei];exact N)
 ·have dX:decide (hX o)=true:=decide_eq_true (by unfold hX;omega)
  have dY:decide (hY o)=false:=decide_eq_false (by unfold hY;omega)
  have dE:decide (evO o)=false:=decide_eq_false (by unfold evO;omega)
  have v1:=hok.x1 (by unfold hX;omega)
  have u1:=v1.2.1
  have w1:=v1.1
  have k2:=hok.k2 (Or.inr c)
  have N:At t b' (i.toNat+1) s.ld s.inn s.t V s.evs (s.regs.set o.k.toNat (xOf s o)):=nxt (L0 (by omega)) (I0 (by omega)) (T0 (by omega) (by omega) (by omega)) (V0 (by omega)) (E0 (by unfold evO;omega)) (by unfold nR;rw [if_pos c])
  simp (disch:=omega) only [RR,RB,ho,h7,hp4,hf4,hp3,hf3,dX,dY,dE,c,Int.reduceEq,List.length_cons,List.length_nil,ex (by unfold hX;omega),r4]
  repeat' apply And.intro
  all_goals first | omega | (rw [ei];exact N)
end Go.TX.F
namespace Go.TX.F
open Go Go.AE Go.TX
theorem ah4 (i:Ins):QJ (std 0) (i,()) (fun _=>True):=by
 dsimp only [QJ,Alg.cl,Alg.cg,Alg.rb,Alg.bd,Alg.l1,Tup.q,Tup.o]
 simp (disch:=omega) only [RR]
theorem ah5 {p1:Int×Int×Int×Unit→Bool} {f1:Int×Int×Int×Unit→Bool×Unit} (hp1:∀a b c,p1 (a,b,c,())=true) (hf1:∀a b c,f1 (a,b,c,())=(inB a b c,())) {p2:Ins×Unit→Bool} {f2:Ins×Unit→Bool×Unit} (hp2:∀i,p2 (i,())=true) (i:Ins):QK (std 0) p1 f1 p2 f2 (i,()) (fun _=>True):=by
 dsimp only [QK,Alg.cl,Alg.cg,Alg.rb,Alg.bd,Alg.l1,Tup.q,Tup.o]
 simp (disch:=omega) only [RR,hp1,hp2]
theorem ah6 (i:Int):QL (std 0) (i,()) (fun _=>True):=by
 dsimp only [QL,Alg.cl,Alg.cg,Alg.rb,Alg.bd,Alg.l1,Tup.q,Tup.o]
theorem ah7 {p1:Int×Unit→Bool} {f1:Int×Unit→Bool×Unit} (hp1:∀i,p1 (i,())=true) {p2:Ins×Unit→Bool} {f2:Ins×Unit→Bool×Unit} (hp2:∀i,p2 (i,())=true) (i:Ins):QM (std 0) p1 f1 p2 f2 (i,()) (fun _=>True):=by
 dsimp only [QM,Alg.cl,Alg.cg,Alg.rb,Alg.bd,Alg.l1,Tup.q,Tup.o]
 simp (disch:=omega) only [RR,hp1,hp2]
theorem ah8 {p1:Int×Unit→Bool} {f1:Int×Unit→Bool×Unit} (hp1:∀i,p1 (i,())=true) {p2:Ins×Unit→Bool} {f2:Ins×Unit→Bool×Unit} (hp2:∀i,p2 (i,())=true) {p3:Int×Int×Int×Unit→Bool} {f3:Int×Int×Int×Unit→Bool×Unit} (hp3:∀a b c,p3 (a,b,c,())=true) (hf3:∀a b c,f3 (a,b,c,())=(inB a b c,())) {p4:Ins×Unit→Bool} {f4:Ins×Unit→Bool×Unit} (hp4:∀i,p4 (i,())=true) (pc:Int) (l:List Ins) (hl:(l.length:Int)<1000):QY (std 0) p1 f1 p2 f2 p3 f3 p4 f4 (pc,l,()) (fun _=>True):=by
 dsimp only [QY,Alg.cl,Alg.cg,Alg.rb,Alg.bd,Alg.l1,Tup.q,Tup.o]
 simp (disch:=omega) only [RR,hp1,hp2,hp3,hp4]
 refine fun _=> ?_
 refine au (fun(y:List Ins×Int×Unit)=>y.1=l∧0≤y.2.1) (fun y=>((l.length:Int)-y.2.1).toNat) ⟨rfl,by simp⟩ ?_
 rintro⟨(l':List Ins),(j:Int),⟨⟩⟩ hI
 dsimp only at hI ⊢
 obtain⟨rfl,h1⟩:=hI
 simp (disch:=omega) only [RR,hp1,hp2,hp3,hp4,or_true]
 refine fun h=>⟨h1,h,by omega,by omega,by omega,by omega,fun _=> ?_⟩
 rw [w64 (by omega) (by omega)];constructor<;>omega
theorem aaf (a1 a2 a3 a4 a5 a6:Int) (o:IOp) (ops:List IOp) (hl:(ops.length:Int)<1000000):QZ (std 0) (a1,a2,a3,a4,a5,a6,o,ops,()) (fun y=>(y.2.2.2.2.2.2.2.1.length:Int)=ops.length+1):=by
 dsimp only [QZ,Alg.cl,Alg.cg,Alg.rb,Alg.bd,Alg.l1,Tup.q,Tup.o]
 simp (disch:=omega) only [RR,List.length_append,List.length_cons,List.length_nil]
 omega
theorem aag {p1:Int×Int×Int×Int×Int×Int×IOp×List IOp×Unit→Bool} {f1:Int×Int×Int×Int×Int×Int×IOp×List IOp×Unit→Int×Int×Int×Int×Int×Int×Int×List IOp×Unit} (hp1:∀a1 a2 a3 a4 a5 a6 o ops,(ops.length:Int)<1000000→p1 (a1,a2,a3,a4,a5,a6,o,ops,())=true) (hf1:∀a1 a2 a3 a4 a5 a6 o ops,(ops.length:Int)<1000000→((f1 (a1,a2,a3,a4,a5,a6,o,ops,())).2.2.2.2.2.2.2.1.length:Int)=ops.length+1) (a1 a2 a3 a4 a5 a6:Int) (k:Int) (ops:List IOp) (hl:(ops.length:Int)<1000000):Q5 (std 0) p1 f1 (a1,a2,a3,a4,a5,a6,k,ops,()) (fun y=>(y.2.2.2.2.2.2.2.1.length:Int)=ops.length+1):=by
 dsimp only [Q5,Alg.cl,Alg.cg,Alg.rb,Alg.bd,Alg.l1,Tup.q,Tup.o]
 simp (disch:=omega) only [RR,hp1,hf1]
theorem aah {p1:Int×Int×Int×Int×Int×Int×IOp×List IOp×Unit→Bool} {f1:Int×Int×Int×Int×Int×Int×IOp×List IOp×Unit→Int×Int×Int×Int×Int×Int×Int×List IOp×Unit} (hp1:∀a1 a2 a3 a4 a5 a6 o ops,(ops.length:Int)<1000000→p1 (a1,a2,a3,a4,a5,a6,o,ops,())=true) (hf1:∀a1 a2 a3 a4 a5 a6 o ops,(ops.length:Int)<1000000→((f1 (a1,a2,a3,a4,a5,a6,o,ops,())).2.2.2.2.2.2.2.1.length:Int)=ops.length+1) (a1 a2 a3 a4 a5 a6:Int) (k x:Int) (ops:List IOp) (hl:(ops.length:Int)<1000000):Q0 (std 0) p1 f1 (a1,a2,a3,a4,a5,a6,k,x,ops,()) (fun y=>(y.2.2.2.2.2.2.1.length:Int)=ops.length+1):=by
 dsimp only [Q0,Alg.cl,Alg.cg,Alg.rb,Alg.bd,Alg.l1,Tup.q,Tup.o]
 simp (disch:=omega) only [RR,hp1,hf1]
theorem ah9 {p1:Int×Int×Int×Int×Int×Int×Int×List IOp×Unit→Bool} {f1:Int×Int×Int×Int×Int×Int×Int×List IOp×Unit→Int×Int×Int×Int×Int×Int×Int×List IOp×Unit} (hp1:∀a1 a2 a3 a4 a5 a6 k ops,(ops.length:Int)<1000000→p1 (a1,a2,a3,a4,a5,a6,k,ops,())=true) (hf1:∀a1 a2 a3 a4 a5 a6 k ops,(ops.length:Int)<1000000→((f1 (a1,a2,a3,a4,a5,a6,k,ops,())).2.2.2.2.2.2.2.1.length:Int)=ops.length+1) {p2:Int×Int×Int×Int×Int×Int×IOp×List IOp×Unit→Bool} {f2:Int×Int×Int×Int×Int×Int×IOp×List IOp×Unit→Int×Int×Int×Int×Int×Int×Int×List IOp×Unit} (hp2:∀a1 a2 a3 a4 a5 a6 o ops,(ops.length:Int)<1000000→p2 (a1,a2,a3,a4,a5,a6,o,ops,())=true) (hf2:∀a1 a2 a3 a4 a5 a6 o ops,(ops.length:Int)<1000000→((f2 (a1,a2,a3,a4,a5,a6,o,ops,())).2.2.2.2.2.2.2.1.length:Int)=ops.length+1) (a1 a2 a3 a4 a5 a6:Int) (k a:Int) (o:IOp) (ops:List IOp) (hl:(ops.length:Int)<999000):Q6 (std 0) p1 f1 p2 f2 (a1,a2,a3,a4,a5,a6,k,a,o,ops,()) (fun y=>(y.2.2.2.2.2.2.2.1.length:Int)=ops.length+3):=by
 dsimp only [Q6,Alg.cl,Alg.cg,Alg.rb,Alg.bd,Alg.l1,Tup.q,Tup.o]
 simp (disch:=(first | omega | (simp (disch:=(first | omega | (simp (disch:=(first | omega | (simp (disch:=omega) only [hf1,hf2];omega))) only [hf1,hf2];omega))) only [hf1,hf2];omega))) only [RR,hp1,hp2,hf1,hf2]
 omega
theorem aia {p1:Int×Int×Int×Int×Int×Int×Int×List IOp×Unit→Bool} {f1:Int×Int×Int×Int×Int×Int×Int×List IOp×Unit→Int×Int×Int×Int×Int×Int×Int×List IOp×Unit} (hp1:∀a1 a2 a3 a4 a5 a6 k ops,(ops.length:Int)<1000000→p1 (a1,a2,a3,a4,a5,a6,k,ops,())=true) (hf1:∀a1 a2 a3 a4 a5 a6 k ops,(ops.length:Int)<1000000→((f1 (a1,a2,a3,a4,a5,a6,k,ops,())).2.2.2.2.2.2.2.1.length:Int)=ops.length+1) {p2:Int×Int×Int×Int×Int×Int×IOp×List IOp×Unit→Bool} {f2:Int×Int×Int×Int×Int×Int×IOp×List IOp×Unit→Int×Int×Int×Int×Int×Int×Int×List IOp×Unit} (hp2:∀a1 a2 a3 a4 a5 a6 o ops,(ops.length:Int)<1000000→p2 (a1,a2,a3,a4,a5,a6,o,ops,())=true) (hf2:∀a1 a2 a3 a4 a5 a6 o ops,(ops.length:Int)<1000000→((f2 (a1,a2,a3,a4,a5,a6,o,ops,())).2.2.2.2.2.2.2.1.length:Int)=ops.length+1) {p3:Int×Int×Int×Int×Int×Int×Int×Int×IOp×List IOp×Unit→Bool} {f3:Int×Int×Int×Int×Int×Int×Int×Int×IOp×List IOp×Unit→Int×Int×Int×Int×Int×Int×Int×List IOp×Unit} (hp3:∀a1 a2 a3 a4 a5 a6 k a o ops,(ops.length:Int)<999000→p3 (a1,a2,a3,a4,a5,a6,k,a,o,ops,())=true) (hf3:∀a1 a2 a3 a4 a5 a6 k a o ops,(ops.length:Int)<999000→((f3 (a1,a2,a3,a4,a5,a6,k,a,o,ops,())).2.2.2.2.2.2.2.1.length:Int)=ops.length+3) {p4:Int×Int×Int×Int×Int×Int×Int×Int×List IOp×Unit→Bool} {f4:Int×Int×Int×Int×Int×Int×Int×Int×List IOp×Unit→Int×Int×Int×Int×Int×Int×List IOp×Unit} (hp4:∀a1 a2 a3 a4 a5 a6 k x ops,(ops.length:Int)<1000000→p4 (a1,a2,a3,a4,a5,a6,k,x,ops,())=true) (hf4:∀a1 a2 a3 a4 a5 a6 k x ops,(ops.length:Int)<1000000→((f4 (a1,a2,a3,a4,a5,a6,k,x,ops,())).2.2.2.2.2.2.1.length:Int)=ops.length+1) (a1 a2 a3 a4 a5 a6:Int) (i:Ins) (k:Int) (ops:List IOp) (hl:(ops.length:Int)<998000):Q8 (std 0) p1 f1 p2 f2 p3 f3 p4 f4 (a1,a2,a3,a4,a5,a6,i,k,ops,()) (fun y=>(y.2.2.2.2.2.2.1.length:Int)=ops.length+5):=by
 dsimp only [Q8,Alg.cl,Alg.cg,Alg.rb,Alg.bd,Alg.l1,Tup.q,Tup.o]
 simp (disch:=(first | omega | (simp (disch:=(first | omega | (simp (disch:=(first | omega | (simp (disch:=omega) only [hf1,hf2,hf3,hf4];omega))) only [hf1,hf2,hf3,hf4];omega))) only [hf1,hf2,hf3,hf4];omega))) only [RR,hp1,hp2,hp3,hp4,hf1,hf2,hf3,hf4]
 constructor<;>intro _<;>omega
theorem aai {p1:Int×Int×Int×Int×Int×Int×Int×List IOp×Unit→Bool} {f1:Int×Int×Int×Int×Int×Int×Int×List IOp×Unit→Int×Int×Int×Int×Int×Int×Int×List IOp×Unit} (hp1:∀a1 a2 a3 a4 a5 a6 k ops,(ops.length:Int)<1000000→p1 (a1,a2,a3,a4,a5,a6,k,ops,())=true) (hf1:∀a1 a2 a3 a4 a5 a6 k ops,(ops.length:Int)<1000000→((f1 (a1,a2,a3,a4,a5,a6,k,ops,())).2.2.2.2.2.2.2.1.length:Int)=ops.length+1) (a1 a2 a3 a4 a5 a6:Int) (i:Ins) (ops:List IOp) (hl:(ops.length:Int)<999000):Q9 (std 0) p1 f1 (a1,a2,a3,a4,a5,a6,i,ops,()) (fun y=>(y.2.2.2.2.2.2.1.length:Int)≤ops.length+5):=by
 dsimp only [Q9,Alg.cl,Alg.cg,Alg.rb,Alg.bd,Alg.l1,Tup.q,Tup.o]
 simp (disch:=(first | omega | (simp (disch:=(first | omega | (simp (disch:=(first | omega | (simp (disch:=omega) only [hf1];omega))) only [hf1];omega))) only [hf1];omega))) only [RR,hp1,hf1]
 refine⟨fun _=>by omega,fun _=>⟨fun _=>by omega,fun _=>by omega⟩⟩
theorem aib (k:Int) (hk:k<1000):Q7 (std 0) (k,()) (fun _=>True):=by
 dsimp only [Q7,Alg.cl,Alg.cg,Alg.rb,Alg.bd,Alg.l1,Tup.q,Tup.o]
 simp (disch:=omega) only [RR]
 refine au (fun(y:Int×Int×Int×Unit)=>y.1=k∧0≤y.2.2.1) (fun y=>(k-y.2.2.1).toNat) ⟨rfl,by simp⟩ ?_
 rintro⟨(k':Int),(z:Int),(j:Int),⟨⟩⟩ hI
 dsimp only at hI ⊢
 obtain⟨rfl,h1⟩:=hI
 simp (disch:=omega) only [RR]
 refine fun h=> ?_
 rw [w64 (by omega) (by omega)];constructor<;>omega
theorem aic {p1:Int×Int×Int×Int×Int×Int×Int×List IOp×Unit→Bool} {f1:Int×Int×Int×Int×Int×Int×Int×List IOp×Unit→Int×Int×Int×Int×Int×Int×Int×List IOp×Unit} (hp1:∀a1 a2 a3 a4 a5 a6 k ops,(ops.length:Int)<1000000→p1 (a1,a2,a3,a4,a5,a6,k,ops,())=true) (hf1:∀a1 a2 a3 a4 a5 a6 k ops,(ops.length:Int)<1000000→((f1 (a1,a2,a3,a4,a5,a6,k,ops,())).2.2.2.2.2.2.2.1.length:Int)=ops.length+1) {p2:Int×Int×Int×Int×Int×Int×Ins×List IOp×Unit→Bool} {f2:Int×Int×Int×Int×Int×Int×Ins×List IOp×Unit→Int×Int×Int×Int×Int×Int×List IOp×Unit} (hp2:∀a1 a2 a3 a4 a5 a6 i ops,(ops.length:Int)<999000→p2 (a1,a2,a3,a4,a5,a6,i,ops,())=true) (hf2:∀a1 a2 a3 a4 a5 a6 i ops,(ops.length:Int)<999000→((f2 (a1,a2,a3,a4,a5,a6,i,ops,())).2.2.2.2.2.2.1.length:Int)≤ops.length+5) {p3:Int×Int×Int×Int×Int×Int×IOp×List IOp×Unit→Bool} {f3:Int×Int×Int×Int×Int×Int×IOp×List IOp×Unit→Int×Int×Int×Int×Int×Int×Int×List IOp×Unit} (hp3:∀a1 a2 a3 a4 a5 a6 o ops,(ops.length:Int)<1000000→p3 (a1,a2,a3,a4,a5,a6,o,ops,())=true) (hf3:∀a1 a2 a3 a4 a5 a6 o ops,(ops.length:Int)<1000000→((f3 (a1,a2,a3,a4,a5,a6,o,ops,())).2.2.2.2.2.2.2.1.length:Int)=ops.length+1) {p4:Int×Int×Int×Int×Int×Int×Ins×Int×List IOp×Unit→Bool} {f4:Int×Int×Int×Int×Int×Int×Ins×Int×List IOp×Unit→Int×Int×Int×Int×Int×Int×List IOp×Unit} (hp4:∀a1 a2 a3 a4 a5 a6 i k ops,(ops.length:Int)<998000→p4 (a1,a2,a3,a4,a5,a6,i,k,ops,())=true) (hf4:∀a1 a2 a3 a4 a5 a6 i k ops,(ops.length:Int)<998000→((f4 (a1,a2,a3,a4,a5,a6,i,k,ops,())).2.2.2.2.2.2.1.length:Int)=ops.length+5) {p5:Int×Int×Int×Int×Int×Int×Int×Int×IOp×List IOp×Unit→Bool} {f5:Int×Int×Int×Int×Int×Int×Int×Int×IOp×List IOp×Unit→Int×Int×Int×Int×Int×Int×Int×List IOp×Unit} (hp5:∀a1 a2 a3 a4 a5 a6 k a o ops,(ops.length:Int)<999000→p5 (a1,a2,a3,a4,a5,a6,k,a,o,ops,())=true) (hf5:∀a1 a2 a3 a4 a5 a6 k a o ops,(ops.length:Int)<999000→((f5 (a1,a2,a3,a4,a5,a6,k,a,o,ops,())).2.2.2.2.2.2.2.1.length:Int)=ops.length+3) {p6:Int×Int×Int×Int×Int×Int×Int×Int×List IOp×Unit→Bool} {f6:Int×Int×Int×Int×Int×Int×Int×Int×List IOp×Unit→Int×Int×Int×Int×Int×Int×List IOp×Unit} (hp6:∀a1 a2 a3 a4 a5 a6 k x ops,(ops.length:Int)<1000000→p6 (a1,a2,a3,a4,a5,a6,k,x,ops,())=true) (hf6:∀a1 a2 a3 a4 a5 a6 k x ops,(ops.length:Int)<1000000→((f6 (a1,a2,a3,a4,a5,a6,k,x,ops,())).2.2.2.2.2.2.1.length:Int)=ops.length+1) {p7:Int×Unit→Bool} {f7:Int×Unit→Int×Unit} (hp7:∀k,k<1000→p7 (k,())=true) (a1 a2 a3 a4 a5 a6:Int) (i:Ins) (k:Int) (ops:List IOp) (hk:i.k<1000) (hl:(ops.length:Int)<997000):Ra (std 0) p1 f1 p2 f2 p3 f3 p4 f4 p5 f5 p6 f6 p7 f7 (a1,a2,a3,a4,a5,a6,i,k,ops,()) (fun y=>(y.2.2.2.2.2.2.1.length:Int)≤ops.length+5):=by
 have e4:=fun i k=>hf4 a1 a2 a3 a4 a5 a6 i k ops (by omega)
 have e2:=fun i=>hf2 a1 a2 a3 a4 a5 a6 i ops (by omega)
 dsimp only [Ra,Alg.cl,Alg.cg,Alg.rb,Alg.bd,Alg.l1,Tup.q,Tup.o]
 simp (disch:=(first | omega | (simp (disch:=(first | omega | (simp (disch:=(first | omega | (simp (disch:=omega) only [hf1,hf3,hf5,RB];omega))) only [hf1,hf3,hf5,RB];omega))) only [hf1,hf3,hf5,RB];omega))) only [RR,RB,hp1,hp2,hp3,hp4,hp5,hp6,hp7,hf1,hf3,hf4,hf5,hf6]
 have:=e2 i
 repeat' (first | (refine⟨?_,?_⟩) | intro _)
 all_goals omega
def KB (l:List Ins):Prop:=∀i∈l,i.k<1000
theorem KB.at {l:List Ins} (h:KB l) (n:Nat):(l.getD n default).k<1000:=by
 by_cases h1:n<l.length
 ·rw [getD_lt h1];exact h _ (List.getElem_mem _)
 ·simp only [List.getD,List.getElem?_eq_none (by omega:l.length≤n)];decide
theorem aie {p1:Int×List Ins×Unit→Bool} {f1:Int×List Ins×Unit→Bool×Unit} (hp1:∀pc l,(l.length:Int)<1000→p1 (pc,l,())=true) {p2:Int×Int×Int×Int×Int×Int×Ins×Int×List IOp×Unit→Bool} {f2:Int×Int×Int×Int×Int×Int×Ins×Int×List IOp×Unit→Int×Int×Int×Int×Int×Int×List IOp×Unit} (hp2:∀a1 a2 a3 a4 a5 a6 i k ops,i.k<1000→(ops.length:Int)<997000→p2 (a1,a2,a3,a4,a5,a6,i,k,ops,())=true) (hf2:∀a1 a2 a3 a4 a5 a6 i k ops,i.k<1000→(ops.length:Int)<997000→((f2 (a1,a2,a3,a4,a5,a6,i,k,ops,())).2.2.2.2.2.2.1.length:Int)≤ops.length+5) (pc:Int) (l:List Ins) (hl:(l.length:Int)<1000) (hk:KB l):Rb (std 0) p1 f1 p2 f2 (pc,l,()) (fun y=>(y.2.2.2.2.2.2.1.length:Int)≤5000):=by
 dsimp only [Rb,Alg.cl,Alg.cg,Alg.rb,Alg.bd,Alg.l1,Tup.q,Tup.o]
 simp (disch:=omega) only [RR,hp1,List.length_nil]
 refine⟨fun _=>by omega,fun _=> ?_⟩
 refine au (fun(y:List Ins×Int×Int×Int×Int×Int×Int×Int×Int×Int×Int×Int×Int×Int×List IOp×Unit)=>y.1=l∧0≤y.2.1∧y.2.1≤l.length∧(y.2.2.2.2.2.2.2.2.2.2.2.2.2.2.1.length:Int)≤5*y.2.1) (fun y=>((l.length:Int)-y.2.1).toNat) ⟨rfl,by simp,by simp,by simp⟩ ?_
 rintro⟨(l':List Ins),(j:Int),u1,u2,u3,u4,u5,u6,b1,b2,b3,b4,b5,b6,(ops:List IOp),⟨⟩⟩ hI
 dsimp only at hI ⊢
 obtain⟨rfl,h1,h2,h3⟩:=hI
 have hk':=hk.at j.toNat
 simp (disch:=omega) only [RR,hp2]
 refine⟨fun h=> ?_,fun h=>by omega⟩
 have:=hf2 b1 b2 b3 b4 b5 b6 ((l').getD (j).toNat default) j ops hk' (by omega)
 exact⟨h1,h,⟨by omega,by omega,by omega⟩,by omega⟩
end Go.TX.F
namespace Go.TX.F
open Go Go.AE Go.TX
structure InD (m:Int) (b:List Int) (p:Int) (y:Int×Int×Int×Int×List Int×Int×Unit):Prop where
 b:y.2.2.2.2.1=b
 lo:p≤y.2.2.2.2.2.1
 hi:y.2.2.2.2.2.1≤p+m
 k:0≤y.2.2.2.1∧y.2.2.2.1≤255
@[reducible] def aif : List Int → Prop
 | []=>True
 | x::l=>(0≤x∧x≤255)∧aif l
theorem OJ:∀(l:List Int) (n:Nat),aif l→0≤l.getD n default∧l.getD n default≤255
 | [],n,_=>by simp only [List.getD_nil];decide
 | x::l,0,h=>h.1
 | x::l,n+1,h=>OJ l n h.2
theorem pkR {f1:Int×List Int×Int×Unit→Int×List Int×Int×Unit} {b:List Int} (hb:Bt b) (hf1:∀n b p,Bt b→0≤p→p<1000000000→Pk n b p (f1 (n,b,p,()))):
  (∀n p,0≤p→p<1000000000→(f1 (n,b,p,())).2.1=b)∧(∀n p,0≤p→p<1000000000→(f1 (n,b,p,())).2.2.1=p+1)∧
  (∀n p,0≤p→p<1000000000→(0≤(f1 (n,b,p,())).1)=True)∧(∀n p k,0≤p→p<1000000000→n≤k→0<k→((f1 (n,b,p,())).1<k)=True)∧
  (∀n p k,0≤p→p<1000000000→n≤k+1→0≤k→((f1 (n,b,p,())).1≤k)=True):=
 ⟨fun n p h1 h2=>(hf1 n b p hb h1 h2).1,fun n p h1 h2=>(hf1 n b p hb h1 h2).2.1,fun n p h1 h2=>eq_true (hf1 n b p hb h1 h2).2.2.1,
  fun n p k h1 h2 h3 h4=>eq_true (by have:=(hf1 n b p hb h1 h2).2.2;omega),fun n p k h1 h2 h3 h4=>eq_true (by have:=(hf1 n b p hb h1 h2).2.2;omega)⟩
theorem aii {p1:Int×List Int×Int×Unit→Bool} {f1:Int×List Int×Int×Unit→Int×List Int×Int×Unit} (hp1:∀n b p,Bt b→0≤p→p<1000000000→p1 (n,b,p,())=true) (hf1:∀n b p,Bt b→0≤p→p<1000000000→Pk n b p (f1 (n,b,p,()))) (b:List Int) (p:Int) (hb:Bt b) (h1:0≤p) (h2:p<900000000):QI (std 0) p1 f1 (b,p,()) (fun y=>InD 20 b p y):=by
 have R:=pkR hb hf1
 have P:=fun n p h1 h2=>hp1 n b p hb h1 h2
 dsimp only [QI,Alg.cl,Alg.cg,Alg.rb,Alg.bd,Alg.l1,Tup.q,Tup.o]
 simp (disch:=omega) only [RR,R,P,List.length_cons,List.length_nil]
 repeat' (first | (refine⟨?_,?_⟩) | intro _)
 all_goals try omega
 all_goals refine⟨rfl,by dsimp only;omega,by dsimp only;omega,?_⟩
 all_goals dsimp only
 all_goals first | omega | (refine OJ _ _ ?_;simp (disch:=omega) only [aif,R,Int.reduceLE,and_self,true_and,and_true]) | (simp (disch:=omega) only [R,Int.reduceLE,and_self,true_and,and_true])
theorem aij {p1:List Int×Int×Unit→Bool} {f1:List Int×Int×Unit→Int×Int×Int×Int×List Int×Int×Unit} (hp1:∀b p,Bt b→0≤p→p<900000000→p1 (b,p,())=true) (hf1:∀b p,Bt b→0≤p→p<900000000→InD 20 b p (f1 (b,p,()))) {p2:Int×List Int×Int×Unit→Bool} {f2:Int×List Int×Int×Unit→Int×List Int×Int×Unit} (hp2:∀n b p,Bt b→0≤p→p<1000000000→p2 (n,b,p,())=true) (hf2:∀n b p,Bt b→0≤p→p<1000000000→Pk n b p (f2 (n,b,p,()))) {p3:Ins×Unit→Bool} {f3:Ins×Unit→Bool×Unit} (hp3:∀i,p3 (i,())=true) (b:List Int) (p:Int) (hb:Bt b) (h1:0≤p) (h2:p<800000000):QU (std 0) p1 f1 p2 f2 p3 f3 (b,p,()) (fun y=>InD 30 b p y):=by
 obtain⟨a1,a2,a3,a4⟩:=hf1 b p hb h1 (by omega)
 have R:=pkR hb hf2
 have P:=fun n p h1 h2=>hp2 n b p hb h1 h2
 dsimp only [QU,Alg.cl,Alg.cg,Alg.rb,Alg.bd,Alg.l1,Tup.q,Tup.o]
 simp (disch:=omega) only [RR,hp1 b p hb h1 (by omega),hp3,a1,R,P]
 refine⟨fun _=>⟨rfl,by dsimp only;omega,by dsimp only;omega,?_⟩,fun _=>⟨rfl,a2,by dsimp only;omega,a4⟩⟩
 dsimp only
 simp (disch:=omega) only [R,Int.reduceLE,and_self]
structure LiD (b:List Int) (p:Int) (y:List Int×Int×List Ins×Unit):Prop where
 b:y.1=b
 lo:p≤y.2.1
 hi:y.2.1≤p+1000
 len:(y.2.2.1.length:Int)≤20
 k:KB y.2.2.1
theorem KB.app {l:List Ins} {i:Ins} (h:KB l) (h2:i.k≤255):KB (l++ [i]):=fun x hx=>by
 rw [List.mem_append,List.mem_singleton]at hx
 rcases hx with hx | rfl
 ·exact h x hx
 ·omega
theorem aik {p1:List Int×Int×Unit→Bool} {f1:List Int×Int×Unit→Int×Int×Int×Int×List Int×Int×Unit} (hp1:∀b p,Bt b→0≤p→p<800000000→p1 (b,p,())=true) (hf1:∀b p,Bt b→0≤p→p<800000000→InD 30 b p (f1 (b,p,()))) {p2:Int×List Int×Int×Unit→Bool} {f2:Int×List Int×Int×Unit→Int×List Int×Int×Unit} (hp2:∀n b p,Bt b→0≤p→p<1000000000→p2 (n,b,p,())=true) (hf2:∀n b p,Bt b→0≤p→p<1000000000→Pk n b p (f2 (n,b,p,()))) (b:List Int) (p:Int) (hb:Bt b) (h1:0≤p) (h2:p<700000000):QX (std 0) p1 f1 p2 f2 (b,p,()) (fun y=>LiD b p y):=by
 obtain⟨e1,e2,e3,e4⟩:=hf2 8 b p hb h1 (by omega)
 dsimp only [QX,Alg.cl,Alg.cg,Alg.rb,Alg.bd,Alg.l1,Tup.q,Tup.o]
 simp (disch:=omega) only [RR,hp2 8 b p hb h1 (by omega),e1,e2]
 refine au (fun(y:Int×List Int×Int×List Ins×Unit)=>0≤y.1∧y.1≤8∧y.2.1=b∧p≤y.2.2.1∧y.2.2.1+40*y.1≤p+400∧(y.2.2.2.1.length:Int)+y.1≤8∧KB y.2.2.2.1) (fun y=>y.1.toNat)
  ⟨e3,by dsimp only;omega,rfl,by dsimp only;omega,by dsimp only;omega,by dsimp only [List.length_nil];omega,fun x hx=>by cases hx⟩ ?_
 rintro⟨(k:Int),(b':List Int),(q:Int),(l:List Ins),⟨⟩⟩ hI
 dsimp only at hI ⊢
 obtain⟨k1,k2,rfl,k3,k4,k5,k6⟩:=hI
 have R:=pkR hb hf2
 have P:=fun n p h1 h2=>hp2 n b' p hb h1 h2
 obtain⟨a1,a2,a3,a4⟩:=hf1 b' q hb (by omega) (by omega)
 obtain⟨b1,b2,b3,b4⟩:=hf1 b' (q+1) hb (by omega) (by omega)
 simp (disch:=omega) only [RR,RB,hp1 b' q hb (by omega) (by omega),hp1 b' (q+1) hb (by omega) (by omega),a1,b1,R,P,List.length_cons,List.length_nil,List.length_append]
 refine⟨fun c=>⟨by omega,⟨by omega,by omega,by omega,by omega,by omega,k6.app a4.2⟩,by omega⟩,fun c=>⟨fun _=>⟨by omega,rfl,by dsimp only;omega,by dsimp only;omega,?_,?_⟩,fun _=>⟨fun _=>⟨by omega,rfl,by dsimp only;omega,by dsimp only;omega,?_,?_⟩,fun _=>⟨by omega,rfl,by dsimp only;omega,by dsimp only;omega,?_,?_⟩⟩⟩⟩
 ·dsimp only;rw [List.length_append];simp only [List.length_cons,List.length_nil];omega
 ·refine k6.app ?_
  dsimp only
  simp (disch:=omega) only [R]
 ·dsimp only;rw [List.length_append];simp only [List.length_cons,List.length_nil];omega
 ·exact k6.app (by dsimp only;omega)
 ·dsimp only;rw [List.length_append];simp only [List.length_cons,List.length_nil];omega
 ·exact k6.app b4.2
end Go.TX.F
namespace Go.TX.F
open Go Go.AE Go.TX
theorem aaj (b:Blk) (hb:b.ops.length<1000000):Ql (std 0) (b,()) (fun y=>y=(b.pc,b.len,b.fin,b.x,b.y,b.k,b.ops,())):=by
 dsimp only [Ql,Alg.cl,Alg.cg,Alg.rb,Alg.bd,Alg.l1,Tup.q,Tup.o]
 simp (disch:=omega) only [RR,RB,List.nil_append,List.length_nil]
 omega
def kn (ops:List IOp) (k:Int):Int×Bool:=if 0≤k∧k<ops.length∧(((ops).getD (k).toNat default)).kind=1 then((((ops).getD (k).toNat default)).k,true)else(0,false)
@[reducible] def bk7 (b : Blk) : Int × Int × Int × Int × Int × Int × List IOp × Unit := (b.pc, b.len, b.fin, b.x, b.y, b.k, b.ops, ())
structure FE (b:Blk):Prop where
 f:1≤b.fin∧b.fin≤4
 x:b.fin≠1→0≤b.x∧b.x<b.ops.length
 y:3≤b.fin→0≤b.y∧b.y<b.ops.length
 y0:b.fin≤2→b.y=0
 p:0≤b.pc∧b.pc≤100∧0≤b.len∧b.len≤100
theorem aak (ops:List IOp) (k:Int):Qx (std 0) (ops,k,()) (fun y=>y=((kn ops k).1,(kn ops k).2,())):=by
 dsimp only [Qx,Alg.cl,Alg.cg,Alg.rb,Alg.bd,Alg.l1,Tup.q,Tup.o]
 simp (disch:=omega) only [RR,RB]
 unfold kn
 refine⟨by omega,by omega,fun h=> ?_,fun h=>⟨by omega,by omega,?_⟩⟩
 ·rw [if_neg (by omega)]
 ·rw [if_pos (by omega)]
theorem aal (b:Blk) (k:Int):QC (std 0) (b,k,()) (fun y=>y=(b.pc,b.len,b.ops,1,0,0,k,())):=by
 dsimp only [QC,Alg.cl,Alg.cg,Alg.rb,Alg.bd,Alg.l1,Tup.q,Tup.o]
 simp (disch:=omega) only [RR,RB]
theorem ail {p1:Blk×Int×Unit→Bool} {f1:Blk×Int×Unit→Int×Int×List IOp×Int×Int×Int×Int×Unit} (hp1:∀b k,p1 (b,k,())=true) (hf1:∀b k,f1 (b,k,())=(b.pc,b.len,b.ops,1,0,0,k,())) {p2:List IOp×Int×Unit→Bool} {f2:List IOp×Int×Unit→Int×Bool×Unit} (hp2:∀ops k,p2 (ops,k,())=true) (hf2:∀ops k,f2 (ops,k,())=((kn ops k).1,(kn ops k).2,())) (b:Blk) (h:FE b):QD (std 0) p1 f1 p2 f2 (b,()) (fun y=>y=(fcB b b.ops,())):=by
 have hp:=h.p
 have hf:=h.f
 have k1:b.fin≠1→kn b.ops b.x=if(((b.ops).getD (b.x).toNat default)).kind=1 then((((b.ops).getD (b.x).toNat default)).k,true)else(0,false):=fun c=>by
  have:=h.x c
  unfold kn;simp only [this,true_and]
 have k2:3≤b.fin→kn b.ops b.y=if(((b.ops).getD (b.y).toNat default)).kind=1 then((((b.ops).getD (b.y).toNat default)).k,true)else(0,false):=fun c=>by
  have:=h.y c
  unfold kn;simp only [this,true_and]
 have y0:=h.y0
 have mkE:∀p l o f x y k,Co.mk .blk (p,l,o,f,x,y,k,())=Blk.mk p l o f x y k:=fun _ _ _ _ _ _ _=>rfl
 dsimp only [QD,Alg.cl,Alg.cg,Alg.rb,Alg.bd,Alg.l1,Tup.q,Tup.o]
 simp (disch:=omega) only [RR,RB,hp1,hf1,hp2,hf2,mkE,Bool.and_eq_false_iff]
 by_cases c1:b.fin=1
 ·have e:fcB b b.ops=b:=by unfold fcB;rw [if_neg (by omega),if_neg (by omega)]
  rw [e]
  refine⟨fun h=>absurd h.1 (by omega),fun _=>⟨fun h=>absurd h.1.1.1 (by omega),fun _=>⟨fun h=>absurd h.1.1.1 (by omega),fun _=>⟨fun h=>absurd h.1.1 (by omega),fun _=>rfl⟩⟩⟩⟩
 ·rw [k1 c1]
  by_cases c2:b.fin=2
  ·by_cases d:(((b.ops).getD (b.x).toNat default)).kind=1
   ·have e:fcB b b.ops=⟨b.pc,b.len,b.ops,1,0,0,(((b.ops).getD (b.x).toNat default)).k⟩:=by unfold fcB;rw [if_pos ⟨c2,d⟩,y0 (by omega)]
    rw [if_pos d,e]
    refine⟨fun _=>rfl,fun h=> ?_⟩
    rcases h with h | h
    ·exact absurd c2 h
    ·cases h
   ·have e:fcB b b.ops=b:=by unfold fcB;rw [if_neg (fun g=>d g.2),if_neg (by omega)]
    rw [if_neg d,e]
    refine⟨fun h=>absurd h.2 (by decide),fun _=>⟨fun h=>absurd h.1.1.1 (by omega),fun _=>⟨fun h=>absurd h.1.1.1 (by omega),fun _=>⟨fun h=>absurd h.1.1 (by omega),fun _=>rfl⟩⟩⟩⟩
  ·rw [k2 (by omega)]
   refine⟨fun h=>absurd h.1 c2,fun _=> ?_⟩
   by_cases d:(((b.ops).getD (b.x).toNat default)).kind=1∧(((b.ops).getD (b.y).toNat default)).kind=1
   ·have e:fcB b b.ops=⟨b.pc,b.len,b.ops,1,0,0,if b.fin=3∧(((b.ops).getD (b.x).toNat default)).k=(((b.ops).getD (b.y).toNat default)).k∨b.fin=4∧(((b.ops).getD (b.x).toNat default)).k< (((b.ops).getD (b.y).toNat default)).k then b.k else b.pc+b.len⟩:=by
     unfold fcB;rw [if_neg (by omega),if_pos ⟨by omega,d⟩]
    rw [if_pos d.1,if_pos d.2,e]
    dsimp only
    simp only [and_true,Bool.true_eq_false,or_false,Prod.mk.injEq,Blk.mk.injEq,true_and]
    refine⟨fun h=>⟨fun _=>by rw [if_pos (Or.inl h)],fun g=>by omega⟩,fun h=>⟨fun g=>by rw [if_pos (Or.inr g)],fun g=>⟨fun _=>by rw [if_neg (by omega)],fun q=>by omega⟩⟩⟩
   ·have e:fcB b b.ops=b:=by unfold fcB;rw [if_neg (by omega),if_neg (fun g=>d g.2)]
    rw [e]
    have n:¬((if(((b.ops).getD (b.x).toNat default)).kind=1 then((((b.ops).getD (b.x).toNat default)).k,true)else((0:Int),false)).2=true∧(if(((b.ops).getD (b.y).toNat default)).kind=1 then((((b.ops).getD (b.y).toNat default)).k,true)else((0:Int),false)).2=true):=fun⟨g1,g2⟩=>by
     split at g1
     ·split at g2
      ·exact d ⟨by assumption,by assumption⟩
      ·cases g2
     ·cases g1
    exact⟨fun h=>absurd ⟨h.1.1.2,h.1.2⟩ n,fun _=>⟨fun h=>absurd ⟨h.1.1.2,h.1.2⟩ n,fun _=>⟨fun h=>absurd ⟨h.1.2,h.2⟩ n,fun _=>rfl⟩⟩⟩
theorem aam {p1:Int×Int×Int×Unit→Bool} {f1:Int×Int×Int×Unit→Bool×Unit} (hp1:∀a b c,p1 (a,b,c,())=true) (hf1:∀a b c,f1 (a,b,c,())=(inB a b c,())) (o:IOp) (al:List Int) (hk:1≤o.kind∧o.kind≤8) (hx:hX o→0≤o.x∧o.x< (al.length:Int)) (hy:hY o→0≤o.y∧o.y< (al.length:Int)):Qm (std 0) p1 f1 (o,al,()) (fun y=>y=(ren al o,())):=by
 dsimp only [Qm,Alg.cl,Alg.cg,Alg.rb,Alg.bd,Alg.l1,Tup.q,Tup.o]
 simp (disch:=omega) only [RR,RB,hp1,hf1,eP,rZ]
 have X:((3≤o.kind∧o.kind≤5)∨o.kind=7)∨o.kind=8→hX o:=fun c=>by unfold hX;omega
 have Xn:(¬(3≤o.kind∧o.kind≤5)∧¬o.kind=7)∧¬o.kind=8→¬hX o:=fun c g=>by unfold hX at g;omega
 unfold ren
 refine⟨fun c=>⟨(hx (X c)).1,(hx (X c)).2,fun d=>⟨(hy d).1,(hy d).2,?_⟩,fun d=> ?_⟩,fun c=>⟨fun d=>⟨(hy d).1,(hy d).2,?_⟩,fun d=> ?_⟩⟩
 ·rw [if_pos (X c),if_pos (show hY o from d)]
 ·rw [if_pos (X c),if_neg (show¬hY o from fun g=>g.elim d.1 d.2)]
 ·rw [if_neg (Xn c),if_pos (show hY o from d)]
 ·rw [if_neg (Xn c),if_neg (show¬hY o from fun g=>g.elim d.1 d.2)]
theorem aan (ops:List IOp) (k:Int) (h0:0≤k) (h1:k<ops.length) (h2:(ops.length:Int)<1000000):Qv (std 0) (ops,k,()) (fun y=>y=(iH (ops.drop (k.toNat+1)) (((ops).getD (k).toNat default)).k,())):=by
 dsimp only [Qv,Alg.cl,Alg.cg,Alg.rb,Alg.bd,Alg.l1,Tup.q,Tup.o]
 simp (disch:=omega) only [RR,RB]
 refine au (fun(y:List IOp×Int×Int×Unit)=>y.1=ops∧y.2.1=k∧0≤y.2.2.1∧y.2.2.1≤ops.length∧iH (ops.drop (k.toNat+1)) (((ops).getD (k).toNat default)).k=iH (ops.drop y.2.2.1.toNat) (((ops).getD (k).toNat default)).k) (fun y=>((ops.length:Int)-y.2.2.1).toNat) ⟨rfl,rfl,by dsimp only;omega,by dsimp only;omega,by dsimp only;rw [show(k+1).toNat=k.toNat+1 by omega]⟩ ?_
 rintro⟨(l:List IOp),(k':Int),(j:Int),⟨⟩⟩ hI
 dsimp only at hI ⊢
 obtain⟨rfl,rfl,h3,h4,h5⟩:=hI
 rw [h5]
 simp (disch:=omega) only [RR,RB,Bool.and_eq_false_iff]
 have st:j<l.length→iH (l.drop j.toNat) (((l).getD (k').toNat default)).k=if(((l).getD (j).toNat default)).kind=4∨(((l).getD (j).toNat default)).kind=5∨(((l).getD (j).toNat default)).kind=2∧(((l).getD (j).toNat default)).k=(((l).getD (k').toNat default)).k then false else if(((l).getD (j).toNat default)).kind=8∧(((l).getD (j).toNat default)).k=(((l).getD (k').toNat default)).k then true else iH (l.drop (j+1).toNat) (((l).getD (k').toNat default)).k:=fun h=>by
  rw [List.drop_eq_getElem_cons (show j.toNat<l.length by omega),H9,←getD_lt (d:=default) (show j.toNat<l.length by omega),show(j+1).toNat=j.toNat+1 by omega]
 refine⟨fun h=>⟨h3,h,by omega,by omega,by omega,by omega,by omega,by omega,by omega,by omega,fun c=> ?_,fun c=>⟨h3,h,by omega,by omega,by omega,by omega,fun d=> ?_,fun d=>⟨⟨by omega,by omega,?_⟩,by omega⟩⟩⟩,fun h=> ?_⟩
 ·rw [st h,if_pos (by omega)]
 ·rw [st h,if_neg (by omega),if_pos (by omega)]
 ·rw [st h,if_neg (by omega),if_neg (by omega)]
 ·rw [List.drop_of_length_le (by omega)];rfl
theorem ain {p1:Blk×Unit→Bool} {f1:Blk×Unit→Blk×Unit} (hp1:∀b,b.ops.length<1000000→p1 (b,())=true) (hf1:∀b,b.ops.length<1000000→f1 (b,())=(bE b,())) {p2:Blk×Unit→Bool} {f2:Blk×Unit→Int×Int×Int×Int×Int×Int×List IOp×Unit} (hp2:∀b,b.ops.length<1000000→p2 (b,())=true) (hf2:∀b,b.ops.length<1000000→f2 (b,())=bk7 (bg b)) {p3:Blk×Unit→Bool} {f3:Blk×Unit→Int×Int×Int×Int×Int×Int×List IOp×Unit} (hp3:∀b,b.ops.length<1000000→p3 (b,())=true) (hf3:∀b,b.ops.length<1000000→f3 (b,())=bk7 (dx b)) {p4:Blk×Unit→Bool} {f4:Blk×Unit→Int×Int×Int×Int×Int×Int×List IOp×Unit} (hp4:∀b,b.ops.length<1000000→p4 (b,())=true) (hf4:∀b,b.ops.length<1000000→f4 (b,())=bk7 (dJ b)) (b:Blk) (hb:b.ops.length<1000000):QH (std 0) p1 f1 p2 f2 p3 f3 p4 f4 (b,()) (fun y=>y=bk7 (R8 b)):=by
 have m1:(bg b).ops.length<1000000:=Nat.lt_of_le_of_lt (kF b) hb
 have m2:=Nat.lt_of_le_of_lt (oG (bg b)) m1
 have m3:=Nat.lt_of_le_of_lt (nO (bE (bg b))) m2
 have m4:=Nat.lt_of_le_of_lt (rH (dx (bE (bg b)))) m3
 have mkE:∀c:Blk,Co.mk .blk (c.pc,c.len,c.ops,c.fin,c.x,c.y,c.k,())=c:=fun _=>rfl
 dsimp only [QH,Alg.cl,Alg.cg,Alg.rb,Alg.bd,Alg.l1,Tup.q,Tup.o]
 simp (disch:=omega) only [RR,hp2 b hb,hf2 b hb,mkE,hp1 _ m1,hf1 _ m1,hp3 _ m2,hf3 _ m2,hp4 _ m3,hf4 _ m3,hp3 _ m4,hf3 _ m4]
 rfl
theorem KN {α:Type} {d:α} {f l:List α} {k:Nat} (hf:f.length=k) (h:k<l.length):(f++l.drop k).getD k d=l.getD k d:=by
 rw [getD_lt (by rw [List.length_append,List.length_drop];omega),getD_lt h,List.getElem_append_right (by omega),List.getElem_drop]
 simp only [hf,Nat.sub_self,Nat.add_zero]
theorem aao {α:Type} {d:α} {f l:List α} {k j:Nat} (hf:f.length=k) (h:j<k):(f++l.drop k).getD j d=f.getD j d:=by
 rw [getD_lt (by rw [List.length_append];omega),getD_lt (by omega),List.getElem_append_left]
theorem wF {α:Type} {x:α} {f l:List α} {k:Nat} (hf:f.length=k) (h:k<l.length):(f++l.drop k).set k x=(f++ [x])++l.drop (k+1):=by
 rw [List.set_append_right _ _ (by omega),hf,Nat.sub_self,List.drop_eq_getElem_cons h,List.set_cons_zero,List.append_assoc];rfl
theorem Ia {α:Type} {d:α} {f l:List α} {k:Nat} (h:k<l.length):f++l.drop k=(f++ [l.getD k d])++l.drop (k+1):=by
 rw [List.drop_eq_getElem_cons h,getD_lt h,List.append_assoc];rfl
theorem wG {α:Type} {f l:List α} {k:Nat} (hf:f.length=k) (h:k≤l.length):(f++l.drop k).length=l.length:=by
 rw [List.length_append,hf,List.length_drop];omega
theorem bL.fe {b:Blk} (ok:bL b) {f:List IOp} (h:f.length=b.ops.length):FE ⟨b.pc,b.len,f,b.fin,b.x,b.y,b.k⟩:=by
 have en:=ok.en
 have hp:=ok.pc
 have hl:=ok.ln
 exact⟨en.f,fun c=>⟨(en.x1 c).1,by dsimp only;rw [h];exact(en.x1 c).2.1⟩,fun c=>⟨(en.y1 c).1,by dsimp only;rw [h];exact(en.y1 c).2.1⟩,en.y0,by dsimp only;omega⟩
theorem aio {p1:Blk×Unit→Bool} {f1:Blk×Unit→Bool×Unit} (hp1:∀b,b.ops.length<1000000000→p1 (b,())=true) (hf1:∀b,b.ops.length<1000000000→f1 (b,())=(bp (bL b),())) {p2:Int×Int×Int×Unit→Bool} {f2:Int×Int×Int×Unit→Int×Unit} (hp2:∀op a b,p2 (op,a,b,())=true) (hf2:∀op a b,f2 (op,a,b,())=(wdo op a b,())) {p3:Blk×Unit→Bool} {f3:Blk×Unit→Blk×Unit} (hp3:∀b,FE b→p3 (b,())=true) (hf3:∀b,FE b→f3 (b,())=(fcB b b.ops,())) {p4:List IOp×Int×Unit→Bool} {f4:List IOp×Int×Unit→Int×Bool×Unit} (hp4:∀ops k,p4 (ops,k,())=true) (hf4:∀ops k,f4 (ops,k,())=((kn ops k).1,(kn ops k).2,())) {p5:Blk×Unit→Bool} {f5:Blk×Unit→Int×Int×Int×Int×Int×Int×List IOp×Unit} (hp5:∀b,b.ops.length<1000000→p5 (b,())=true) (hf5:∀b,b.ops.length<1000000→f5 (b,())=(b.pc,b.len,b.fin,b.x,b.y,b.k,b.ops,())) (b:Blk) (hb:b.ops.length<1000000):QG (std 0) p1 f1 p2 f2 p3 f3 p4 f4 p5 f5 (b,()) (fun y=>y=(bE b,())):=by
 have mkE:∀p l o f x y k,Co.mk .blk (p,l,o,f,x,y,k,())=Blk.mk p l o f x y k:=fun _ _ _ _ _ _ _=>rfl
 dsimp only [QG,Alg.cl,Alg.cg,Alg.rb,Alg.bd,Alg.l1,Tup.q,Tup.o]
 simp (disch:=omega) only [RR,RB,hp1 b (by omega),hf1 b (by omega),hp5 b hb,hf5 b hb,mkE]
 refine⟨fun h=>by unfold bE;rw [h,if_neg (by decide)];rfl,fun h=> ?_⟩
 have ok:=bO.1 h
 rw [zI ok]
 refine au (fun(y:Int×Int×Int×Int×Int×Int×Int×Int×Int×Int×Int×Int×Int×List IOp×Unit)=>0≤y.1∧y.1≤b.ops.length∧y.2.2.2.2.2.2.2=(b.pc,b.len,b.fin,b.x,b.y,b.k,fc b.ops y.1.toNat++b.ops.drop y.1.toNat,())) (fun y=>((b.ops.length:Int)-y.1).toNat) ⟨by dsimp only;omega,by dsimp only;omega,rfl⟩ ?_
 rintro⟨(k:Int),u1,u2,u3,u4,u5,u6,b1,b2,b3,b4,b5,b6,(ops:List IOp),⟨⟩⟩ hI
 dsimp only at hI ⊢
 simp only [Prod.mk.injEq,and_true]at hI
 obtain⟨h1,h2,rfl,rfl,rfl,rfl,rfl,rfl,rfl⟩:=hI
 have fl:=kE b.ops k.toNat
 have ln:=wG (l:=b.ops) fl (by omega)
 simp (disch:=omega) only [RR,RB,hp4,hf4,hp2,hf2,ln,mkE]
 refine⟨fun h=> ?_,fun h=> ?_⟩
 ·have o:=ok.op k h1 h
  have ek:=KN (d:=default) (l:=b.ops) fl (by omega)
  have kv:∀x:Int,Vl b.ops x k→kn (fc b.ops k.toNat++b.ops.drop k.toNat) x=if((((fc b.ops k.toNat)).getD (x).toNat default)).kind=1 then(((((fc b.ops k.toNat)).getD (x).toNat default)).k,true)else(0,false):=fun x v=>by
   have v0:=v.1
   have v1:=v.2.1
   unfold kn
   rw [aao fl (by omega)]
   simp only [show 0≤x∧x< ((fc b.ops k.toNat++b.ops.drop k.toNat).length:Int)from⟨v0,by omega⟩,true_and]
  have nx:fc b.ops (k+1).toNat=fc b.ops k.toNat++ [fcO (fc b.ops k.toNat) ((b.ops).getD (k).toNat default)]:=by rw [show(k+1).toNat=k.toNat+1 by omega];rfl
  rw [ek]
  have hk:=Ia (d:=default) (f:=fc b.ops k.toNat) (l:=b.ops) (k:=k.toNat) (by omega)
  have hs:=fun x=>wF (x:=x) (l:=b.ops) fl (by omega)
  rw [nx,show(k+1).toNat=k.toNat+1 by omega]
  generalize ((b.ops).getD (k).toNat default)=q at o hk ⊢
  have vx:=fun c=>o.x1 c
  have vy:=fun c=>o.y1 c
  refine⟨h1,h,h1,h,fun c=>⟨h1,h,h1,h,⟨by omega,by omega,?_⟩,by omega⟩,fun c=>⟨⟨by omega,by omega,?_⟩,by omega⟩⟩
  ·have k1:=kv _ (o.x1 (by unfold hX;omega))
   have k2:=kv _ (o.y1 (Or.inl c.1.1))
   rw [k1,k2]at c ⊢
   by_cases d1:((((fc b.ops k.toNat)).getD (q.x).toNat default)).kind=1
   ·by_cases d2:((((fc b.ops k.toNat)).getD (q.y).toNat default)).kind=1
    ·rw [if_pos d1,if_pos d2,hs]
     have e:fcO (fc b.ops k.toNat) q=⟨1,0,0,wdo q.k ((((fc b.ops k.toNat)).getD (q.x).toNat default)).k ((((fc b.ops k.toNat)).getD (q.y).toNat default)).k,0⟩:=by unfold fcO;rw [if_pos ⟨c.1.1,d1,d2⟩]
     rw [e]
    ·rw [if_neg d2]at c;exact absurd c.2 (by decide)
   ·rw [if_neg d1]at c;exact absurd c.1.2 (by decide)
  ·have e:fcO (fc b.ops k.toNat) q=q:=by
    unfold fcO
    refine if_neg ?_
    rintro⟨d0,d1,d2⟩
    rw [kv _ (o.x1 (by unfold hX;omega)),kv _ (o.y1 (Or.inl d0)),if_pos d1,if_pos d2,decide_eq_true d0]at c
    cases c
   rw [e,hk]
 ·have e:fc b.ops k.toNat++b.ops.drop k.toNat=fc b.ops b.ops.length:=by rw [List.drop_of_length_le (by omega),List.append_nil,show k.toNat=b.ops.length by omega]
  rw [e]
  have fe:=ok.fe (kE b.ops b.ops.length)
  rw [hf3 _ fe]
  exact⟨hp3 _ fe,rfl⟩
theorem aap {a b:List Bool} (h:a.length=b.length) (g:∀t:Nat,t<a.length→(a.getD t default=true↔b.getD t default=true)):a=b:=by
 refine List.ext_getElem h fun i h1 h2=> ?_
 have:=g i h1
 rw [getD_lt h1,getD_lt h2]at this
 exact Bool.eq_iff_iff.2 this
theorem aip {p1:Blk×Unit→Bool} {f1:Blk×Unit→Bool×Unit} (hp1:∀b,b.ops.length<1000000000→p1 (b,())=true) (hf1:∀b,b.ops.length<1000000000→f1 (b,())=(bp (bL b),())) {p2:Int×Int×Int×Unit→Bool} {f2:Int×Int×Int×Unit→Bool×Unit} (hp2:∀a b c,p2 (a,b,c,())=true) (hf2:∀a b c,f2 (a,b,c,())=(inB a b c,())) (b:Blk) (hb:b.ops.length<1000000):Qr (std 0) p1 f1 p2 f2 (b,()) (fun y=>y=(Cy b,())):=by
 dsimp only [Qr,Alg.cl,Alg.cg,Alg.rb,Alg.bd,Alg.l1,Tup.q,Tup.o]
 simp (disch:=omega) only [RR,RB,hp1 b (by omega),hf1 b (by omega)]
 unfold Cy
 refine⟨fun h=>by rw [h,if_neg (by decide)],fun h=> ?_⟩
 rw [if_pos h]
 have ok:=bO.1 h
 have n48:=ok.sz
 have en:=ok.en
 refine au (fun(y:Int×Blk×List Bool×Unit)=>0≤y.1∧y.1≤b.ops.length∧y.2.1=b∧(y.2.2.1.length:Int)=y.1∧∀t:Nat,t<y.2.2.1.length→(y.2.2.1.getD t default=true↔4≤(b.ops.getD t default).kind)) (fun y=>((b.ops.length:Int)-y.1).toNat) ⟨by dsimp only;omega,by dsimp only;omega,rfl,rfl,fun t h=>absurd h (by simp)⟩ ?_
 rintro⟨(k:Int),(b':Blk),(kp:List Bool),⟨⟩⟩ hI
 dsimp only at hI ⊢
 obtain⟨h1,h2,rfl,h3,h4⟩:=hI
 simp (disch:=omega) only [RR,RB,List.length_append,List.length_cons,List.length_nil]
 refine⟨fun h=>⟨h1,h,by omega,⟨by omega,by omega,by omega,fun t ht=> ?_⟩,by omega⟩,fun h=> ?_⟩
 ·rw [eU]
  rcases(by omega:t<kp.length∨t=kp.length)with c | c
  ·rw [if_pos c];exact h4 t c
  ·rw [if_neg (by omega),if_pos c,decide_eq_true_eq,c,show k.toNat=kp.length by omega]
 have ex:¬b'.fin=1→0≤b'.x∧b'.x<kp.length:=fun c=>by have:=ok.en.x1 c;exact⟨this.1,by have:=this.2.1;omega⟩
 have ey:b'.fin=3∨b'.fin=4→0≤b'.y∧b'.y<kp.length:=fun c=>by have:=ok.en.y1 (by omega);exact⟨this.1,by have:=this.2.1;omega⟩
 have ff:=en.f
 have u0:=UO ok
 have kl:kp.length=b'.ops.length:=by omega
 rw [kl]at h4
 refine⟨fun c=>⟨(ex c).1,(ex c).2,(ex c).1,(ex c).2,fun c2=>⟨(ey c2).1,by rw [List.length_set];exact(ey c2).2,(ey c2).1,by rw [List.length_set];exact(ey c2).2,?_⟩,fun c2=> ?_⟩,fun c=>⟨fun c2=>absurd c2 (by omega),fun c2=> ?_⟩⟩
 all_goals
  refine au (fun(y:Int×Blk×List Bool×Unit)=> -1≤y.1∧y.1<b'.ops.length∧y.2.1=b'∧y.2.2.1.length=b'.ops.length∧∀t:Nat,t<b'.ops.length→(y.2.2.1.getD t default=true↔(us b' (b'.ops.length-1-y.1).toNat).getD t default=true∨4≤(b'.ops.getD t default).kind)) (fun y=>(y.1+1).toNat) ⟨by dsimp only;omega,by dsimp only;omega,rfl,by simp only [List.length_set];omega,fun t ht=> ?_⟩ ?_
  ·dsimp only
   rw [show(b'.ops.length-1- ((b'.ops.length:Int)-1)).toNat=0 by omega]
   show _↔(us0 b').getD t default=true∨_
   have q:=h4 t ht
   have r:=u0 t
   first
    | (rw [R7 (by rw [List.length_set];have:=ey c2;omega),R7 (by have:=ex c;omega),q,r];grind)
    | (rw [R7 (by have:=ex c;omega),q,r];grind)
    | (rw [q,r];grind)
  rintro⟨(j:Int),(b2:Blk),(ms:List Bool),⟨⟩⟩ hI
  dsimp only at hI ⊢
  obtain⟨j0,j1,rfl,j3,j4⟩:=hI
  simp (disch:=omega) only [RR,RB,hp2,hf2,eP,rZ,List.length_set]
  have ul:=uU b2 (b2.ops.length-1-j).toNat
  have us1:0≤j→∀t:Nat,((us b2 (b2.ops.length-1- (j-1)).toNat).getD t default=true↔(us b2 (b2.ops.length-1-j).toNat).getD t default=true∨((us b2 (b2.ops.length-1-j).toNat).getD j.toNat default=true∨4≤(((b2.ops).getD (j).toNat default)).kind)∧(t=j.toNat∨hX (((b2.ops).getD (j).toNat default))∧t=(((b2.ops).getD (j).toNat default)).x.toNat∨hY (((b2.ops).getD (j).toNat default))∧t=(((b2.ops).getD (j).toNat default)).y.toNat)):=fun g t=>by
   have o:=ok.op j g j1
   rw [show(b2.ops.length-1- (j-1)).toNat=(b2.ops.length-1-j).toNat+1 by omega]
   show(usO (b2.ops.getD (b2.ops.length-1- (b2.ops.length-1-j).toNat) default) (b2.ops.length-1- (b2.ops.length-1-j).toNat) _).getD t default=true↔_
   rw [show b2.ops.length-1- (b2.ops.length-1-j).toNat=j.toNat by omega]
   exact UN (by omega) (fun c=>by have:=o.x1 c;have g0:=this.1;have g1:=this.2.1;omega) (fun c=>by have:=o.y1 c;have g0:=this.1;have g1:=this.2.1;omega)
  have ue:¬0≤j→(us b2 (b2.ops.length-1-j).toNat)=us b2 b2.ops.length:=fun g=>by rw [show(b2.ops.length-1-j).toNat=b2.ops.length by omega]
  generalize us b2 (b2.ops.length-1-j).toNat=U at us1 j4 ue
  refine⟨fun g=> ?_,fun g=>congrArg (fun m:List Bool=>(m,())) (aap (b:=us b2 b2.ops.length) (by rw [uU];exact j3) fun t ht=> ?_)⟩
  ·have o:=ok.op j g j1
   have X:hX (((b2.ops).getD (j).toNat default))→0≤(((b2.ops).getD (j).toNat default)).x∧(((b2.ops).getD (j).toNat default)).x<ms.length:=fun c=>by have:=o.x1 c;have g0:=this.1;have g1:=this.2.1;omega
   have Y:hY (((b2.ops).getD (j).toNat default))→0≤(((b2.ops).getD (j).toNat default)).y∧(((b2.ops).getD (j).toNat default)).y<ms.length:=fun c=>by have:=o.y1 c;have g0:=this.1;have g1:=this.2.1;omega
   have us1:=us1 g
   have qj:=j4 j.toNat (by omega)
   have kd:=o.kd
   generalize ((b2.ops).getD (j).toNat default)=q at*
   have cx:((3≤q.kind∧q.kind≤5)∨q.kind=7)∨q.kind=8↔hX q:=by unfold hX;omega
   have cn:(¬(3≤q.kind∧q.kind≤5)∧¬q.kind=7)∧¬q.kind=8↔¬hX q:=by unfold hX;omega
   have cy:q.kind=3∨q.kind=5↔hY q:=Iff.rfl
   have dn:¬q.kind=3∧¬q.kind=5↔¬hY q:=by unfold hY;omega
   rw [cx,cn,cy,dn]
   generalize hX q=HX at*
   generalize hY q=HY at*
   refine⟨g,j1,g,by omega,g,by omega,fun c=>⟨⟨by omega,by omega,j3,fun t ht=> ?_⟩,by omega⟩,fun c=>⟨fun d=>⟨(X d).1,(X d).2,(X d).1,(X d).2,fun e=>⟨(Y e).1,(Y e).2,(Y e).1,(Y e).2,⟨by omega,by omega,j3,fun t ht=> ?_⟩,by omega⟩,fun e=>⟨⟨by omega,by omega,j3,fun t ht=> ?_⟩,by omega⟩⟩,fun d=>⟨fun e=>⟨(Y e).1,(Y e).2,(Y e).1,(Y e).2,⟨by omega,by omega,j3,fun t ht=> ?_⟩,by omega⟩,fun e=>⟨⟨by omega,by omega,j3,fun t ht=> ?_⟩,by omega⟩⟩⟩⟩
   ·rw [us1,j4 t ht];rw [c]at qj;grind
   ·rw [R7 (by rw [List.length_set];have:=Y e;omega),R7 (by have:=X d;omega),us1,j4 t ht];grind
   ·rw [R7 (by have:=X d;omega),us1,j4 t ht];grind
   ·rw [R7 (by have:=Y e;omega),us1,j4 t ht];grind
   ·rw [us1,j4 t ht];grind
  ·rw [j4 t (by omega),ue g]
   exact⟨fun h=>h.elim id ((ada ok).k t (Nat.zero_le _) (by omega)),Or.inl⟩
end Go.TX.F
namespace Go.TX.F
open Go Go.AE Go.TX
theorem acs {ops:List IOp} {kp:List Bool} {len:Int} {k n:Nat} {o:IOp} (ho:AL ops len k o) (h:k<n):ren (kpS ops kp (k+1)).1 o=ren (kpS ops kp n).1 o:=by
 have p:=(KM ops kp (show k+1≤n by omega)).2
 have l:=(kL ops kp (k+1)).1
 have e:∀x:Int,Vl ops x k→(((kpS ops kp (k+1)).1).getD (x).toNat default)=(((kpS ops kp n).1).getD (x).toNat default):=fun x v=>by
  have g0:=v.1
  have g1:=v.2.1
  exact(KA p (by omega)).symm
 have ox:=ho.x1
 have oy:=ho.y1
 unfold ren
 congr 1
 ·split
  ·rename_i c;exact e _ (ox c)
  ·rfl
 ·split
  ·rename_i c;exact e _ (oy c)
  ·rfl
theorem aiq {p1:IOp×List Int×Unit→Bool} {f1:IOp×List Int×Unit→IOp×Unit} (hp1:∀o al,(1≤o.kind∧o.kind≤8)→(hX o→0≤o.x∧o.x< (al.length:Int))→(hY o→0≤o.y∧o.y< (al.length:Int))→p1 (o,al,())=true) (hf1:∀o al,(1≤o.kind∧o.kind≤8)→(hX o→0≤o.x∧o.x< (al.length:Int))→(hY o→0≤o.y∧o.y< (al.length:Int))→f1 (o,al,())=(ren al o,())) (b:Blk) (kp:List Bool) (ok:bL b) (hk:kp.length=b.ops.length):Qq (std 0) p1 f1 (b,kp,()) (fun y=>y=bk7 (gN b kp)):=by
 have n48:=ok.sz
 dsimp only [Qq,Alg.cl,Alg.cg,Alg.rb,Alg.bd,Alg.l1,Tup.q,Tup.o]
 simp (disch:=omega) only [RR,RB]
 refine au (fun(y:List Bool×Int×Blk×Int×Int×Int×Int×Int×Int×List IOp×List Int×Unit)=>y.1=kp∧0≤y.2.1∧y.2.1≤b.ops.length∧y.2.2.1=b∧y.2.2.2.2.2.2.2.2.2.1=(kpS b.ops kp y.2.1.toNat).2.map (ren (kpS b.ops kp b.ops.length).1)∧y.2.2.2.2.2.2.2.2.2.2.1=(kpS b.ops kp y.2.1.toNat).1) (fun y=>((b.ops.length:Int)-y.2.1).toNat) ⟨rfl,by dsimp only;omega,by dsimp only;omega,rfl,rfl,rfl⟩ ?_
 rintro⟨(kp':List Bool),(k:Int),(b':Blk),u1,u2,u3,u4,u5,u6,(out:List IOp),(to:List Int),⟨⟩⟩ hI
 dsimp only at hI ⊢
 obtain⟨rfl,h1,h2,rfl,rfl,rfl⟩:=hI
 obtain⟨l1,l2⟩:=kL b'.ops kp' k.toNat
 have l3:=(kL b'.ops kp' (k+1).toNat).1
 have nx:(kpS b'.ops kp' (k+1).toNat).1=(kpS b'.ops kp' k.toNat).1++ [((kpS b'.ops kp' k.toNat).2.length:Int)]:=by rw [show(k+1).toNat=k.toNat+1 by omega];rfl
 have r:k<b'.ops.length→ren (kpS b'.ops kp' (k+1).toNat).1 ((b'.ops).getD (k).toNat default)=ren (kpS b'.ops kp' b'.ops.length).1 ((b'.ops).getD (k).toNat default):=fun h=>by
  rw [show(k+1).toNat=k.toNat+1 by omega]
  exact acs (by rw [show((k.toNat:Nat):Int)=k by omega];exact ok.op k h1 h) (by omega)
 have s:(kpS b'.ops kp' (k+1).toNat).2=if kp'.getD k.toNat default=true then(kpS b'.ops kp' k.toNat).2++ [((b'.ops).getD (k).toNat default)]else(kpS b'.ops kp' k.toNat).2:=by rw [show(k+1).toNat=k.toNat+1 by omega];rfl
 have fin:¬k<b'.ops.length→kpS b'.ops kp' k.toNat=kpS b'.ops kp' b'.ops.length:=fun h=>by rw [show k.toNat=b'.ops.length by omega]
 have kb:gN b' kp'=KL (kpS b'.ops kp' b'.ops.length).1 b' (kpS b'.ops kp' b'.ops.length).2:=rfl
 rw [kb]
 generalize kpS b'.ops kp' b'.ops.length=N at r fin ⊢
 generalize hT:kpS b'.ops kp' (k+1).toNat=T at l3 nx r s ⊢
 generalize kpS b'.ops kp' k.toNat=S at l1 l2 nx s fin ⊢
 have en:=ok.en
 have ex:¬k<b'.ops.length→¬b'.fin=1→0≤b'.x∧b'.x< (S.1.length:Int):=fun h c=>by have:=en.x1 c;exact⟨this.1,by have:=this.2.1;omega⟩
 have ey:¬k<b'.ops.length→b'.fin=3∨b'.fin=4→0≤b'.y∧b'.y< (S.1.length:Int):=fun h c=>by have:=en.y1 (by omega);exact⟨this.1,by have:=this.2.1;omega⟩
 simp (disch:=omega) only [RR,RB,List.length_append,List.length_cons,List.length_nil,List.length_map,AA,←nx]
 refine⟨fun h=> ?_,fun h=> ?_⟩
 ·have op:=ok.op k h1 h
  have a2:hX (((b'.ops).getD (k).toNat default))→0≤(((b'.ops).getD (k).toNat default)).x∧(((b'.ops).getD (k).toNat default)).x< (T.1.length:Int):=fun c=>⟨(op.x1 c).1,by have:=(op.x1 c).2.1;omega⟩
  have a3:hY (((b'.ops).getD (k).toNat default))→0≤(((b'.ops).getD (k).toNat default)).y∧(((b'.ops).getD (k).toNat default)).y< (T.1.length:Int):=fun c=>⟨(op.y1 c).1,by have:=(op.y1 c).2.1;omega⟩
  have P:=hp1 _ T.1 op.kd a2 a3
  rw [hf1 _ T.1 op.kd a2 a3,hT,s,r h]
  refine⟨by omega,h1,by omega,fun c=>⟨h1,h,P,by omega,⟨by omega,by omega,?_⟩,by omega⟩,fun c=>⟨⟨by omega,by omega,?_⟩,by omega⟩⟩
  ·rw [if_pos c,List.map_append];exact⟨rfl,rfl⟩
  ·rw [c,if_neg (by decide)];exact⟨rfl,rfl⟩
 ·have ex:=ex h
  have ey:=ey h
  rw [fin h]at ex ey ⊢
  unfold bk7 KL
  refine⟨fun c=>⟨(ex c).1,(ex c).2,(ex c).1,(ex c).2,fun c2=>⟨(ey c2).1,(ey c2).2,(ey c2).1,(ey c2).2,?_⟩,fun c2=> ?_⟩,fun c=>⟨fun c2=>⟨(ey c2).1,(ey c2).2,(ey c2).1,(ey c2).2,?_⟩,fun c2=> ?_⟩⟩
  ·rw [if_neg c,if_pos (by omega)]
  ·rw [if_neg c,if_neg (by have:=en.f;omega)]
  ·exact absurd c2 (by omega)
  ·rw [if_pos c,if_neg (by omega)]
theorem air {p1:Blk×Unit→Bool} {f1:Blk×Unit→Bool×Unit} (hp1:∀b,b.ops.length<1000000000→p1 (b,())=true) (hf1:∀b,b.ops.length<1000000000→f1 (b,())=(bp (bL b),())) {p2:Blk×Unit→Bool} {f2:Blk×Unit→List Bool×Unit} (hp2:∀b,b.ops.length<1000000→p2 (b,())=true) (hf2:∀b,b.ops.length<1000000→f2 (b,())=(Cy b,())) {p3:Blk×List Bool×Unit→Bool} {f3:Blk×List Bool×Unit→Int×Int×Int×Int×Int×Int×List IOp×Unit} (hp3:∀b kp,bL b→kp.length=b.ops.length→p3 (b,kp,())=true) (hf3:∀b kp,bL b→kp.length=b.ops.length→f3 (b,kp,())=bk7 (gN b kp)) (b:Blk) (hb:b.ops.length<1000000):Qs (std 0) p1 f1 p2 f2 p3 f3 (b,()) (fun y=>y=bk7 (dx b)):=by
 dsimp only [Qs,Alg.cl,Alg.cg,Alg.rb,Alg.bd,Alg.l1,Tup.q,Tup.o]
 simp (disch:=omega) only [RR,RB,hp1 b (by omega),hf1 b (by omega),hp2 b hb,hf2 b hb]
 unfold dx Cy
 refine⟨fun h=>by rw [h,if_neg (by decide)];rfl,fun h=> ?_⟩
 have ok:=bO.1 h
 rw [if_pos h,if_pos h,hf3 _ _ ok (uU b _)]
 exact⟨hp3 _ _ ok (uU b _),rfl⟩
theorem ais {p1:Blk×Unit→Bool} {f1:Blk×Unit→Bool×Unit} (hp1:∀b,b.ops.length<1000000000→p1 (b,())=true) (hf1:∀b,b.ops.length<1000000000→f1 (b,())=(bp (bL b),())) {p2:Blk×List Bool×Unit→Bool} {f2:Blk×List Bool×Unit→Int×Int×Int×Int×Int×Int×List IOp×Unit} (hp2:∀b kp,bL b→kp.length=b.ops.length→p2 (b,kp,())=true) (hf2:∀b kp,bL b→kp.length=b.ops.length→f2 (b,kp,())=bk7 (gN b kp)) {p3:List IOp×Int×Unit→Bool} {f3:List IOp×Int×Unit→Bool×Unit} (hp3:∀ops k,0≤k→k<ops.length→(ops.length:Int)<1000000→p3 (ops,k,())=true) (hf3:∀ops k,0≤k→k<ops.length→(ops.length:Int)<1000000→f3 (ops,k,())=(iH (ops.drop (k.toNat+1)) (((ops).getD (k).toNat default)).k,())) (b:Blk) (hb:b.ops.length<1000000):Qw (std 0) p1 f1 p2 f2 p3 f3 (b,()) (fun y=>y=bk7 (dJ b)):=by
 dsimp only [Qw,Alg.cl,Alg.cg,Alg.rb,Alg.bd,Alg.l1,Tup.q,Tup.o]
 simp (disch:=omega) only [RR,RB,hp1 b (by omega),hf1 b (by omega)]
 unfold dJ
 refine⟨fun h=>by rw [h,if_neg (by decide)];rfl,fun h=> ?_⟩
 have ok:=bO.1 h
 rw [if_pos h]
 have kl:(dQ b.ops).length=b.ops.length:=by unfold dQ;rw [List.length_map,List.length_range]
 refine au (fun(y:Int×Blk×Int×Int×Int×Int×Int×Int×List Bool×Unit)=>0≤y.1∧y.1≤b.ops.length∧y.2.1=b∧y.2.2.2.2.2.2.2.2.1=(dQ b.ops).take y.1.toNat) (fun y=>((b.ops.length:Int)-y.1).toNat) ⟨by dsimp only;omega,by dsimp only;omega,rfl,rfl⟩ ?_
 rintro⟨(k:Int),(b':Blk),u1,u2,u3,u4,u5,u6,(kp:List Bool),⟨⟩⟩ hI
 dsimp only at hI ⊢
 obtain⟨h1,h2,rfl,rfl⟩:=hI
 have tl:((dQ b'.ops).take k.toNat).length=k.toNat:=by rw [List.length_take];omega
 simp (disch:=omega) only [RR,RB,List.length_append,List.length_cons,List.length_nil,tl]
 refine⟨fun h=>⟨h1,h,Or.inr (hp3 _ _ h1 h (by omega)),by omega,⟨by omega,by omega,?_⟩,by omega⟩,fun h=> ?_⟩
 ·rw [hf3 _ _ h1 h (by omega),show(k+1).toNat=k.toNat+1 by omega,List.take_succ_eq_append_getElem (by omega),←getD_lt (d:=default) (show k.toNat< (dQ b'.ops).length by omega),wD (by omega)]
  refine congrArg (fun x=>(dQ b'.ops).take k.toNat++ [x]) ?_
  rw [Bool.not_and]
 ·rw [List.take_of_length_le (by omega),hf2 _ _ ok kl]
  exact⟨hp2 _ _ ok kl,rfl⟩
theorem ait {ops:List IOp} {len:Int} {k n:Nat} {o:IOp} (ho:AL ops len k o) (h:k≤n):ren (cpS ops k).1 o=ren (cpS ops n).1 o:=by
 have l:=(rF ops k).1
 have e:∀x:Int,Vl ops x k→(((cpS ops k).1).getD (x).toNat default)=(((cpS ops n).1).getD (x).toNat default):=fun x v=>by
  have g0:=v.1
  have g1:=v.2.1
  exact(RY ops (by omega) h).symm
 have ox:=ho.x1
 have oy:=ho.y1
 unfold ren
 congr 1
 ·split
  ·rename_i c;exact e _ (ox c)
  ·rfl
 ·split
  ·rename_i c;exact e _ (oy c)
  ·rfl
theorem aiu {p1:Blk×Unit→Bool} {f1:Blk×Unit→Bool×Unit} (hp1:∀b,b.ops.length<1000000000→p1 (b,())=true) (hf1:∀b,b.ops.length<1000000000→f1 (b,())=(bp (bL b),())) {p2:IOp×List Int×Unit→Bool} {f2:IOp×List Int×Unit→IOp×Unit} (hp2:∀o al,(1≤o.kind∧o.kind≤8)→(hX o→0≤o.x∧o.x< (al.length:Int))→(hY o→0≤o.y∧o.y< (al.length:Int))→p2 (o,al,())=true) (hf2:∀o al,(1≤o.kind∧o.kind≤8)→(hX o→0≤o.x∧o.x< (al.length:Int))→(hY o→0≤o.y∧o.y< (al.length:Int))→f2 (o,al,())=(ren al o,())) {p3:Blk×Unit→Bool} {f3:Blk×Unit→Int×Int×Int×Int×Int×Int×List IOp×Unit} (hp3:∀b,b.ops.length<1000000→p3 (b,())=true) (hf3:∀b,b.ops.length<1000000→f3 (b,())=(b.pc,b.len,b.fin,b.x,b.y,b.k,b.ops,())) (b:Blk) (hb:b.ops.length<1000000):Qn (std 0) p1 f1 p2 f2 p3 f3 (b,()) (fun y=>y=bk7 (bg b)):=by
 dsimp only [Qn,Alg.cl,Alg.cg,Alg.rb,Alg.bd,Alg.l1,Tup.q,Tup.o]
 simp (disch:=omega) only [RR,RB,hp1 b (by omega),hf1 b (by omega),hp3 b hb,hf3 b hb,AA]
 unfold bg
 refine⟨fun h=>by rw [h,if_neg (by decide)];rfl,fun h=> ?_⟩
 have ok:=bO.1 h
 rw [if_pos h]
 have n48:=ok.sz
 refine au (fun(y:Int×Int×Int×Int×Int×Int×Int×Int×Int×Int×Int×Int×Int×List Int×List Int×List IOp×Unit)=>0≤y.1∧y.1≤b.ops.length∧y.2.2.2.2.2.2.2=(b.pc,b.len,b.fin,b.x,b.y,b.k,(cpS b.ops y.1.toNat).1,(cpS b.ops y.1.toNat).2,(b.ops.take y.1.toNat).map (ren (cpS b.ops b.ops.length).1)++b.ops.drop y.1.toNat,())) (fun y=>((b.ops.length:Int)-y.1).toNat) ⟨by dsimp only;omega,by dsimp only;omega,rfl⟩ ?_
 rintro⟨(k:Int),u1,u2,u3,u4,u5,u6,b1,b2,b3,b4,b5,b6,(al:List Int),(la:List Int),(ops:List IOp),⟨⟩⟩ hI
 dsimp only at hI ⊢
 simp only [Prod.mk.injEq,and_true]at hI
 obtain⟨h1,h2,rfl,rfl,rfl,rfl,rfl,rfl,rfl,rfl,rfl⟩:=hI
 obtain⟨l1,l2⟩:=rF b.ops k.toNat
 have r:=fun h:k<b.ops.length=>ait (ops:=b.ops) (k:=k.toNat) (n:=b.ops.length) (by rw [show((k.toNat:Nat):Int)=k by omega];exact ok.op k h1 h) (by omega)
 have fl:((b.ops.take k.toNat).map (ren (cpS b.ops b.ops.length).1)).length=k.toNat:=by rw [List.length_map,List.length_take];omega
 have ln:=wG (l:=b.ops) fl (by omega)
 have ek:=fun h:k<b.ops.length=>KN (d:=default) (l:=b.ops) fl (by omega)
 have ms:=fun x (h:k<b.ops.length)=>wF (x:=x) (l:=b.ops) fl (by omega)
 have tk:=fun h:k<b.ops.length=>(iM (d:=default) (l:=b.ops) h1 h rfl)
 have nx:k<b.ops.length→cpS b.ops (k+1).toNat=((cpS b.ops k.toNat).1++ [cpN (cpS b.ops k.toNat) k ((b.ops).getD (k).toNat default)],cpL (cpS b.ops k.toNat) k ((b.ops).getD (k).toNat default)):=fun h=>by
  rw [show(k+1).toNat=k.toNat+1 by omega,show k=((k.toNat:Nat):Int) by omega];rfl
 have fin:¬k<b.ops.length→cpS b.ops k.toNat=cpS b.ops b.ops.length:=fun h=>by rw [show k.toNat=b.ops.length by omega]
 have en:=ok.en
 by_cases h:k<b.ops.length
 ·have o:=ok.op k h1 h
  have r:=r h
  have ek:=ek h
  have nx:=nx h
  have ms:=fun x=>ms x h
  have tk:=tk h
  have a2:hX (((b.ops).getD (k).toNat default))→0≤(((b.ops).getD (k).toNat default)).x∧(((b.ops).getD (k).toNat default)).x< ((cpS b.ops k.toNat).1.length:Int):=fun c=>⟨(o.x1 c).1,by have:=(o.x1 c).2.1;omega⟩
  have a3:hY (((b.ops).getD (k).toNat default))→0≤(((b.ops).getD (k).toNat default)).y∧(((b.ops).getD (k).toNat default)).y< ((cpS b.ops k.toNat).1.length:Int):=fun c=>⟨(o.y1 c).1,by have:=(o.y1 c).2.1;omega⟩
  have P:=hp2 _ _ o.kd a2 a3
  have F:=hf2 _ _ o.kd a2 a3
  have kd:=o.k2
  have rx:(((b.ops).getD (k).toNat default)).kind=8→(ren (cpS b.ops b.ops.length).1 ((b.ops).getD (k).toNat default)).x=(((cpS b.ops k.toNat).1).getD ((((b.ops).getD (k).toNat default)).x).toNat default):=fun c=>by rw [←r];exact if_pos (by unfold hX;omega)
  rw [r]at F
  generalize hN:(cpS b.ops b.ops.length).1=N at*
  generalize hT:cpS b.ops (k+1).toNat=T at nx ⊢
  generalize cpS b.ops k.toNat=S at*
  simp (disch:=omega) only [RR,RB,ln,ek,P,F,ms,List.length_append,List.length_cons,List.length_nil,List.length_set,AA,h]
  generalize hq:((b.ops).getD (k).toNat default)=q at*
  have rk:(ren N q).kind=q.kind:=rfl
  have rkk:(ren N q).k=q.k:=rfl
  generalize hR:ren N q=R at*
  have G:∀v w,v=cpN S k q→w=cpL S k q→(b.pc,b.len,b.fin,b.x,b.y,b.k,S.1++ [v],w,((b.ops.take k.toNat).map (ren N)++ [R])++b.ops.drop (k.toNat+1),())=(b.pc,b.len,b.fin,b.x,b.y,b.k,T.1,T.2,(b.ops.take (k+1).toNat).map (ren N)++b.ops.drop (k+1).toNat,()):=fun v w e1 e2=>by
   rw [nx,e1,e2,←tk,List.map_append,show(k+1).toNat=k.toNat+1 by omega,←hR];rfl
  have ss:∀i:Int,0≤i→i<S.2.length→S.2.set i.toNat ((S.2).getD (i).toNat default)=S.2:=fun i i0 i1=>by rw [getD_lt (show i.toNat<S.2.length by omega),List.set_getElem_self]
  by_cases c2:R.kind=2
  ·have kk:=kd (Or.inl (rk▸c2))
   by_cases c3:0≤((S.2).getD (R.k).toNat default)
   ·have g:=G (((S.2).getD (R.k).toNat default)) (S.2.set R.k.toNat ((S.2).getD (R.k).toNat default)) (by unfold cpN;rw [←rk,←rkk];rw [if_pos ⟨c2,c3⟩]) (by unfold cpL;rw [←rk,←rkk];rw [if_pos c2,if_pos c3,ss _ (by omega) (by omega)])
    simp only [c2,c3,show¬((2:Int)=8) by decide,true_and,and_true,true_implies,false_implies,not_true_eq_false,not_false_eq_true,false_or,decide_true,Bool.and_self,Bool.true_eq_false,hT,g]
    omega
   ·have g:=G k (S.2.set R.k.toNat k) (by unfold cpN;rw [←rk,←rkk];rw [if_neg (fun q=>c3 q.2)]) (by unfold cpL;rw [←rk,←rkk];rw [if_pos c2,if_neg c3])
    simp only [c2,c3,show¬((2:Int)=8) by decide,true_and,and_true,and_false,true_implies,false_implies,not_true_eq_false,not_false_eq_true,false_or,decide_true,decide_false,Bool.and_false,hT,g]
    omega
  ·by_cases c8:R.kind=8
   ·have kk:=kd (Or.inr (rk▸c8))
    have g:=G k (S.2.set R.k.toNat ((S.1).getD (q.x).toNat default)) (by unfold cpN;rw [←rk,←rkk];rw [if_neg (fun q=>c2 q.1)]) (by unfold cpL;rw [←rk,←rkk];rw [if_neg c2,if_pos c8])
    rw [←rx (rk▸c8)]at g
    simp only [c8,show¬((8:Int)=2) by decide,false_and,true_and,and_true,and_false,true_implies,false_implies,not_true_eq_false,not_false_eq_true,true_or,decide_false,Bool.false_and,hT,g]
    omega
   ·have g:=G k S.2 (by unfold cpN;rw [←rk,←rkk];rw [if_neg (fun q=>c2 q.1)]) (by unfold cpL;rw [←rk,←rkk];rw [if_neg c2,if_neg c8])
    simp only [c2,c8,false_and,true_and,and_true,and_false,true_implies,false_implies,not_true_eq_false,not_false_eq_true,true_or,decide_false,Bool.false_and,hT,g]
    omega
 ·have e:=fin h
  have ex:¬b.fin=1→0≤b.x∧b.x< ((cpS b.ops k.toNat).1.length:Int):=fun c=>by have:=en.x1 c;exact⟨this.1,by have:=this.2.1;omega⟩
  have ey:b.fin=3∨b.fin=4→0≤b.y∧b.y< ((cpS b.ops k.toNat).1.length:Int):=fun c=>by have:=en.y1 (by omega);exact⟨this.1,by have:=this.2.1;omega⟩
  have ff:=en.f
  have z:(b.ops.take k.toNat).map (ren (cpS b.ops b.ops.length).1)++b.ops.drop k.toNat=b.ops.map (ren (cpS b.ops b.ops.length).1):=by rw [List.take_of_length_le (by omega),List.drop_of_length_le (by omega),List.append_nil]
  have ln:(b.ops.map (ren (cpS b.ops b.ops.length).1)).length=b.ops.length:=List.length_map _
  rw [z]
  rw [e]at ex ey ⊢
  unfold bk7 KL
  generalize (cpS b.ops b.ops.length).1=N at*
  simp (disch:=omega) only [RR,RB,ln,h]
  refine⟨fun c=>⟨(ex c).1,(ex c).2,(ex c).1,(ex c).2,fun c2=>⟨(ey c2).1,(ey c2).2,(ey c2).1,(ey c2).2,?_⟩,fun c2=> ?_⟩,fun c=>⟨fun c2=>absurd c2 (by omega),fun c2=> ?_⟩⟩
  ·rw [if_neg c,if_pos (by omega)]
  ·rw [if_neg c,if_neg (by omega)]
  ·rw [if_pos c,if_neg (by omega)]
end Go.TX.F
namespace Go.TX.F
open Go Go.AE Go.TX
structure BkD (m:Int) (n:Nat) (b:List Int) (p:Int) (y:Int×Int×Int×Int×Int×Int×List Int×Int×List IOp×Unit):Prop where
 b:y.2.2.2.2.2.2.1=b
 lo:p≤y.2.2.2.2.2.2.2.1
 hi:y.2.2.2.2.2.2.2.1≤p+m
 len:y.2.2.2.2.2.2.2.2.1.length≤n
theorem aiv {p1:Int×List Ins×Unit→Bool} {f1:Int×List Ins×Unit→Int×Int×Int×Int×Int×Int×List IOp×Unit} (hp1:∀pc l,(l.length:Int)<1000→KB l→p1 (pc,l,())=true) (hf1:∀pc l,(l.length:Int)<1000→KB l→((f1 (pc,l,())).2.2.2.2.2.2.1.length:Int)≤5000) {p2:Blk×Unit→Bool} {f2:Blk×Unit→Int×Int×Int×Int×Int×Int×List IOp×Unit} (hp2:∀b,b.ops.length<1000000→p2 (b,())=true) (hf2:∀b,b.ops.length<1000000→f2 (b,())=bk7 (R8 b)) {p3:Blk×Unit→Bool} {f3:Blk×Unit→Int×Int×Int×Int×Int×Int×List IOp×Unit} (hp3:∀b,b.ops.length<1000000→p3 (b,())=true) (hf3:∀b,b.ops.length<1000000→f3 (b,())=bk7 (bg b)) {p4:Int×List Int×Int×Unit→Bool} {f4:Int×List Int×Int×Unit→Int×List Int×Int×Unit} (hp4:∀n b p,Bt b→0≤p→p<1000000000→p4 (n,b,p,())=true) (hf4:∀n b p,Bt b→0≤p→p<1000000000→Pk n b p (f4 (n,b,p,()))) {p5:List Int×Int×Unit→Bool} {f5:List Int×Int×Unit→List Int×Int×List Ins×Unit} (hp5:∀b p,Bt b→0≤p→p<700000000→p5 (b,p,())=true) (hf5:∀b p,Bt b→0≤p→p<700000000→LiD b p (f5 (b,p,()))) (b:List Int) (p:Int) (hb:Bt b) (h1:0≤p) (h2:p<600000000):Rc (std 0) p1 f1 p2 f2 p3 f3 p4 f4 p5 f5 (b,p,()) (fun y=>BkD 2000 5000 b p y):=by
 replace hf2:=fun c h=>show(f2 (c,())).2.2.2.2.2.2.1.length≤c.ops.length by rw [hf2 c h];exact Wm c
 replace hf3:=fun c h=>show(f3 (c,())).2.2.2.2.2.2.1.length≤c.ops.length by rw [hf3 c h];exact kF c
 obtain⟨a1,a2,a3,a4,a5⟩:=hf5 b p hb h1 (by omega)
 have R:=pkR hb hf4
 have P:=fun n p h1 h2=>hp4 n b p hb h1 h2
 have L:=fun pc=>hf1 pc _ (show((f5 (b,p,())).2.2.1.length:Int)<1000 by omega) a5
 have O1:=fun c (h:c.ops.length≤5000)=>hp2 c (by omega)
 have O2:=fun c (h:c.ops.length≤5000)=>hf2 c (by omega)
 have O3:=fun c (h:c.ops.length≤5000)=>hp3 c (by omega)
 have O4:=fun c (h:c.ops.length≤5000)=>hf3 c (by omega)
 dsimp only [Rc,Alg.cl,Alg.cg,Alg.rb,Alg.bd,Alg.l1,Tup.q,Tup.o]
 simp (disch:=omega) only [RR,hp5 b p hb h1 (by omega),a1,R,P,hp1 _ _ (show((f5 (b,p,())).2.2.1.length:Int)<1000 by omega) a5,List.length_cons,List.length_nil]
 have L':∀pc,(f1 (pc,(f5 (b,p,())).2.2.1,())).2.2.2.2.2.2.1.length≤5000:=fun pc=>by have:=L pc;omega
 refine⟨fun _=>⟨O1 _ (L' _),rfl,by dsimp only;omega,by dsimp only;omega,Nat.le_trans (O2 _ (L' _)) (L' _)⟩,fun _=>⟨fun _=>⟨O3 _ (L' _),rfl,by dsimp only;omega,by dsimp only;omega,Nat.le_trans (O4 _ (L' _)) (L' _)⟩,fun _=>⟨rfl,by dsimp only;omega,by dsimp only;omega,L' _⟩⟩⟩
end Go.TX.F
namespace Go.TX.F
open Go Go.AE Go.TX
theorem aiw {p1:Int×List Int×Int×Unit→Bool} {f1:Int×List Int×Int×Unit→Int×List Int×Int×Unit} (hp1:∀n b p,Bt b→0≤p→p<1000000000→p1 (n,b,p,())=true) (hf1:∀n b p,Bt b→0≤p→p<1000000000→Pk n b p (f1 (n,b,p,()))) {p2:Blk×Unit→Bool} {f2:Blk×Unit→Int×Int×Int×Int×Int×Int×List IOp×Unit} (hp2:∀b,b.ops.length<1000000→p2 (b,())=true) (hf2:∀b,b.ops.length<1000000→f2 (b,())=(b.pc,b.len,b.fin,b.x,b.y,b.k,b.ops,())) (c:Blk) (b:List Int) (p:Int) (hc:c.ops.length<1000000) (hb:Bt b) (h1:0≤p) (h2:p<900000000):Kr (std 0) p1 f1 p2 f2 (c,b,p,()) (fun y=>BkD 20 c.ops.length b p y):=by
 have R:=pkR hb hf1
 have P:=fun n p h1 h2=>hp1 n b p hb h1 h2
 by_cases z:(c.ops.length:Int)=0
 ·dsimp only [Kr,Alg.cl,Alg.cg,Alg.rb,Alg.bd,Alg.l1,Tup.q,Tup.o]
  simp (disch:=omega) only [RR,RB,hp2 c hc,hf2 c hc,z]
  exact⟨rfl,by dsimp only;omega,by dsimp only;omega,Nat.le_refl _⟩
 have B:=(hf1 c.ops.length b p hb h1 (by omega)).2.2
 have W:IntKind.i64.wrap ((f1 (c.ops.length,b,p,())).1-1)=(f1 (c.ops.length,b,p,())).1-1:=w64 (by omega) (by omega)
 dsimp only [Kr,Alg.cl,Alg.cg,Alg.rb,Alg.bd,Alg.l1,Tup.q,Tup.o]
 simp (disch:=omega) only [RR,RB,hp2 c hc,hf2 c hc,R,P,z,List.length_set,W]
 repeat' (first | (refine And.intro ?_ ?_) | intro _)
 all_goals first | omega | exact⟨rfl,by dsimp only;omega,by dsimp only;omega,by dsimp only [ZB];simp only [List.length_set,List.length_take,List.length_drop];omega⟩ | exact⟨rfl,by dsimp only;omega,by dsimp only;omega,by simp only [List.length_drop,List.length_take];omega⟩ | exact⟨rfl,by dsimp only;omega,by dsimp only;omega,Nat.le_refl _⟩
structure BoD (b:List Int) (p:Int) (y:Blk×List Int×Int×Unit):Prop where
 len:y.1.ops.length<100000
 b:y.2.1=b
 lo:p≤y.2.2.1
 hi:y.2.2.1≤p+5000
theorem aix {p1:Int×List Int×Int×Unit→Bool} {f1:Int×List Int×Int×Unit→Bool×List Int×Int×Unit} (hp1:∀n b p,Bt b→0≤p→p<1000000000→p1 (n,b,p,())=true) (hf1:∀n b p,Bt b→0≤p→p<1000000000→(f1 (n,b,p,())).2.1=b∧(f1 (n,b,p,())).2.2.1=p+1) {p2:Int×List Int×Int×Unit→Bool} {f2:Int×List Int×Int×Unit→Int×List Int×Int×Unit} (hp2:∀n b p,Bt b→0≤p→p<1000000000→p2 (n,b,p,())=true) (hf2:∀n b p,Bt b→0≤p→p<1000000000→Pk n b p (f2 (n,b,p,()))) {p3:Blk×List Int×Int×Unit→Bool} {f3:Blk×List Int×Int×Unit→Int×Int×Int×Int×Int×Int×List Int×Int×List IOp×Unit} (hp3:∀c b p,c.ops.length<1000000→Bt b→0≤p→p<900000000→p3 (c,b,p,())=true) (hf3:∀c b p,c.ops.length<1000000→Bt b→0≤p→p<900000000→BkD 20 c.ops.length b p (f3 (c,b,p,()))) {p4:List Int×Int×Unit→Bool} {f4:List Int×Int×Unit→Int×Int×Int×Int×Int×Int×List Int×Int×List IOp×Unit} (hp4:∀b p,Bt b→0≤p→p<600000000→p4 (b,p,())=true) (hf4:∀b p,Bt b→0≤p→p<600000000→BkD 2000 5000 b p (f4 (b,p,()))) (n:Int) (b:List Int) (p:Int) (hb:Bt b) (h1:0≤p) (h2:p<500000000):Rf (std 0) p1 f1 p2 f2 p3 f3 p4 f4 (n,b,p,()) (fun y=>BoD b p y):=by
 obtain⟨a1,a2,a3,a4⟩:=hf4 b p hb h1 (by omega)
 have H4:=hp4 b p hb h1 (by omega)
 have R:=pkR hb hf2
 have P:=fun n p h1 h2=>hp2 n b p hb h1 h2
 have R1:=fun n p h1 h2=>(hf1 n b p hb h1 h2).1
 have R2:=fun n p h1 h2=>(hf1 n b p hb h1 h2).2
 have P1:=fun n p h1 h2=>hp1 n b p hb h1 h2
 dsimp only [Rf,Alg.cl,Alg.cg,Alg.rb,Alg.bd,Alg.l1,Tup.q,Tup.o]
 simp (disch:=omega) only [RR,RB,H4,a1,R,P,R1,R2,P1,List.length_cons,List.length_nil,List.length_append]
 repeat' (first | (refine And.intro ?_ ?_) | intro _)
 all_goals try omega
 all_goals try exact BoD.mk (show(f4 (b,p,())).2.2.2.2.2.2.2.2.1.length<100000 by omega) rfl (by dsimp only;omega) (by dsimp only;omega)
 all_goals try exact hp3 _ _ _ (show(f4 (b,p,())).2.2.2.2.2.2.2.2.1.length<1000000 by omega) hb (by omega) (by omega)
 all_goals try exact BoD.mk (show(_++ [_]).length<100000 by rw [List.length_append,List.length_singleton];omega) rfl (by dsimp only;omega) (by dsimp only;omega)
 all_goals try exact(fun h=>BoD.mk (Nat.lt_of_le_of_lt h.len (show(f4 (b,p,())).2.2.2.2.2.2.2.2.1.length<100000 by omega)) h.b (by have:=h.lo;dsimp only;omega) (by have:=h.hi;dsimp only;omega)) (hf3 _ _ _ (show(f4 (b,p,())).2.2.2.2.2.2.2.2.1.length<1000000 by omega) hb (by omega) (by omega))
 all_goals
  refine au (fun(y:List Int×Int×Int×Int×Int×Int×Int×Int×Int×Int×Int×Int×Int×Int×List IOp×Unit)=>y.1=b∧p≤y.2.1∧y.2.1≤p+5000∧y.2.2.2.2.2.2.2.2.2.2.2.2.2.2.1.length<50000) (fun y=>50-y.2.2.2.2.2.2.2.2.2.2.2.2.2.2.1.length) ⟨rfl,by dsimp only;omega,by dsimp only;omega,by dsimp only;omega⟩ ?_
  rintro⟨(b':List Int),(q:Int),u1,u2,u3,u4,u5,u6,b1,b2,b3,b4,b5,b6,(ops:List IOp),⟨⟩⟩ hI
  dsimp only at hI ⊢
  obtain⟨rfl,h3,h4,h5⟩:=hI
  simp (disch:=omega) only [RR,List.length_append,List.length_cons,List.length_nil]
  refine⟨fun h=>⟨by omega,⟨by omega,by omega,by omega⟩,by omega⟩,fun h=>⟨show ops.length<100000 by omega,rfl,by dsimp only;omega,by dsimp only;omega⟩⟩
end Go.TX.F
namespace Go.TX.F
open Go Go.AE Go.TX
end Go.TX.F
namespace Go.TX.F
open Go Go.AE Go.TX
end Go.TX.F
namespace Go.TX.F
open Go Go.AE Go.TX
end Go.TX.F
namespace Go.TX.F
open Go Go.AE Go.TX
theorem aoH (x y:IOp):akC .iop x y=decide (x=y):=rfl
theorem Sc {P:Prop} [Decidable P]:decide P=bp P:=by unfold bp;congr
theorem aaq (a b:List IOp) (ha:a.length<1000000000):Ri (std 0) (a,b,()) (fun y=>y=(bp (a=b),())):=by
 dsimp only [Ri,Alg.cl,Alg.cg,Alg.rb,Alg.bd,Alg.l1,Tup.q,Tup.o]
 simp (disch:=omega) only [RR]
 refine⟨fun h=> ?_,fun h=> ?_⟩
 ·rw [iB (fun e=>h (by rw [e]))]
 have hl:a.length=b.length:=by omega
 refine au (fun(y:List IOp×List IOp×Int×Int×Unit)=>y.1=a∧y.2.1=b∧y.2.2.1=a.length∧0≤y.2.2.2.1∧y.2.2.2.1≤a.length∧All y.2.2.2.1 (fun i=>a.getD i.toNat default=b.getD i.toNat default)) (fun y=>(a.length-y.2.2.2.1).toNat) ⟨rfl,rfl,rfl,by simp,by simp,All.zero⟩ ?_
 rintro⟨(l1:List IOp),(l2:List IOp),(n:Int),(i:Int),⟨⟩⟩ hI
 dsimp only at hI ⊢
 obtain⟨rfl,rfl,rfl,h1,h2,h3⟩:=hI
 simp (disch:=omega) only [RR,aoH]
 refine⟨fun h4=>⟨by omega,by omega,by omega,by omega,fun h5=> ?_,fun h5=>⟨⟨by omega,by omega,h3.snoc h5⟩,by omega⟩⟩,fun h4=> ?_⟩
 ·rw [iB]
  intro e;rw [e]at h5;exact h5 rfl
 ·rw [dI (Cv hl (h3.le (by omega)))]
theorem aoI {p1:List IOp×List IOp×Unit→Bool} {f1:List IOp×List IOp×Unit→Bool×Unit} (hp1:∀a b,a.length<1000000000→p1 (a,b,())=true) (hf1:∀a b,a.length<1000000000→f1 (a,b,())=(bp (a=b),())) (a b:Blk) (ha:a.ops.length<1000000000):X5 (std 0) p1 f1 (a,b,()) (fun y=>y=(bp (a=b),())):=by
 dsimp only [X5,Alg.cl,Alg.cg,Alg.rb,Alg.bd,Alg.l1,Tup.q,Tup.o]
 simp (disch:=omega) only [RR,RB,hp1 _ _ ha,hf1 _ _ ha]
 simp only [Sc,←uL]
 refine Prod.ext (uM ?_) rfl
 cases a;cases b;simp only [Blk.mk.injEq]
 constructor<;>(intro h;simp only [h,and_self])
theorem aoJ {p1:List aj×List aj×Unit→Bool} {f1:List aj×List aj×Unit→Bool×Unit} (hp1:∀a b,Sh a→p1 (a,b,())=true) (hf1:∀a b,Sh a→f1 (a,b,())=(decide (iT a b=0),())) (a b:List aj) (ha:Sh a):Zf (std 0) p1 f1 (a,b,()) (fun y=>y=(decide (iT a b=0),())):=by
 dsimp only [Zf,Alg.cl,Alg.cg,Alg.rb,Alg.bd,Alg.l1,Tup.q,Tup.o]
 simp (disch:=omega) only [RR,hp1 _ _ ha,hf1 _ _ ha]
theorem aiy {p1:List aj×List aj×Unit→Bool} {f1:List aj×List aj×Unit→Bool×Unit} (hp1:∀a b,Sh a→p1 (a,b,())=true) (hf1:∀a b,Sh a→f1 (a,b,())=(decide (iT a b=0),())) (a b:List (List aj)) (ha:ShP a):RH (std 0) p1 f1 (a,b,()) (fun y=>y=(bp (a=b),())):=by
 have hlen:=ha.1
 dsimp only [RH,Alg.cl,Alg.cg,Alg.rb,Alg.bd,Alg.l1,Tup.q,Tup.o]
 simp (disch:=omega) only [RR]
 refine⟨fun h=> ?_,fun h=> ?_⟩
 ·rw [iB (fun e=>h (by rw [e]))]
 have hl:a.length=b.length:=by omega
 refine au (fun(y:List (List aj)×List (List aj)×Int×Int×Unit)=>y.1=b∧y.2.1=a∧y.2.2.1=a.length∧0≤y.2.2.2.1∧y.2.2.2.1≤a.length∧All y.2.2.2.1 (fun i=>a.getD i.toNat default=b.getD i.toNat default)) (fun y=>(a.length-y.2.2.2.1).toNat) ⟨rfl,rfl,rfl,by simp,by simp,All.zero⟩ ?_
 rintro⟨(l1:List (List aj)),(l2:List (List aj)),(n:Int),(i:Int),⟨⟩⟩ hI
 dsimp only at hI ⊢
 obtain⟨rfl,rfl,rfl,h1,h2,h3⟩:=hI
 simp (disch:=omega) only [RR,hp1 _ _ (ha.at _),hf1 _ _ (ha.at _),mH]
 refine⟨fun h4=>⟨by omega,by omega,by omega,by omega,fun h5=> ?_,fun h5=>⟨⟨by omega,by omega,h3.snoc h5⟩,by omega⟩⟩,fun h4=> ?_⟩
 ·rw [iB]
  intro e;rw [e]at h5;exact h5 rfl
 ·rw [dI (Cv hl (h3.le (by omega)))]
theorem aoK {p1:List (List aj)×List (List aj)×Unit→Bool} {f1:List (List aj)×List (List aj)×Unit→Bool×Unit} (hp1:∀a b,ShP a→p1 (a,b,())=true) (hf1:∀a b,ShP a→f1 (a,b,())=(bp (a=b),())) (a b:List (List aj)) (ha:ShP a):Zg (std 0) p1 f1 (a,b,()) (fun y=>y=(bp (a=b),())):=by
 dsimp only [Zg,Alg.cl,Alg.cg,Alg.rb,Alg.bd,Alg.l1,Tup.q,Tup.o]
 simp (disch:=omega) only [RR,hp1 _ _ ha,hf1 _ _ ha]
theorem aoL {p1:List aj×List aj×Unit→Bool} {f1:List aj×List aj×Unit→Bool×Unit} (hp1:∀a b,Sh a→p1 (a,b,())=true) (hf1:∀a b,Sh a→f1 (a,b,())=(decide (iT a b=0),())) {p2:List (List aj)×List (List aj)×Unit→Bool} {f2:List (List aj)×List (List aj)×Unit→Bool×Unit} (hp2:∀a b,ShP a→p2 (a,b,())=true) (hf2:∀a b,ShP a→f2 (a,b,())=(bp (a=b),())) (a b:Ev) (ha:ShE a):Zh (std 0) p1 f1 p2 f2 (a,b,()) (fun y=>y=(bp (a=b),())):=by
 dsimp only [Zh,Alg.cl,Alg.cg,Alg.rb,Alg.bd,Alg.l1,Tup.q,Tup.o]
 simp (disch:=omega) only [RR,RB,hp1 _ _ ha.1,hf1 _ _ ha.1,hp1 _ _ ha.2.1,hf1 _ _ ha.2.1,hp2 _ _ ha.2.2,hf2 _ _ ha.2.2,mH]
 simp only [Sc,←uL]
 refine Prod.ext (uM ?_) rfl
 cases a;cases b;simp only [Ev.mk.injEq]
 constructor<;>(intro h;simp only [h,and_self])
theorem aiz {p1:Ev×Ev×Unit→Bool} {f1:Ev×Ev×Unit→Bool×Unit} (hp1:∀a b,ShE a→p1 (a,b,())=true) (hf1:∀a b,ShE a→f1 (a,b,())=(bp (a=b),())) (a b:List Ev) (ha:Wd a):RJ (std 0) p1 f1 (a,b,()) (fun y=>y=(bp (a=b),())):=by
 have hlen:=ha.1
 dsimp only [RJ,Alg.cl,Alg.cg,Alg.rb,Alg.bd,Alg.l1,Tup.q,Tup.o]
 simp (disch:=omega) only [RR]
 refine⟨fun h=> ?_,fun h=> ?_⟩
 ·rw [iB (fun e=>h (by rw [e]))]
 have hl:a.length=b.length:=by omega
 refine au (fun(y:List Ev×List Ev×Int×Int×Unit)=>y.1=b∧y.2.1=a∧y.2.2.1=a.length∧0≤y.2.2.2.1∧y.2.2.2.1≤a.length∧All y.2.2.2.1 (fun i=>a.getD i.toNat default=b.getD i.toNat default)) (fun y=>(a.length-y.2.2.2.1).toNat) ⟨rfl,rfl,rfl,by simp,by simp,All.zero⟩ ?_
 rintro⟨(l1:List Ev),(l2:List Ev),(n:Int),(i:Int),⟨⟩⟩ hI
 dsimp only at hI ⊢
 obtain⟨rfl,rfl,rfl,h1,h2,h3⟩:=hI
 simp (disch:=omega) only [RR,hp1 _ _ (ha.at _),hf1 _ _ (ha.at _),bO,rY]
 refine⟨fun h4=>⟨by omega,by omega,by omega,by omega,fun h5=> ?_,fun h5=>⟨⟨by omega,by omega,h3.snoc h5⟩,by omega⟩⟩,fun h4=> ?_⟩
 ·rw [iB]
  intro e;rw [e]at h5;exact h5 rfl
 ·rw [dI (Cv hl (h3.le (by omega)))]
theorem aoM {p1:List aj×List aj×Unit→Bool} {f1:List aj×List aj×Unit→Bool×Unit} (hp1:∀a b,Sh a→p1 (a,b,())=true) (hf1:∀a b,Sh a→f1 (a,b,())=(decide (iT a b=0),())) {p2:List (List aj)×List (List aj)×Unit→Bool} {f2:List (List aj)×List (List aj)×Unit→Bool×Unit} (hp2:∀a b,ShP a→p2 (a,b,())=true) (hf2:∀a b,ShP a→f2 (a,b,())=(bp (a=b),())) {p3:List Ev×List Ev×Unit→Bool} {f3:List Ev×List Ev×Unit→Bool×Unit} (hp3:∀b a,Wd b→p3 (b,a,())=true) (hf3:∀b a,Wd b→f3 (b,a,())=(bp (b=a),())) (a b:Sym) (ha:ShY a):Zk (std 0) p1 f1 p2 f2 p3 f3 (a,b,()) (fun y=>y=(bp (a=b),())):=by
 dsimp only [Zk,Alg.cl,Alg.cg,Alg.rb,Alg.bd,Alg.l1,Tup.q,Tup.o]
 simp (disch:=omega) only [RR,RB,hp1 _ _ ha.x,hf1 _ _ ha.x,hp1 _ _ ha.y,hf1 _ _ ha.y,hp2 _ _ ha.r,hf2 _ _ ha.r,hp3 _ _ ha.e,hf3 _ _ ha.e,mH]
 simp only [Sc,←uL]
 refine Prod.ext (uM ?_) rfl
 cases a;cases b;simp only [Sym.mk.injEq]
 constructor<;>(intro h;simp only [h,and_self])
theorem aoN {p1:Blk×Unit→Bool} {f1:Blk×Unit→Bool×Unit} (hp1:∀b,b.ops.length<1000000000→p1 (b,())=true) (hf1:∀b,b.ops.length<1000000000→f1 (b,())=(bp (bL b),())) {p2:Blk×Blk×Unit→Bool} {f2:Blk×Blk×Unit→Bool×Unit} (hp2:∀a b,a.ops.length<1000000000→p2 (a,b,())=true) (hf2:∀a b,a.ops.length<1000000000→f2 (a,b,())=(bp (a=b),())) {p3:Unit→Bool} {f3:Unit→List Atom×List (List aj)×Unit} (hp3:p3 ()=true) (hf3:(f3 ()).1=t4) {p4:List Atom×Blk×Unit→Bool} {f4:List Atom×Blk×Unit→List Atom×Sym×Unit} (hp4:∀t b,ShT t→b.ops.length<1000000000→p4 (t,b,())=true) (hf4:∀t b,ShT t→b.ops.length<1000000000→f4 (t,b,())=((bI t b).1,(bI t b).2,())) {p5:Sym×Sym×Unit→Bool} {f5:Sym×Sym×Unit→Bool×Unit} (hp5:∀a b,ShY a→p5 (a,b,())=true) (hf5:∀a b,ShY a→f5 (a,b,())=(bp (a=b),())) (b c:Blk) (hb:b.ops.length<1000000000) (hc:c.ops.length<1000000000):Zl (std 0) p1 f1 p2 f2 p3 f3 p4 f4 p5 f5 (b,c,()) (fun y=>y=(chk b c,())):=by
 have s4:ShT t4:=Z7.1.sh
 have y1:=KJ t4 b
 dsimp only [Zl,Alg.cl,Alg.cg,Alg.rb,Alg.bd,Alg.l1,Tup.q,Tup.o]
 simp (disch:=omega) only [RR,RB,hp1 b hb,hf1 b hb,hp1 c hc,hf1 c hc,hp2 b c hb,hf2 b c hb,hp3,hf3,hp4 t4 b s4 hb,hf4 t4 b s4 hb,hp4 _ c y1.2 hc,hf4 _ c y1.2 hc,hp5 _ _ y1.1,hf5 _ _ y1.1,bO,rY]
 unfold chk
 refine⟨fun h=> ?_,fun h=>⟨fun e=> ?_,fun e=> ?_⟩⟩
 ·rw [iB];rintro⟨h1,h2,h3,h4,_⟩;simp_all
 ·rw [dI];exact⟨h.1.1.1,h.1.1.2,h.1.2,h.2,Or.inl e⟩
 ·refine Prod.ext (uM ?_) rfl
  exact⟨fun g=>⟨h.1.1.1,h.1.1.2,h.1.2,h.2,Or.inr g⟩,fun g=>g.2.2.2.2.resolve_left e⟩
end Go.TX.F
namespace Go.TX.F
open Go Go.AE Go.TX
theorem mkB (p l o f x y k):Co.mk .blk (p,l,o,f,x,y,k,())=Blk.mk p l o f x y k:=rfl
structure Sd (nm:List Int) (fin x y:Int) (ops:List IOp):Prop where
 op:∀i:Int,0≤i→i<ops.length→(hX ((ops).getD (i).toNat default)→0≤(((ops).getD (i).toNat default)).x∧(((ops).getD (i).toNat default)).x<nm.length)∧(hY ((ops).getD (i).toNat default)→0≤(((ops).getD (i).toNat default)).y∧(((ops).getD (i).toNat default)).y<nm.length)
 x:fin≠1→0≤x∧x<nm.length
 y:3≤fin→0≤y∧y<nm.length
 l:ops.length<1000000000
theorem ade (b:Blk) (hb:b.ops.length<1000000000):XR (std 0) (b,()) (fun y=>y=bk7 b):=by
 dsimp only [XR,Alg.cl,Alg.cg,Alg.rb,Alg.bd,Alg.l1,Tup.q,Tup.o]
 simp (disch:=omega) only [RR,RB]
 omega
theorem adf (i a1 a2 a3 a4 a5 a6:Int) (ops:List IOp) (h:0≤i∧i<ops.length):Zr (std 0) (i,a1,a2,a3,a4,a5,a6,ops,()) (fun y=>y=(decide ((((ops).getD (i).toNat default)).kind=1),a1,a2,a3,a4,a5,a6,ops,())):=by
 dsimp only [Zr,Alg.cl,Alg.cg,Alg.rb,Alg.bd,Alg.l1,Tup.q,Tup.o]
 simp (disch:=omega) only [RR,RB]
 omega
theorem aoO {p1:Blk×Unit→Bool} {f1:Blk×Unit→Bool×Bool×Bool×Unit} (hp1:∀b,p1 (b,())=true) (hf1:∀b,f1 (b,())=(decide (b.fin≠1),decide (3≤b.fin),decide (b.fin≠2),())) {p2:IOp×Unit→Bool} {f2:IOp×Unit→Bool×Bool×Bool×Bool×Unit} (hp2:∀o,p2 (o,())=true) (hf2:∀o,f2 (o,())=(decide (hX o),decide (hY o),decide (hK o),decide (evO o),())) (nm:List Int) (pc len fin x y k:Int) (ops:List IOp) (h:Sd nm fin x y ops):XU (std 0) p1 f1 p2 f2 (nm,pc,len,fin,x,y,k,ops,()) (fun z=>z=(pc,len,fin,(if fin=1 then x else((nm).getD (x).toNat default)),(if 3≤fin then((nm).getD (y).toNat default)else y),k,ops.map (ren nm),())):=by
 have hl:=h.l
 dsimp only [XU,Alg.cl,Alg.cg,Alg.rb,Alg.bd,Alg.l1,Tup.q,Tup.o]
 simp (disch:=omega) only [RR,RB]
 refine au (fun(z:List Int×Int×Int×Int×Int×Int×Int×Int×Int×List IOp×Unit)=>z.1=nm∧z.2.1=ops.length∧0≤z.2.2.1∧z.2.2.1≤ops.length∧z.2.2.2=(pc,len,fin,x,y,k,(ops.take z.2.2.1.toNat).map (ren nm)++ops.drop z.2.2.1.toNat,())) (fun z=>((ops.length:Int)-z.2.2.1).toNat) ⟨rfl,rfl,by dsimp only;omega,by dsimp only;omega,rfl⟩ ?_
 rintro⟨(nm':List Int),(n:Int),(i:Int),(pc':Int),(len':Int),(fin':Int),(x':Int),(y':Int),(k':Int),(ops':List IOp),⟨⟩⟩ hI
 dsimp only at hI ⊢
 simp only [Prod.mk.injEq,and_true]at hI
 obtain⟨rfl,rfl,h1,h2,rfl,rfl,rfl,rfl,rfl,rfl,rfl⟩:=hI
 have fl:((ops.take i.toNat).map (ren nm')).length=i.toNat:=by rw [List.length_map,List.length_take];omega
 have ln:=wG (l:=ops) fl (by omega)
 by_cases c:i<ops.length
 ·obtain⟨ox,oy⟩:=h.op i h1 c
  have ek:=KN (d:=default) (l:=ops) fl (by omega)
  have ms:=fun q=>wF (x:=q) (l:=ops) fl (by omega)
  have mk:=Ia (d:=default) (f:=(ops.take i.toNat).map (ren nm')) (l:=ops) (k:=i.toNat) (by omega)
  have tk:=iM (d:=default) (l:=ops) h1 c rfl
  have m2:∀q:IOp,(((ops.take i.toNat).map (ren nm')++ [q])++ops.drop (i.toNat+1)).getD i.toNat default=q:=fun q=>by
   rw [getD_lt (by rw [List.length_append,List.length_append,fl];simp only [List.length_cons,List.length_nil];omega),List.getElem_append_left (by rw [List.length_append,fl];simp),List.getElem_append_right (by omega)];simp only [fl,Nat.sub_self,List.getElem_cons_zero]
  have m3:∀q r:IOp,(((ops.take i.toNat).map (ren nm')++ [q])++ops.drop (i.toNat+1)).set i.toNat r=((ops.take i.toNat).map (ren nm')++ [r])++ops.drop (i.toNat+1):=fun q r=>by
   rw [List.set_append_left _ _ (by rw [List.length_append,fl];simp),List.set_append_right _ _ (by omega),fl,Nat.sub_self];rfl
  have m4:∀q:IOp,(((ops.take i.toNat).map (ren nm')++ [q])++ops.drop (i.toNat+1)).length=ops.length:=fun q=>by
   rw [List.length_append,List.length_append,fl,List.length_drop];simp only [List.length_cons,List.length_nil];omega
  rw [mk]at ek ln ms ⊢
  generalize ((ops).getD (i).toNat default)=o at*
  simp (disch:=omega) only [RR,RB,hp2,hf2,m2,m3,m4,c]
  have G:∀q:IOp,q=ren nm' o→(pc',len',fin',x',y',k',(ops.take i.toNat).map (ren nm')++ [q]++ops.drop (i.toNat+1),())=(pc',len',fin',x',y',k',(ops.take (i+1).toNat).map (ren nm')++ops.drop (i+1).toNat,()):=fun q e=>by
   rw [e,←tk,List.map_append,show(i+1).toNat=i.toNat+1 by omega];rfl
  refine⟨h1,h1,fun d=>⟨(ox d).1,(ox d).2,h1,h1,fun e=>⟨(oy e).1,(oy e).2,h1,h1,⟨by omega,by omega,G _ ?_⟩,by omega⟩,fun e=>⟨⟨by omega,by omega,G _ ?_⟩,by omega⟩⟩,fun d=>⟨fun e=>⟨(oy e).1,(oy e).2,h1,h1,⟨by omega,by omega,G _ ?_⟩,by omega⟩,fun e=>⟨⟨by omega,by omega,G _ ?_⟩,by omega⟩⟩⟩
  all_goals unfold ren
  ·rw [if_pos d,if_pos e]
  ·rw [if_pos d,if_neg e]
  ·rw [if_neg d,if_pos e]
  ·rw [if_neg d,if_neg e]
 ·have hx:=h.x
  have hy:=h.y
  have z:(ops.take i.toNat).map (ren nm')++ops.drop i.toNat=ops.map (ren nm'):=by rw [List.take_of_length_le (by omega),List.drop_of_length_le (by omega),List.append_nil]
  rw [z]
  simp (disch:=omega) only [RR,RB,hp1,hf1,c,mkB]
  refine⟨fun d=>⟨(hx d).1,(hx d).2,fun e=>⟨(hy e).1,(hy e).2,?_⟩,fun e=> ?_⟩,fun d=>⟨fun e=>⟨(hy e).1,(hy e).2,?_⟩,fun e=> ?_⟩⟩
  ·rw [if_neg (show¬fin'=1 from d),if_pos (show 3≤fin' from e)]
  ·rw [if_neg (show¬fin'=1 from d),if_neg (show¬3≤fin' from e)]
  ·rw [if_pos (show fin'=1 from Classical.byContradiction d),if_pos (show 3≤fin' from e)]
  ·rw [if_pos (show fin'=1 from Classical.byContradiction d),if_neg (show¬3≤fin' from e)]
theorem aoP {p1:List Int×Int×Int×Int×Int×Int×Int×List IOp×Unit→Bool} {f1:List Int×Int×Int×Int×Int×Int×Int×List IOp×Unit→Int×Int×Int×Int×Int×Int×List IOp×Unit} (hp1:∀(nm:List Int) pc len fin x y k ops,Sd nm fin x y ops→p1 (nm,pc,len,fin,x,y,k,ops,())=true) (hf1:∀(nm:List Int) pc len fin x y k ops,Sd nm fin x y ops→f1 (nm,pc,len,fin,x,y,k,ops,())=(pc,len,fin,(if fin=1 then x else((nm).getD (x).toNat default)),(if 3≤fin then((nm).getD (y).toNat default)else y),k,ops.map (ren nm),())) (b:Blk) (kp:List Bool) (ok:bL b) (hk:kp.length=b.ops.length):Zm (std 0) p1 f1 (b,kp,()) (fun y=>y=bk7 (gN b kp)):=by
 have n48:=ok.sz
 dsimp only [Zm,Alg.cl,Alg.cg,Alg.rb,Alg.bd,Alg.l1,Tup.q,Tup.o]
 simp (disch:=omega) only [RR,RB]
 refine⟨by omega,by omega,au (fun(y:List Bool×List IOp×Int×Int×Int×Int×Int×Int×Int×Int×List Int×Int×Int×Int×Int×Int×Int×List IOp×Unit)=>y.1=kp∧y.2.1=b.ops∧y.2.2.1=b.ops.length∧0≤y.2.2.2.1∧y.2.2.2.1≤b.ops.length∧y.2.2.2.2.2.2.2.2.2.2=((kpS b.ops kp y.2.2.2.1.toNat).1++(List.replicate b.ops.length (0:Int)).drop y.2.2.2.1.toNat,b.pc,b.len,b.fin,b.x,b.y,b.k,(kpS b.ops kp y.2.2.2.1.toNat).2,())) (fun y=>((b.ops.length:Int)-y.2.2.2.1).toNat) ⟨rfl,rfl,rfl,by dsimp only;omega,by dsimp only;omega,?_⟩ ?_⟩
 ·rfl
 rintro⟨(kp':List Bool),(ops:List IOp),(n:Int),(i:Int),u1,u2,u3,u4,u5,u6,(nm:List Int),(pc:Int),(len:Int),(fin:Int),(x:Int),(y:Int),(k:Int),(out:List IOp),⟨⟩⟩ hI
 dsimp only at hI ⊢
 simp only [Prod.mk.injEq,and_true]at hI
 obtain⟨rfl,rfl,rfl,h1,h2,rfl,rfl,rfl,rfl,rfl,rfl,rfl,rfl⟩:=hI
 obtain⟨l1,l2⟩:=kL b.ops kp' i.toNat
 have rl:(List.replicate b.ops.length (0:Int)).length=b.ops.length:=List.length_replicate
 have ln:=wG (l:=List.replicate b.ops.length (0:Int)) l1 (by omega)
 have ms:=fun(q:Int) (h:i<b.ops.length)=>wF (x:=q) (l:=List.replicate b.ops.length (0:Int)) l1 (by omega)
 have fin:¬i<b.ops.length→kpS b.ops kp' i.toNat=kpS b.ops kp' b.ops.length:=fun h=>by rw [show i.toNat=b.ops.length by omega]
 have nx:kpS b.ops kp' (i+1).toNat=((kpS b.ops kp' i.toNat).1++ [((kpS b.ops kp' i.toNat).2.length:Int)],if kp'.getD i.toNat default=true then(kpS b.ops kp' i.toNat).2++ [((b.ops).getD (i).toNat default)]else(kpS b.ops kp' i.toNat).2):=by rw [show(i+1).toNat=i.toNat+1 by omega];rfl
 have kb:gN b kp'=KL (kpS b.ops kp' b.ops.length).1 b (kpS b.ops kp' b.ops.length).2:=rfl
 have en:=ok.en
 by_cases c:i<b.ops.length
 ·have ms:=fun q=>ms q c
  generalize hT:kpS b.ops kp' (i+1).toNat=T at*
  generalize kpS b.ops kp' i.toNat=S at*
  simp (disch:=omega) only [RR,RB,ln,ms,c,List.length_append,List.length_cons,List.length_nil,AA]
  rw [hT,nx,rl,show(i+1).toNat=i.toNat+1 by omega]
  refine⟨h1,h1,c,h1,c,h1,by omega,fun d=>⟨by omega,⟨by omega,by omega,?_⟩,by omega⟩,fun d=>⟨⟨by omega,by omega,?_⟩,by omega⟩⟩
  ·rw [if_pos d]
  ·rw [d,if_neg (by decide)]
 ·have e:=fin c
  have z:(kpS b.ops kp' i.toNat).1++(List.replicate b.ops.length (0:Int)).drop i.toNat=(kpS b.ops kp' b.ops.length).1:=by
   rw [List.drop_of_length_le (by rw [rl];omega),List.append_nil,e]
  have R:Sd (kpS b.ops kp' b.ops.length).1 b.fin b.x b.y (kpS b.ops kp' b.ops.length).2:=by
   obtain⟨q1,q2⟩:=kL b.ops kp' b.ops.length
   refine⟨fun m m0 m1=> ?_,fun d=> ?_,fun d=> ?_,by omega⟩
   ·obtain⟨j,j1,j2,j3⟩:=R5 b.ops kp' (n:=b.ops.length) (m:=m.toNat) (by omega)
    have a:=(H6 b.ops kp' j1 j2).2
    rw [j3]at a
    rw [a,q1]
    have o:=ok.op j (by omega) (by omega)
    rw [show(j:Int).toNat=j from rfl]at o
    exact⟨fun d=>⟨(o.x1 d).1,by have:=(o.x1 d).2.1;omega⟩,fun d=>⟨(o.y1 d).1,by have:=(o.y1 d).2.1;omega⟩⟩
   ·rw [q1];exact⟨(en.x1 d).1,(en.x1 d).2.1⟩
   ·rw [q1];exact⟨(en.y1 d).1,(en.y1 d).2.1⟩
  rw [z,e,kb]
  generalize kpS b.ops kp' b.ops.length=N at*
  simp (disch:=omega) only [RR,RB,c,hp1 N.1 b.pc b.len b.fin b.x b.y b.k N.2 R,hf1 N.1 b.pc b.len b.fin b.x b.y b.k N.2 R]
  rfl
end Go.TX.F
namespace Go.TX.F
open Go Go.AE Go.TX
theorem aoQ {p1:Blk×Unit→Bool} {f1:Blk×Unit→Int×Int×Int×Int×Int×Int×List IOp×Unit} (hp1:∀b,b.ops.length<1000000000→p1 (b,())=true) (hf1:∀b,b.ops.length<1000000000→f1 (b,())=bk7 b) {p2:Blk×Unit→Bool} {f2:Blk×Unit→Bool×Unit} (hp2:∀b,b.ops.length<1000000000→p2 (b,())=true) (hf2:∀b,b.ops.length<1000000000→f2 (b,())=(bp (bL b),())) {p3:Int×Int×Int×Int×Int×Int×Int×List IOp×Unit→Bool} {f3:Int×Int×Int×Int×Int×Int×Int×List IOp×Unit→Bool×Int×Int×Int×Int×Int×Int×List IOp×Unit} (hp3:∀(i a1 a2 a3 a4 a5 a6:Int) (ops:List IOp),0≤i∧i<ops.length→p3 (i,a1,a2,a3,a4,a5,a6,ops,())=true) (hf3:∀(i a1 a2 a3 a4 a5 a6:Int) (ops:List IOp),0≤i∧i<ops.length→f3 (i,a1,a2,a3,a4,a5,a6,ops,())=(decide ((((ops).getD (i).toNat default)).kind=1),a1,a2,a3,a4,a5,a6,ops,())) {p4:Int×Int×Int×Unit→Bool} {f4:Int×Int×Int×Unit→Int×Unit} (hp4:∀op a b,p4 (op,a,b,())=true) (hf4:∀op a b,f4 (op,a,b,())=(wdo op a b,())) {p5:Int×Int×Int×Unit→Bool} {f5:Int×Int×Int×Unit→Bool×Unit} (hp5:∀r a b,p5 (r,a,b,())=true) (hf5:∀r a b,f5 (r,a,b,())=(inB a 0 65535&&inB b 0 65535&& (decide (r=1∧a=b∨r=2∧a<b)),())) (b:Blk) (hb:b.ops.length<1000000):Zt (std 0) p1 f1 p2 f2 p3 f3 p4 f4 p5 f5 (b,()) (fun y=>y=(bE b,())):=by
 dsimp only [Zt,Alg.cl,Alg.cg,Alg.rb,Alg.bd,Alg.l1,Tup.q,Tup.o]
 simp (disch:=omega) only [RR,RB,hp1 b (by omega),hf1 b (by omega),hp2 b (by omega),hf2 b (by omega),mkB]
 refine⟨fun h=>by unfold bE;rw [h,if_neg (by decide)];rfl,fun h=> ?_⟩
 have ok:=bO.1 h
 rw [zI ok]
 have n48:=ok.sz
 refine au (fun(y:Int×Int×Blk×Int×Int×Int×Int×Int×Int×Int×Int×Int×Int×Int×Int×List IOp×Unit)=>y.1=b.ops.length∧0≤y.2.1∧y.2.1≤b.ops.length∧y.2.2.1=b∧y.2.2.2.2.2.2.2.2.2=(b.pc,b.len,b.fin,b.x,b.y,b.k,fc b.ops y.2.1.toNat++b.ops.drop y.2.1.toNat,())) (fun y=>((b.ops.length:Int)-y.2.1).toNat) ⟨rfl,by dsimp only;omega,by dsimp only;omega,rfl,rfl⟩ ?_
 rintro⟨(n:Int),(k:Int),(b':Blk),u1,u2,u3,u4,u5,u6,b1,b2,b3,b4,b5,b6,(ops:List IOp),⟨⟩⟩ hI
 dsimp only at hI ⊢
 simp only [Prod.mk.injEq,and_true]at hI
 obtain⟨rfl,h1,h2,rfl,rfl,rfl,rfl,rfl,rfl,rfl,rfl⟩:=hI
 have fl:=kE b'.ops k.toNat
 have ln:=wG (l:=b'.ops) fl (by omega)
 have C:=fun j hj=>hf3 j b'.pc b'.len b'.fin b'.x b'.y b'.k (fc b'.ops k.toNat++b'.ops.drop k.toNat) hj
 have Cp:=fun j hj=>hp3 j b'.pc b'.len b'.fin b'.x b'.y b'.k (fc b'.ops k.toNat++b'.ops.drop k.toNat) hj
 by_cases c:k<b'.ops.length
 ·have o:=ok.op k h1 c
  have ek:=KN (d:=default) (l:=b'.ops) fl (by omega)
  have lo:=fun(j:Int) (j0:0≤j) (j1:j<k)=>aao (d:=default) (l:=b'.ops) (j:=j.toNat) fl (by omega)
  have nx:fc b'.ops (k+1).toNat=fc b'.ops k.toNat++ [fcO (fc b'.ops k.toNat) ((b'.ops).getD (k).toNat default)]:=by rw [show(k+1).toNat=k.toNat+1 by omega];rfl
  have hk:=Ia (d:=default) (f:=fc b'.ops k.toNat) (l:=b'.ops) (k:=k.toNat) (by omega)
  have hs:=fun x=>wF (x:=x) (l:=b'.ops) fl (by omega)
  have rg:∀x:Int,Vl b'.ops x k→0≤x∧x<k:=fun x v=>⟨v.1,v.2.1⟩
  have fo:fcO (fc b'.ops k.toNat) ((b'.ops).getD (k).toNat default)=if(((b'.ops).getD (k).toNat default)).kind=3∧((((fc b'.ops k.toNat)).getD ((((b'.ops).getD (k).toNat default)).x).toNat default)).kind=1∧((((fc b'.ops k.toNat)).getD ((((b'.ops).getD (k).toNat default)).y).toNat default)).kind=1 then⟨1,0,0,wdo (((b'.ops).getD (k).toNat default)).k ((((fc b'.ops k.toNat)).getD ((((b'.ops).getD (k).toNat default)).x).toNat default)).k ((((fc b'.ops k.toNat)).getD ((((b'.ops).getD (k).toNat default)).y).toNat default)).k,0⟩else((b'.ops).getD (k).toNat default):=rfl
  generalize hq:((b'.ops).getD (k).toNat default)=q at*
  generalize hM:fc b'.ops k.toNat++b'.ops.drop k.toNat=M at*
  by_cases c3:q.kind=3
  ·have vx:=rg _ (o.x1 (by unfold hX;omega))
   have vy:=rg _ (o.y1 (Or.inl c3))
   have rx:0≤q.x∧q.x<M.length:=⟨vx.1,by omega⟩
   have ry:0≤q.y∧q.y<M.length:=⟨vy.1,by omega⟩
   rw [←lo _ vx.1 vx.2,←lo _ vy.1 vy.2]at fo
   simp (disch:=omega) only [RR,RB,ln,ek,hq,C _ rx,Cp _ rx,C _ ry,Cp _ ry,hp4,hf4,c,c3,rx,ry,decide_true,Bool.true_and]
   rw [nx,show(k+1).toNat=k.toNat+1 by omega]
   refine⟨h1,h1,fun d=>⟨fun e=>⟨by omega,by omega,by omega,by omega,h1,h1,⟨by omega,by omega,?_⟩,by omega⟩,fun e=>⟨⟨by omega,by omega,?_⟩,by omega⟩⟩,fun d=>⟨d,⟨by omega,by omega,?_⟩,by omega⟩⟩
   ·rw [if_pos ⟨c3,e⟩]at fo;rw [fo,hs]
   ·rw [if_neg (by rintro⟨_,g1,g2⟩;rw [g1,g2]at e;cases e)]at fo;rw [fo,hk]
   ·rw [if_neg (by rintro⟨_,g1,g2⟩;exact d g1)]at fo;rw [fo,hk]
  ·simp (disch:=omega) only [RR,RB,ln,ek,hq,c,c3]
   rw [nx,show(k+1).toNat=k.toNat+1 by omega]
   refine⟨h1,h1,⟨by omega,by omega,?_⟩,by omega⟩
   rw [if_neg (fun g=>c3 g.1)]at fo;rw [fo,hk]
 ·have z:fc b'.ops k.toNat++b'.ops.drop k.toNat=fc b'.ops b'.ops.length:=by rw [List.drop_of_length_le (by omega),List.append_nil,show k.toNat=b'.ops.length by omega]
  have fe:=ok.fe (kE b'.ops b'.ops.length)
  have fx:=fe.x
  have fy:=fe.y
  have hf:=fe.f
  have y0:=fe.y0
  have hp:=fe.p
  dsimp only at fx fy hf y0 hp
  rw [z]at C Cp ⊢
  have ln:=kE b'.ops b'.ops.length
  have fi:=fun(j:Int) h1 h2 h3=>((wC ok [] b'.ops.length (Nat.le_refl _)).2.c j h1 h2 h3).1
  generalize fc b'.ops b'.ops.length=M at*
  have e0:¬(b'.fin=2∧(((M).getD (b'.x).toNat default)).kind=1)→¬(3≤b'.fin∧(((M).getD (b'.x).toNat default)).kind=1∧(((M).getD (b'.y).toNat default)).kind=1)→fcB b' M=⟨b'.pc,b'.len,M,b'.fin,b'.x,b'.y,b'.k⟩:=fun g1 g2=>by unfold fcB;rw [if_neg g1,if_neg g2]
  by_cases f1':b'.fin=1
  ·rw [e0 (by omega) (by omega)]
   simp (disch:=omega) only [RR,RB,ln,c,show¬b'.fin=2 by omega,show¬3≤b'.fin by omega,mkB,decide_false]
   rfl
  ·have rx:=fx f1'
   by_cases f2':b'.fin=2
   ·by_cases d:(((M).getD (b'.x).toNat default)).kind=1
    ·have e:fcB b' M=⟨b'.pc,b'.len,M,1,0,b'.y,(((M).getD (b'.x).toNat default)).k⟩:=by unfold fcB;rw [if_pos ⟨f2',d⟩]
     rw [e]
     simp (disch:=omega) only [RR,RB,ln,c,eq_true f2',eq_true d,mkB,C _ rx,Cp _ rx,decide_true,Bool.true_and,Bool.and_true,Bool.and_false]
     exact⟨rx.1,by omega,rx.1,by omega,rfl⟩
    ·rw [e0 (by omega) (by omega)]
     simp (disch:=omega) only [RR,RB,ln,c,eq_true f2',d,show¬3≤b'.fin by omega,mkB,C _ rx,Cp _ rx,decide_true,decide_false,Bool.true_and,Bool.and_true,Bool.and_false]
     rfl
   ·have ry:=fy (by omega)
    have f3':3≤b'.fin:=by omega
    by_cases d1:(((M).getD (b'.x).toNat default)).kind=1
    ·by_cases d2:(((M).getD (b'.y).toNat default)).kind=1
     ·have e:fcB b' M=⟨b'.pc,b'.len,M,1,0,0,if b'.fin=3∧(((M).getD (b'.x).toNat default)).k=(((M).getD (b'.y).toNat default)).k∨b'.fin=4∧(((M).getD (b'.x).toNat default)).k< (((M).getD (b'.y).toNat default)).k then b'.k else b'.pc+b'.len⟩:=by unfold fcB;rw [if_neg (by omega),if_pos ⟨f3',d1,d2⟩]
      have r1:=eP.2 (fi b'.x rx.1 (by omega) d1)
      have r2:=eP.2 (fi b'.y ry.1 (by omega) d2)
      rw [e]
      simp (disch:=omega) only [RR,RB,ln,c,f2',f3',d1,d2,mkB,C _ rx,Cp _ rx,C _ ry,Cp _ ry,hp5,hf5,r1,r2,decide_true,decide_false,Bool.true_and,Bool.and_true,Bool.and_false]
      refine⟨rx.1,by omega,rx.1,by omega,ry.1,by omega,ry.1,by omega,fun g=> ?_,fun g=> ?_⟩
      ·rw [if_neg (by omega)];rfl
      ·rw [if_pos (by omega)];rfl
     ·rw [e0 (by omega) (by omega)]
      simp (disch:=omega) only [RR,RB,ln,c,f2',f3',d1,d2,mkB,C _ rx,Cp _ rx,C _ ry,Cp _ ry,decide_true,decide_false,Bool.true_and,Bool.and_true,Bool.and_false]
      rfl
    ·rw [e0 (by omega) (by omega)]
     simp (disch:=omega) only [RR,RB,ln,c,f2',f3',d1,mkB,C _ rx,Cp _ rx,decide_true,decide_false,Bool.true_and,Bool.and_true,Bool.and_false]
     rfl
theorem aoR {p1:Blk×Unit→Bool} {f1:Blk×Unit→Int×Int×Int×Int×Int×Int×List IOp×Unit} (hp1:∀b,b.ops.length<1000000000→p1 (b,())=true) (hf1:∀b,b.ops.length<1000000000→f1 (b,())=bk7 b) {p2:List Int×Int×Int×Int×Int×Int×Int×List IOp×Unit→Bool} {f2:List Int×Int×Int×Int×Int×Int×Int×List IOp×Unit→Int×Int×Int×Int×Int×Int×List IOp×Unit} (hp2:∀(nm:List Int) pc len fin x y k ops,Sd nm fin x y ops→p2 (nm,pc,len,fin,x,y,k,ops,())=true) (hf2:∀(nm:List Int) pc len fin x y k ops,Sd nm fin x y ops→f2 (nm,pc,len,fin,x,y,k,ops,())=(pc,len,fin,(if fin=1 then x else((nm).getD (x).toNat default)),(if 3≤fin then((nm).getD (y).toNat default)else y),k,ops.map (ren nm),())) {p3:Blk×Unit→Bool} {f3:Blk×Unit→Bool×Unit} (hp3:∀b,b.ops.length<1000000000→p3 (b,())=true) (hf3:∀b,b.ops.length<1000000000→f3 (b,())=(bp (bL b),())) (b:Blk) (hb:b.ops.length<1000000):XV (std 0) p1 f1 p2 f2 p3 f3 (b,()) (fun y=>y=(bg b,())):=by
 dsimp only [XV,Alg.cl,Alg.cg,Alg.rb,Alg.bd,Alg.l1,Tup.q,Tup.o]
 simp (disch:=omega) only [RR,RB,hp1 b (by omega),hf1 b (by omega),hp3 b (by omega),hf3 b (by omega),AA]
 refine⟨fun h=>by unfold bg;rw [h,if_neg (by decide)];rfl,fun h=> ?_⟩
 have ok:=bO.1 h
 rw [OH ok]
 have n48:=ok.sz
 refine⟨by omega,by omega,au (fun(y:List IOp×Int×Int×Blk×Int×Int×Int×Int×Int×Int×List Int×List Int×Unit)=>y.1=b.ops∧y.2.1=b.ops.length∧0≤y.2.2.1∧y.2.2.1≤b.ops.length∧y.2.2.2.1=b∧y.2.2.2.2.2.2.2.2.2.2=((cpS b.ops y.2.2.1.toNat).1++(List.replicate b.ops.length (0:Int)).drop y.2.2.1.toNat,(cpS b.ops y.2.2.1.toNat).2,())) (fun y=>((b.ops.length:Int)-y.2.2.1).toNat) ⟨rfl,rfl,by dsimp only;omega,by dsimp only;omega,rfl,rfl⟩ ?_⟩
 rintro⟨(ops:List IOp),(n:Int),(k:Int),(b':Blk),u1,u2,u3,u4,u5,u6,(nm:List Int),(la:List Int),⟨⟩⟩ hI
 dsimp only at hI ⊢
 simp only [Prod.mk.injEq,and_true]at hI
 obtain⟨rfl,rfl,h1,h2,rfl,rfl,rfl⟩:=hI
 obtain⟨l1,l2⟩:=rF b'.ops k.toNat
 have rl:(List.replicate b'.ops.length (0:Int)).length=b'.ops.length:=List.length_replicate
 have ln:=wG (l:=List.replicate b'.ops.length (0:Int)) l1 (by omega)
 by_cases c:k<b'.ops.length
 ·have o:=ok.op k h1 c
  have nx:cpS b'.ops (k+1).toNat=((cpS b'.ops k.toNat).1++ [cpN (cpS b'.ops k.toNat) k ((b'.ops).getD (k).toNat default)],cpL (cpS b'.ops k.toNat) k ((b'.ops).getD (k).toNat default)):=by
   rw [show(k+1).toNat=k.toNat+1 by omega,show k=((k.toNat:Nat):Int) by omega];rfl
  have ms:=fun(q:Int)=>wF (x:=q) (l:=List.replicate b'.ops.length (0:Int)) l1 (by omega)
  have m3:∀q r:Int,(((cpS b'.ops k.toNat).1++ [q])++(List.replicate b'.ops.length (0:Int)).drop (k.toNat+1)).set k.toNat r=((cpS b'.ops k.toNat).1++ [r])++(List.replicate b'.ops.length (0:Int)).drop (k.toNat+1):=fun q r=>by
   rw [List.set_append_left _ _ (by rw [List.length_append,l1];simp),List.set_append_right _ _ (by omega),l1,Nat.sub_self];rfl
  have m4:∀q:Int,(((cpS b'.ops k.toNat).1++ [q])++(List.replicate b'.ops.length (0:Int)).drop (k.toNat+1)).length=b'.ops.length:=fun q=>by
   rw [List.length_append,List.length_append,l1,List.length_drop,rl];simp only [List.length_cons,List.length_nil];omega
  have m5:∀(q x:Int),0≤x→x<k→(((((cpS b'.ops k.toNat).1++ [q])++(List.replicate b'.ops.length (0:Int)).drop (k.toNat+1))).getD (x).toNat default)=(((cpS b'.ops k.toNat).1).getD (x).toNat default):=fun q x x0 x1=>by
   rw [List.append_assoc,getD_lt (by rw [List.length_append];omega),getD_lt (by omega),List.getElem_append_left]
  have kd:=o.k2
  have ox:=fun c8:(((b'.ops).getD (k).toNat default)).kind=8=>o.x1 (by unfold hX;omega)
  generalize hq:((b'.ops).getD (k).toNat default)=q at*
  generalize hT:cpS b'.ops (k+1).toNat=T at*
  generalize cpS b'.ops k.toNat=S at*
  have ss:∀i:Int,0≤i→i<S.2.length→S.2.set i.toNat ((S.2).getD (i).toNat default)=S.2:=fun i i0 i1=>by rw [getD_lt (show i.toNat<S.2.length by omega),List.set_getElem_self]
  have G:∀v w,v=cpN S k q→w=cpL S k q→((S.1++ [v])++(List.replicate b'.ops.length (0:Int)).drop (k.toNat+1),w,())=(T.1++(List.replicate b'.ops.length (0:Int)).drop (k+1).toNat,T.2,()):=fun v w e1 e2=>by
   rw [nx,e1,e2,show(k+1).toNat=k.toNat+1 by omega]
  by_cases c2:q.kind=2
  ·have kk:=kd (Or.inl c2)
   by_cases c3:0≤((S.2).getD (q.k).toNat default)
   ·have g:=G (((S.2).getD (q.k).toNat default)) S.2 (by unfold cpN;rw [if_pos ⟨c2,c3⟩]) (by unfold cpL;rw [if_pos c2,if_pos c3])
    simp (disch:=omega) only [RR,RB,ln,ms,m3,m4,rl,c,hq,eq_true c2,eq_true c3,hT,g,decide_true,decide_false,Bool.true_and,Bool.and_true,Bool.and_false,Bool.false_and,false_and]
    omega
   ·have g:=G k (S.2.set q.k.toNat k) (by unfold cpN;rw [if_neg (fun q=>c3 q.2)]) (by unfold cpL;rw [if_pos c2,if_neg c3])
    simp (disch:=omega) only [RR,RB,ln,ms,m3,m4,rl,c,hq,eq_true c2,c3,hT,g,decide_true,decide_false,Bool.true_and,Bool.and_true,Bool.and_false,Bool.false_and,false_and]
    omega
  ·by_cases c8:q.kind=8
   ·have kk:=kd (Or.inr c8)
    have v:=ox c8
    have v0:=v.1
    have v1:=v.2.1
    have g:=G k (S.2.set q.k.toNat ((S.1).getD (q.x).toNat default)) (by unfold cpN;rw [if_neg (fun q=>c2 q.1)]) (by unfold cpL;rw [if_neg c2,if_pos c8])
    simp (disch:=omega) only [RR,RB,ln,ms,m3,m4,m5,rl,c,hq,c2,eq_true c8,hT,g,decide_true,decide_false,Bool.true_and,Bool.and_true,Bool.and_false,Bool.false_and,false_and]
    omega
   ·have g:=G k S.2 (by unfold cpN;rw [if_neg (fun q=>c2 q.1)]) (by unfold cpL;rw [if_neg c2,if_neg c8])
    simp (disch:=omega) only [RR,RB,ln,ms,m3,m4,rl,c,hq,c2,c8,hT,g,decide_true,decide_false,Bool.true_and,Bool.and_true,Bool.and_false,Bool.false_and,false_and]
    omega
 ·have z:(cpS b'.ops k.toNat).1++(List.replicate b'.ops.length (0:Int)).drop k.toNat=(cpS b'.ops b'.ops.length).1:=by
   rw [List.drop_of_length_le (by rw [rl];omega),List.append_nil,show k.toNat=b'.ops.length by omega]
  have en:=ok.en
  have R:Sd (cpS b'.ops b'.ops.length).1 b'.fin b'.x b'.y b'.ops:=by
   obtain⟨q1,q2⟩:=rF b'.ops b'.ops.length
   refine⟨fun m m0 m1=> ?_,fun d=> ?_,fun d=> ?_,by omega⟩
   ·have o:=ok.op m m0 m1
    rw [q1]
    exact⟨fun d=>⟨(o.x1 d).1,by have:=(o.x1 d).2.1;omega⟩,fun d=>⟨(o.y1 d).1,by have:=(o.y1 d).2.1;omega⟩⟩
   ·rw [q1];exact⟨(en.x1 d).1,(en.x1 d).2.1⟩
   ·rw [q1];exact⟨(en.y1 d).1,(en.y1 d).2.1⟩
  rw [z]
  generalize (cpS b'.ops b'.ops.length).1=N at*
  simp (disch:=omega) only [RR,RB,c,hp1 b' (by omega),hf1 b' (by omega),hp2 N b'.pc b'.len b'.fin b'.x b'.y b'.k b'.ops R,hf2 N b'.pc b'.len b'.fin b'.x b'.y b'.k b'.ops R]
  rfl
end Go.TX.F
namespace Go.TX.F
open Go Go.AE Go.TX
theorem aoS {p1:Blk×Unit→Bool} {f1:Blk×Unit→Bool×Bool×Bool×Unit} (hp1:∀b,p1 (b,())=true) (hf1:∀b,f1 (b,())=(decide (b.fin≠1),decide (3≤b.fin),decide (b.fin≠2),())) {p2:IOp×Unit→Bool} {f2:IOp×Unit→Bool×Bool×Bool×Bool×Unit} (hp2:∀o,p2 (o,())=true) (hf2:∀o,f2 (o,())=(decide (hX o),decide (hY o),decide (hK o),decide (evO o),())) (b:Blk) (ok:bL b):X4 (std 0) p1 f1 p2 f2 (b,()) (fun y=>y=(us b b.ops.length,())):=by
 have n48:=ok.sz
 have en:=ok.en
 have ex:¬b.fin=1→0≤b.x∧b.x<b.ops.length:=fun c=>by have:=en.x1 c;exact⟨this.1,this.2.1⟩
 have ey:3≤b.fin→0≤b.y∧b.y<b.ops.length:=fun c=>by have:=en.y1 c;exact⟨this.1,this.2.1⟩
 dsimp only [X4,Alg.cl,Alg.cg,Alg.rb,Alg.bd,Alg.l1,Tup.q,Tup.o]
 simp (disch:=omega) only [RR,RB,hp1,hf1,List.length_replicate,List.length_set,Int.toNat_natCast]
 refine⟨by omega,by omega,fun c=>⟨(ex c).1,(ex c).2,(ex c).1,(ex c).2,fun d=>⟨(ey d).1,(ey d).2,(ey d).1,(ey d).2,?_⟩,fun d=> ?_⟩,fun c=>⟨fun d=>⟨(ey d).1,(ey d).2,(ey d).1,(ey d).2,?_⟩,fun d=> ?_⟩⟩
 all_goals
  refine au (fun(y:Int×Blk×List Bool×Unit)=> -1≤y.1∧y.1<b.ops.length∧y.2.1=b∧y.2.2.1=us b (b.ops.length-1-y.1).toNat) (fun y=>(y.1+1).toNat) ⟨by dsimp only;omega,by dsimp only;omega,rfl,?_⟩ ?_
  ·dsimp only
   rw [show(b.ops.length-1- ((b.ops.length:Int)-1)).toNat=0 by omega]
   show _=us0 b
   unfold us0
   dsimp only
   first
    | rw [if_neg (show¬b.fin=1 from c),if_pos (show 3≤b.fin from d)]
    | rw [if_neg (show¬b.fin=1 from c),if_neg (show¬3≤b.fin from d)]
    | (rw [if_pos (show b.fin=1 from Classical.byContradiction c),if_pos (show 3≤b.fin from d)])
    | (rw [if_pos (show b.fin=1 from Classical.byContradiction c),if_neg (show¬3≤b.fin from d)])
  rintro⟨(j:Int),(b2:Blk),(ms:List Bool),⟨⟩⟩ hI
  dsimp only at hI ⊢
  obtain⟨j0,j1,rfl,rfl⟩:=hI
  have ul:=uU b2 (b2.ops.length-1-j).toNat
  have us1:0≤j→us b2 (b2.ops.length-1- (j-1)).toNat=usO ((b2.ops).getD (j).toNat default) j.toNat (us b2 (b2.ops.length-1-j).toNat):=fun g=>by
   rw [show(b2.ops.length-1- (j-1)).toNat=(b2.ops.length-1-j).toNat+1 by omega]
   show usO (b2.ops.getD (b2.ops.length-1- (b2.ops.length-1-j).toNat) default) (b2.ops.length-1- (b2.ops.length-1-j).toNat) _=_
   rw [show b2.ops.length-1- (b2.ops.length-1-j).toNat=j.toNat by omega]
  have ue:¬0≤j→us b2 (b2.ops.length-1-j).toNat=us b2 b2.ops.length:=fun g=>by rw [show(b2.ops.length-1-j).toNat=b2.ops.length by omega]
  generalize us b2 (b2.ops.length-1-j).toNat=U at us1 ue ul ⊢
  by_cases g:0≤j
  ·have o:=ok.op j g j1
   have us1:=us1 g
   have ox:=fun c:hX ((b2.ops).getD (j).toNat default)=>(o.x1 c)
   have oy:=fun c:hY ((b2.ops).getD (j).toNat default)=>(o.y1 c)
   unfold usO at us1
   generalize hq:((b2.ops).getD (j).toNat default)=q at*
   have sj:∀x:Bool,(U.set j.toNat x).getD j.toNat default=x:=fun x=>by rw [getD_lt (by rw [List.length_set];omega),List.getElem_set_self]
   simp (disch:=omega) only [RR,RB,hp2,hf2,ul,List.length_set,sj,hq,g,eq_true g]
   rw [us1]
   by_cases w:(U.getD j.toNat default || decide (4≤q.kind))=true
   ·have w2:U.getD j.toNat default=true∨4≤q.kind:=by rw [Bool.or_eq_true,decide_eq_true_eq]at w;exact w
    rw [if_pos w,w]
    refine⟨j1,j1,j1,j1,j1,j1,j1,fun e=> ?_,fun _=>⟨fun e=>⟨(ox e).1,by have:=(ox e).2.1;omega,(ox e).1,by have:=(ox e).2.1;omega,fun e'=>⟨(oy e').1,by have:=(oy e').2.1;omega,(oy e').1,by have:=(oy e').2.1;omega,⟨by omega,by omega,?_⟩,by omega⟩,fun e'=>⟨⟨by omega,by omega,?_⟩,by omega⟩⟩,fun e=>⟨fun e'=>⟨(oy e').1,by have:=(oy e').2.1;omega,(oy e').1,by have:=(oy e').2.1;omega,⟨by omega,by omega,?_⟩,by omega⟩,fun e'=>⟨⟨by omega,by omega,?_⟩,by omega⟩⟩⟩⟩
    ·rcases w2 with w2 | w2
     ·rw [e.1]at w2;cases w2
     ·exact absurd w2 e.2
    all_goals dsimp only
    ·rw [if_pos e,if_pos e']
    ·rw [if_pos e,if_neg e']
    ·rw [if_neg e,if_pos e']
    ·rw [if_neg e,if_neg e']
   ·have w1:(U.getD j.toNat default || decide (4≤q.kind))=false:=by simpa using w
    rw [if_neg w,w1]
    have w3:U.getD j.toNat default=false:=by rw [Bool.or_eq_false_iff]at w1;exact w1.1
    have ws:U.set j.toNat false=U:=by rw [←w3,getD_lt (show j.toNat<U.length by omega),List.set_getElem_self]
    refine⟨j1,j1,j1,j1,j1,j1,j1,fun _=>⟨⟨by omega,by omega,ws⟩,by omega⟩,fun e=> ?_⟩
    exfalso
    rcases e with e | e
    ·rw [w3]at e;cases e
    ·rw [decide_eq_true e,Bool.or_true]at w;exact w rfl
  ·simp (disch:=omega) only [RR,RB,g,eq_false g,ue g]
theorem acu (j:Nat) (D:List Bool) (v:Bool):(List.replicate (j+1) false++D).set j v=List.replicate j false++v::D:=by
 rw [List.replicate_succ',List.append_assoc,List.set_append_right _ _ (by rw [List.length_replicate];exact Nat.le_refl _),List.length_replicate,Nat.sub_self];rfl
theorem aar (j:Nat) (D:List Bool) (u v:Bool):(List.replicate j false++u::D).set j v=List.replicate j false++v::D:=by
 rw [List.set_append_right _ _ (by rw [List.length_replicate];exact Nat.le_refl _),List.length_replicate,Nat.sub_self];rfl
theorem aoT {p1:Blk×List Bool×Unit→Bool} {f1:Blk×List Bool×Unit→Int×Int×Int×Int×Int×Int×List IOp×Unit} (hp1:∀b kp,bL b→kp.length=b.ops.length→p1 (b,kp,())=true) (hf1:∀b kp,bL b→kp.length=b.ops.length→f1 (b,kp,())=bk7 (gN b kp)) {p2:Blk×Unit→Bool} {f2:Blk×Unit→Bool×Unit} (hp2:∀b,b.ops.length<1000000000→p2 (b,())=true) (hf2:∀b,b.ops.length<1000000000→f2 (b,())=(bp (bL b),())) (b:Blk) (hb:b.ops.length<1000000):Zq (std 0) p1 f1 p2 f2 (b,()) (fun y=>y=(dJ b,())):=by
 dsimp only [Zq,Alg.cl,Alg.cg,Alg.rb,Alg.bd,Alg.l1,Tup.q,Tup.o]
 simp (disch:=omega) only [RR,RB,hp2 b (by omega),hf2 b (by omega),Int.toNat_natCast]
 refine⟨fun h=>by unfold dJ;rw [h,if_neg (by decide)];rfl,fun h=> ?_⟩
 have ok:=bO.1 h
 rw [OD ok]
 have n48:=ok.sz
 have kl:(dQ b.ops).length=b.ops.length:=by unfold dQ;rw [List.length_map,List.length_range]
 refine⟨by omega,by omega,by omega,by omega,au (fun(y:Int×Blk×Int×Int×Int×Int×Int×Int×List Bool×List Bool×Unit)=> -1≤y.1∧y.1<b.ops.length∧y.2.1=b∧y.2.2.2.2.2.2.2.2.1=List.replicate (y.1+1).toNat false++(dQ b.ops).drop (y.1+1).toNat∧y.2.2.2.2.2.2.2.2.2.1.length=4∧∀r:Int,0≤r→r≤3→((y.2.2.2.2.2.2.2.2.2.1).getD (r).toNat default)=iH (b.ops.drop (y.1+1).toNat) r) (fun y=>(y.1+1).toNat) ⟨by dsimp only;omega,by dsimp only;omega,rfl,?_,rfl,fun r r0 r3=> ?_⟩ ?_⟩
 ·dsimp only
  rw [show((b.ops.length:Int)-1+1).toNat=b.ops.length by omega,List.drop_of_length_le (by omega),List.append_nil]
 ·dsimp only
  rw [show((b.ops.length:Int)-1+1).toNat=b.ops.length by omega,List.drop_of_length_le (by omega)]
  rcases(by omega:r=0∨r=1∨r=2∨r=3)with h | h | h | h<;>subst h<;>rfl
 rintro⟨(j:Int),(b':Blk),u1,u2,u3,u4,u5,u6,(kp:List Bool),(ag:List Bool),⟨⟩⟩ hI
 dsimp only at hI ⊢
 obtain⟨h1,h2,rfl,rfl,h4,h5⟩:=hI
 by_cases c:0≤j
 ·have o:=ok.op j c h2
  have e1:(j+1).toNat=j.toNat+1:=by omega
  have kd:dQ b'.ops=dQ b'.ops:=rfl
  have dk:(dQ b'.ops).drop j.toNat=(!(decide ((((b'.ops).getD (j).toNat default)).kind=8)&&iH (b'.ops.drop (j.toNat+1)) (((b'.ops).getD (j).toNat default)).k))::(dQ b'.ops).drop (j.toNat+1):=by
   rw [List.drop_eq_getElem_cons (show j.toNat< (dQ b'.ops).length by omega),←getD_lt (d:=default) (show j.toNat< (dQ b'.ops).length by omega),wD (by omega)]
  have dl:∀r,iH (b'.ops.drop j.toNat) r=if(((b'.ops).getD (j).toNat default)).kind=4∨(((b'.ops).getD (j).toNat default)).kind=5∨(((b'.ops).getD (j).toNat default)).kind=2∧(((b'.ops).getD (j).toNat default)).k=r then false else if(((b'.ops).getD (j).toNat default)).kind=8∧(((b'.ops).getD (j).toNat default)).k=r then true else iH (b'.ops.drop (j.toNat+1)) r:=fun r=>by
   rw [List.drop_eq_getElem_cons (show j.toNat<b'.ops.length by omega),H9,←getD_lt (d:=default) (show j.toNat<b'.ops.length by omega)]
  rw [e1]at h5 ⊢
  have k2:=o.k2
  have ln1:∀v:Bool,(List.replicate j.toNat false++v::(dQ b'.ops).drop (j.toNat+1)).length=b'.ops.length:=fun v=>by rw [List.length_append,List.length_replicate,List.length_cons,List.length_drop];omega
  have ln0:(List.replicate (j.toNat+1) false++(dQ b'.ops).drop (j.toNat+1)).length=b'.ops.length:=by rw [List.length_append,List.length_replicate,List.length_drop];omega
  generalize hq:((b'.ops).getD (j).toNat default)=q at*
  simp (disch:=omega) only [RR,RB,ln0,ln1,acu,aar,h4,hq,c,eq_true c,List.length_set]
  simp only [Int.sub_add_cancel]
  have K:∀v,v=(!(decide (q.kind=8)&&iH (b'.ops.drop (j.toNat+1)) q.k))→List.replicate j.toNat false++v::(dQ b'.ops).drop (j.toNat+1)=List.replicate j.toNat false++(dQ b'.ops).drop j.toNat:=fun v e=>by rw [dk,e]
  have fr:∀r:Int,0≤r→r≤3→(((List.replicate 4 false)).getD (r).toNat default)=false:=fun r r0 r3=>by
   rcases(by omega:r=0∨r=1∨r=2∨r=3)with h | h | h | h<;>subst h<;>rfl
  have kk:=fun g=>k2 g
  refine⟨h2,h2,h2,fun e8=> ?_,fun e8=>⟨fun e2=> ?_,fun e2=> ?_⟩⟩
  ·have kk:=k2 (Or.inr e8)
   refine⟨kk.1,by omega,kk.1,by omega,h2,h2,kk.1,by omega,kk.1,by omega,⟨by omega,by omega,K _ ?_,fun r r0 r3=> ?_⟩,by omega⟩
   ·rw [h5 _ kk.1 kk.2,decide_eq_true e8,Bool.true_and]
   ·rw [dl,rG r0 kk.1 (by omega)]
    by_cases g:r=q.k
    ·rw [if_pos g,if_neg (by omega),if_pos ⟨e8,g.symm⟩]
    ·rw [if_neg g,h5 r r0 r3,if_neg (by omega),if_neg (fun q=>g q.2.symm)]
  ·have kk:=k2 (Or.inl e2)
   refine⟨kk.1,by omega,kk.1,by omega,⟨by omega,by omega,K _ ?_,fun r r0 r3=> ?_⟩,by omega⟩
   ·rw [decide_eq_false e8,Bool.false_and];rfl
   ·rw [dl,rG r0 kk.1 (by omega)]
    by_cases g:r=q.k
    ·rw [if_pos g,if_pos (by omega)]
    ·rw [if_neg g,h5 r r0 r3,if_neg (by omega),if_neg (fun q=>e8 q.1)]
  ·have kv:=K true (by rw [decide_eq_false e8,Bool.false_and];rfl)
   have A45:q.kind=4∨q.kind=5→∀r:Int,0≤r→r≤3→(((List.replicate 4 false)).getD (r).toNat default)=iH (b'.ops.drop j.toNat) r:=fun g r r0 r3=>by rw [fr r r0 r3,dl,if_pos (by omega)]
   have An:¬q.kind=4→¬q.kind=5→∀r:Int,0≤r→r≤3→((ag).getD (r).toNat default)=iH (b'.ops.drop j.toNat) r:=fun g4 g5 r r0 r3=>by rw [h5 r r0 r3,dl,if_neg (by omega),if_neg (fun q=>e8 q.1)]
   refine⟨fun e4=>⟨fun _=>⟨⟨by omega,by omega,kv,rfl,A45 (Or.inl e4)⟩,by omega⟩,fun g=>absurd e4 g⟩,fun e4=>⟨fun e5=>⟨⟨by omega,by omega,kv,rfl,A45 (Or.inr e5)⟩,by omega⟩,fun e5=>⟨⟨by omega,by omega,kv,An e4 e5⟩,by omega⟩⟩⟩
 ·have z:(j+1).toNat=0:=by omega
  rw [z]
  have R:List.replicate 0 false++(dQ b'.ops).drop 0=dQ b'.ops:=rfl
  rw [R]
  simp (disch:=omega) only [RR,RB,c,eq_false c,hp1 _ _ ok kl,hf1 _ _ ok kl]
  rfl
theorem aoU {p1:Blk×List Bool×Unit→Bool} {f1:Blk×List Bool×Unit→Int×Int×Int×Int×Int×Int×List IOp×Unit} (hp1:∀b kp,bL b→kp.length=b.ops.length→p1 (b,kp,())=true) (hf1:∀b kp,bL b→kp.length=b.ops.length→f1 (b,kp,())=bk7 (gN b kp)) {p2:Blk×Unit→Bool} {f2:Blk×Unit→List Bool×Unit} (hp2:∀b,bL b→p2 (b,())=true) (hf2:∀b,bL b→f2 (b,())=(us b b.ops.length,())) {p3:Blk×Unit→Bool} {f3:Blk×Unit→Bool×Unit} (hp3:∀b,b.ops.length<1000000000→p3 (b,())=true) (hf3:∀b,b.ops.length<1000000000→f3 (b,())=(bp (bL b),())) (b:Blk) (hb:b.ops.length<1000000):Zn (std 0) p1 f1 p2 f2 p3 f3 (b,()) (fun y=>y=(dx b,())):=by
 dsimp only [Zn,Alg.cl,Alg.cg,Alg.rb,Alg.bd,Alg.l1,Tup.q,Tup.o]
 simp (disch:=omega) only [RR,RB,hp3 b (by omega),hf3 b (by omega)]
 refine⟨fun h=>by unfold dx;rw [h,if_neg (by decide)];rfl,fun h=> ?_⟩
 have ok:=bO.1 h
 have ul:=uU b b.ops.length
 rw [OE ok,hf2 b ok,hf1 _ _ ok ul]
 exact⟨hp2 b ok,hp1 _ _ ok ul,rfl⟩
end Go.TX.F
namespace Go.TX.F
open Go Go.AE Go.TX
theorem aiA {p1:Blk×Unit→Bool} {f1:Blk×Unit→Int×Int×Int×Int×Int×Int×List IOp×Unit} (hp1:∀b,b.ops.length<1000000→p1 (b,())=true) (hf1:∀b,b.ops.length<1000000→f1 (b,())=bk7 (bg b)) {p2:List Int×Unit→Bool} {f2:List Int×Unit→List Int×Int×Unit} (hp2:∀b,By b→b.length<1000000000→p2 (b,())=true) (hf2:∀b,By b→b.length<1000000000→Bt (f2 (b,())).1∧(f2 (b,())).2.1=0) {p3:Int×List Int×Int×Unit→Bool} {f3:Int×List Int×Int×Unit→Int×List Int×Int×Unit} (hp3:∀n b p,Bt b→0≤p→p<1000000000→p3 (n,b,p,())=true) (hf3:∀n b p,Bt b→0≤p→p<1000000000→Pk n b p (f3 (n,b,p,()))) {p4:Int×List Int×Int×Unit→Bool} {f4:Int×List Int×Int×Unit→Blk×List Int×Int×Unit} (hp4:∀n b p,Bt b→0≤p→p<500000000→p4 (n,b,p,())=true) (hf4:∀n b p,Bt b→0≤p→p<500000000→BoD b p (f4 (n,b,p,()))) (c:List Int) (hc:By c) (hl:c.length<1000000000):RL (std 0) p1 f1 p2 f2 p3 f3 p4 f4 (c,()) (fun y=>y.1.ops.length<100000):=by
 obtain⟨hb,e0⟩:=hf2 c hc hl
 generalize hbe:(f2 (c,())).1=b at hb
 have R:=pkR hb hf3
 have P:=fun n p h1 h2=>hp3 n b p hb h1 h2
 have B:=fun(q:Int) h1 h2=>hf4 14 b q hb h1 h2
 have Bp:=fun(q:Int) h1 h2=>hp4 14 b q hb h1 h2
 dsimp only [RL,Alg.cl,Alg.cg,Alg.rb,Alg.bd,Alg.l1,Tup.q,Tup.o]
 simp (disch:=omega) only [RR,hp2 c hc hl,hbe,e0,R,P]
 have b1:=(B (0+1) (by omega) (by omega)).1
 refine⟨fun _=>⟨Bp _ (by omega) (by omega),hp1 _ (by omega),?_⟩,fun _=>⟨Bp _ (by omega) (by omega),b1⟩⟩
 rw [hf1 _ (by omega)]
 exact Nat.lt_of_le_of_lt (kF _) b1
end Go.TX.F
namespace Go.TX.F
open Go Go.AE Go.TX
def ShC (l:List Cer):Prop:=l.length<1000∧∀q∈l,q.base.ops.length<1000000∧q.made.ops.length<1000000
theorem ShC.at {l:List Cer} (h:ShC l) (i:Nat):(l.getD i default).base.ops.length<1000000∧(l.getD i default).made.ops.length<1000000:=by
 by_cases c:i<l.length
 ·rw [getD_lt c];exact h.2 _ (List.getElem_mem _)
 ·rw [List.getD_eq_getElem?_getD,List.getElem?_eq_none (by omega)];exact⟨by decide,by decide⟩
theorem ShC.add {l:List Cer} (h:ShC l) (n:l.length<999) {q:Cer} (h1:q.base.ops.length<1000000) (h2:q.made.ops.length<1000000):ShC (l++ [q]):=by
 refine⟨by rw [List.length_append,List.length_singleton];omega,fun c g=> ?_⟩
 rw [List.mem_append,List.mem_singleton]at g
 rcases g with g | rfl
 ·exact h.2 c g
 ·exact⟨h1,h2⟩
end Go.TX.F
namespace Go.TX.F
open Go Go.AE Go.TX
theorem aoV {p1:Blk×Blk×Unit→Bool} {f1:Blk×Blk×Unit→Bool×Unit} (hp1:∀b c,b.ops.length<1000000000→c.ops.length<1000000000→p1 (b,c,())=true) (hf1:∀b c,b.ops.length<1000000000→c.ops.length<1000000000→f1 (b,c,())=(chk b c,())) {p2:Blk×Unit→Bool} {f2:Blk×Unit→Blk×Unit} (hp2:∀b,b.ops.length<1000000→p2 (b,())=true) (hf2:∀b,b.ops.length<1000000→f2 (b,())=(bE b,())) {p3:Blk×Unit→Bool} {f3:Blk×Unit→Blk×Unit} (hp3:∀b,b.ops.length<1000000→p3 (b,())=true) (hf3:∀b,b.ops.length<1000000→f3 (b,())=(bg b,())) {p4:Blk×Unit→Bool} {f4:Blk×Unit→Blk×Unit} (hp4:∀b,b.ops.length<1000000→p4 (b,())=true) (hf4:∀b,b.ops.length<1000000→f4 (b,())=(dx b,())) {p5:Blk×Unit→Bool} {f5:Blk×Unit→Blk×Unit} (hp5:∀b,b.ops.length<1000000→p5 (b,())=true) (hf5:∀b,b.ops.length<1000000→f5 (b,())=(dJ b,())) {p6:Unit→Bool} {f6:Unit→Bool×Unit} (hp6:p6 ()=true) (hf6:f6 ()=(true,())) {p7:List Int×Unit→Bool} {f7:List Int×Unit→Blk×Unit} (hp7:∀c,By c→c.length<1000000000→p7 (c,())=true) (hf7:∀c,By c→c.length<1000000000→(f7 (c,())).1.ops.length<100000) {p8:Blk×Unit→Bool} {f8:Blk×Unit→Bool×Unit} (hp8:∀b,b.ops.length<1000000000→p8 (b,())=true) (hf8:∀b,b.ops.length<1000000000→f8 (b,())=(bp (bL b),())) (c:List Int) (hc:By c):Zw (std 0) p1 f1 p2 f2 p3 f3 p4 f4 p5 f5 p6 f6 p7 f7 p8 f8 (c,()) (fun y=>y=(true,())):=by
 dsimp only [Zw,Alg.cl,Alg.cg,Alg.rb,Alg.bd,Alg.l1,Tup.q,Tup.o]
 simp (disch:=omega) only [RR]
 by_cases hl:1048576< (c.length:Int)
 ·simp (disch:=omega) only [RR,hl]
 ·have D:=hf7 c hc (by omega)
  have P:=hp7 c hc (by omega)
  generalize (f7 (c,())).1=b at D ⊢
  have l1:=oG b
  have l2:=kF b
  have l3:=nO b
  have l4:=rH b
  have l5:=rH (bE b)
  have l6:=oG (dx b)
  have l7:=nO (bg b)
  have l8:=kF (dJ b)
  have mE:∀c:Blk,Co.mk .blk (c.pc,c.len,c.ops,c.fin,c.x,c.y,c.k,())=c:=fun _=>rfl
  have b1:b.ops.length<1000000:=by omega
  have K:=fun(d:Blk) (h:d.ops.length<100000)=>hp1 b d (by omega) (by omega)
  have K2:=fun(d:Blk) (h:d.ops.length<100000)=>hf1 b d (by omega) (by omega)
  simp (disch:=omega) only [RR,hl,P,RB,mE,hp2 b b1,hf2 b b1,hp3 b b1,hf3 b b1,hp4 b b1,hf4 b b1,hp5 b b1,hf5 b b1,hp5 (bE b) (by omega),hf5 (bE b) (by omega),hp2 (dx b) (by omega),hf2 (dx b) (by omega),hp4 (bg b) (by omega),hf4 (bg b) (by omega),hp3 (dJ b) (by omega),hf3 (dJ b) (by omega),hp8 b (by omega),hf8 b (by omega),hp6,hf6,K _ (show(dJ (bE b)).ops.length<100000 by omega),K2 _ (show(dJ (bE b)).ops.length<100000 by omega),K _ (show(bE (dx b)).ops.length<100000 by omega),K2 _ (show(bE (dx b)).ops.length<100000 by omega),K _ (show(dx (bg b)).ops.length<100000 by omega),K2 _ (show(dx (bg b)).ops.length<100000 by omega),K _ (show(bg (dJ b)).ops.length<100000 by omega),K2 _ (show(bg (dJ b)).ops.length<100000 by omega)]
  refine⟨fun h=>by rw [(aad (rY.1 h)).1,(aad acp).2.2.1];rfl,fun h=> ?_⟩
  have ok:=bO.1 h
  have a:=(uT ok).1
  have d:=H8 ok
  have cp:=(yM ok).1
  have st:=H7 ok
  rw [(a.trans (H7 a.oc)).chk,(d.trans (uT d.oc).1).chk,(cp.trans (H8 cp.oc)).chk,(st.trans (yM st.oc).1).chk]
  simp
end Go.TX.F
namespace Go.TX
open Go Go.AE
theorem enters_of {P:Program} {f:FuncId} {fn:Func} {c:Code} (hf:P.funcs[f]? =some fn) (hname:(fn.name== "runtime.NumGoroutine")=false) (hb:fn.body=some c):Enters P f:=by
 intro args w
 have h1:fn.name≠ "runtime.NumGoroutine" :=by simpa using hname
 simp [callFunc,hf,h1,hb,mark]
def UU (P:Program):Nat→List Field→Bool
 | _,[]=>true
 | k,f::fs=> !(f.name== "_")&&f.offset==k&& (match P.underlying f.type with | some (.int _)=>true | _=>false)&&UU P (k+1) fs
theorem UW {P:Program} (w:World) (d:Nat) (xs ys:List Int) (hl:xs.length=ys.length):∀(fs:List Field) (k:Nat),UU P k fs=true→k+fs.length=xs.length→
  (Op.eqFields (d+1) (xs.map (Value.int .i64)).toArray (ys.map (Value.int .i64)).toArray fs).run P w= .ok (xs.drop k==ys.drop k) w
 | [],k,_,h2=>by
  rw [List.drop_eq_nil_of_le (show xs.length≤k by simp only [List.length_nil]at h2;omega),List.drop_eq_nil_of_le (show ys.length≤k by simp only [List.length_nil]at h2;omega)]
  simp [Op.eqFields]
 | f::fs,k,h1,h2=>by
  simp only [List.length_cons]at h2
  simp only [UU,Bool.and_eq_true,Bool.not_eq_true',beq_eq_false_iff_ne,beq_iff_eq]at h1
  obtain⟨⟨⟨n1,n2⟩,n3⟩,n4⟩:=h1
  have hk:k<xs.length:=by omega
  have hk':k<ys.length:=by omega
  obtain⟨kd,hu⟩:∃kd,P.underlying f.type=some (.int kd):=by
   cases hu:P.underlying f.type with
   | none=>rw [hu]at n3;cases n3
   | some z=>cases z<;>(first | exact⟨_,rfl⟩ | (rw [hu]at n3;cases n3))
  have pk:P.plainKey f.type=true:=by unfold Program.plainKey;rw [hu]
  have p1:=run_part_plain w pk (xs:=(xs.map (Value.int .i64)).toArray) (off:=f.offset) (v:= .int .i64 xs[k]) (by rw [n2];simp [hk])
  have p2:=run_part_plain w pk (xs:=(ys.map (Value.int .i64)).toArray) (off:=f.offset) (v:= .int .i64 ys[k]) (by rw [n2];simp [hk'])
  have ih:=UW w d xs ys hl fs (k+1) n4 (by omega)
  simp only [Op.eqFields,if_pos n1,Sem.run_bind,p1,p2,Result.andThen_ok,run_equalIn_int w d f.type .i64 kd _ _ hu]
  have e:(xs.drop k==ys.drop k)=((xs[k]==ys[k])&& (xs.drop (k+1)==ys.drop (k+1))):=by rw [List.drop_eq_getElem_cons hk,List.drop_eq_getElem_cons hk'];rfl
  rw [e]
  by_cases c:(xs[k]==ys[k])=true
  ·rw [c]
   simp only [Bool.not_true,Bool.false_eq_true,if_false,ih,Bool.true_and]
  ·have c2:(xs[k]==ys[k])=false:=by simpa using c
   rw [c2]
   simp only [Bool.not_false,if_true,Sem.run_pure,Bool.false_and]
theorem aiB {P:Program} {t:TypeId} {n:Nat} (hu:P.underlying t=some (.struct (P.fieldsOf t))) (hs:P.stoodInHeld t=false) (hg:P.eqGuardType P.depth t=false) (hf:UU P 0 (P.fieldsOf t).toList=true) (hn:(P.fieldsOf t).size=n) (xs ys:List Int) (hx:xs.length=n) (hy:ys.length=n) (w:World):
  (Op.equal t (.agg (xs.map (Value.int .i64)).toArray) (.agg (ys.map (Value.int .i64)).toArray)).run P w= .ok (xs==ys) w∧
  (eqGuard .eql t (.tmp 0) (.tmp 0) (.agg (xs.map (Value.int .i64)).toArray) (.agg (ys.map (Value.int .i64)).toArray)).run P w= .ok () w:=by
 refine⟨?_,run_eqGuard_agg w _ _ _ _ _ _ hg⟩
 show(Op.equalIn (9999+1) t _ _).run P w=_
 rw [run_equalIn_struct w 9999 t _ _ hu hs,UW w 9998 xs ys (by omega) _ 0 hf (by rw [Array.length_toList];omega)]
 rfl
noncomputable def never (s:Sig):Ct aC s:={pre:=fun _=>false,fn:=fun _=>Classical.choice (uh _)}
theorem jN {E:Tab} {f:FuncId} {s:Sig} (h:Enters E.P f):cB E f (bY (never s)) where
 enters:=h
 calls:=by
  rintro args hh n K ⟨m,vs,h2,h3,h4,h5,cr,h6,h7,h8⟩
  exfalso
  unfold qX at h6
  split at h6
  ·split at h6
   ·split at h6
    ·split at h6
     ·cases h6
      have:=h7 false (List.mem_append_right _ (List.mem_singleton.2 rfl))
      cases this
     ·cases h6
    ·cases h6
   ·cases h6
  ·cases h6
abbrev arI:Sig:={args:=[.c (.rows true .u8)],objs:=[],res:=[.c .bool],dM:=[]}
def entry (W:World):Ctx:={K:=fun _ b=>b<W.heap.size,μ:=fun _=>none,n:=0}
theorem Sg (W:World):bF (entry W) W []:=
 ⟨fun l o h=>(by cases h),fun l o l' o' b h=>(by cases h),fun f b ⟨l,o,h,_⟩=>(by cases h),fun f b h=>h,fun b h=>h⟩
theorem OL {W W':World} {c':Ctx} {h':Heap} (g:Grow (entry W) W [] c' W' h'):RowKit.Below W.heap.size W W':=
 ⟨g.os,g.tape,g.output,g.size,fun k hk=>g.kept k hk fun⟨l,o,h,_⟩=>by cases h⟩
theorem acv {c:Ctx} {w:World} {v:Value} {r:PV} {N:NM} {b:Bool} (h1:bD c w v r) (h2:PVR N r (.c (.d true (.bool b)))):v= .bool b:=by
 cases h2 with
 | one h=>
  cases h with
  | c h=>
   cases h with
   | d h3 _=>
    subst h3
    cases h1 with
    | c _ _ h4=>cases h4 with
     | d _ _ _ h5=>cases h5;rfl
  | agg h=>cases h
theorem arJ {E:Tab} {f:FuncId} {c:Ct aC arI} (hc:cB E f (bY c)) {xs:List Int} {W:World} {v:Value} (hv:dK (fun b=>b<W.heap.size) W v (.rows 1 (aK .u8 xs)))
  (hg:qK E (entry W) W) (hp:c.pre (xs,())=true):Go.Calls E.P f #[v] W fun e W'=>e= .returned (.bool (c.fn (xs,())).1)∧RowKit.Below W.heap.size W W':=by
 refine(hc.calls [.c (.d true (.rows 1 (aK .u8 xs)))] [] 0 (fun r _ _=>PVR (nmh []) r (.c (.d true (.bool (c.fn (xs,())).1)))) ?_ (entry W) W [v] rfl (.cons (.c _ _ (.d true _ _ hv)) .nil) (Sg W) hg).mono ?_
 ·refine⟨0,[.c (.d true (.rows .u8 xs))],[],.cons (.one (.c (.d rfl fun _=> .inl rfl))) .nil,⟨fun l o h=>(by cases h),fun _ _=>rfl⟩,rfl,_,rfl,?_,_,_,rfl,?_⟩
  ·intro b hb
   rcases List.mem_append.1 hb with h | h
   ·cases h
   ·rw [List.mem_singleton]at h;rw [h];exact hp
  ·intro r _ _ h _ _ _;exact h
 ·rintro e W' he
  cases e with
  | returned u=>
   obtain⟨c',r,h',j,g,_,_,h1,h2⟩:=he
   exact⟨by rw [acv h1 h2],OL g⟩
  | outgrown=>exact he.elim
  | panicked _=>exact he.elim
open Go.RowKit Go.ChangeShapes Go.WideShapes Go.ChangeAt in
theorem aas {H:Type} {enc:TypeId×Value→H} {P:Program} {t e:TypeId} (ht:P.underlying t=some (.slice e)) (he:P.underlying e=some (.int .u8)) (hc:P.cellsOf e=1) {W:World} {base:Nat} {v:Value} {d:DataW H} {p:List MemPlace}
  (hval:Value.okWide P W .any base t v) (h:DataW.Trod enc P W 0 (fun _=>true) true t v d p) (hlt:∀x∈p,x.block<W.heap.size):
  ∃xs:List Int,dK (fun b=>b<W.heap.size) W v (.rows 1 (aK .u8 xs))∧∀z∈xs,0≤z∧z≤255:=by
 obtain⟨a0,len,cap,rfl⟩:=okWide_slice ht hval
 obtain⟨fuel,hf⟩:=h
 rcases open_ints ht he hc hf with⟨hcs,hx⟩ | ⟨a,len',cap',zs,hcs,_,hl,hm,hz,hx,hcell,hwz⟩
 ·simp [Value.cells]at hcs
  obtain⟨rfl,rfl,rfl⟩:=hcs
  exact⟨[],.none _ _ _,fun _ h=>by cases h⟩
 ·simp [Value.cells]at hcs
  obtain⟨rfl,rfl,rfl⟩:=hcs
  simp only [Prod.mk.injEq]at hx
  obtain⟨rfl,rfl⟩:=hx
  simp only [if_true]at hz
  have rng:∀z∈zs,0≤z∧z≤255:=fun z hz=>by
   obtain⟨i,hi,rfl⟩:=List.getElem_of_mem hz
   have:=range_u8 hwz i
   rwa [List.getElem?_eq_getElem hi]at this
  refine⟨zs.take len,?_,fun z h=>rng z (List.mem_of_mem_take h)⟩
  by_cases h0:len=0
  ·subst h0;exact .none _ _ _
  ·obtain⟨b,off,spot⟩:=a
   have hspot:spot=none:=by simpa [Addr.add]using World.cell?_spot (hcell 0 (by omega))
   subst hspot
   have hbW:b<W.heap.size:=hlt (.cell b off) (MemPlace.mem_row.2 ⟨0,by omega,by simp⟩)
   have hlen:(aK .u8 (zs.take len)).length=len:=by simp only [aK,List.length_map,List.length_take];omega
   have hget:∀i,i<len→(aK .u8 (zs.take len)).getD i []=[.int .u8 (zs.getD i 0)]:=fun i hi=>by
    simp only [aK,List.getD,List.getElem?_map,List.getElem?_take_of_lt hi,List.getElem?_eq_getElem (show i<zs.length by omega)]
    rfl
   refine .rows b off cap 1 len _ (fun i j=> .int .u8 (zs.getD i 0)) hbW hlen.symm hl (fun i j hi hj=> ?_) (fun i hi=> ?_) (fun i j hi hj=> ?_)
   ·rw [hlen]at hi
    have:=hcell i (by omega)
    rw [add_plain]at this
    rw [show off+i*1+j=off+i by omega]
    exact this
   ·rw [hlen]at hi;rw [hget i hi];rfl
   ·rw [hlen]at hi
    have hj0:j=0:=by omega
    subst hj0
    unfold gd;rw [hget i hi];exact .int _ _
end Go.TX
namespace Go.TX.Seat
open Go Go.AE Go.TX Go.TX.F Go.Proofs
set_option maxRecDepth 100000
theorem arK:∀t n,E.ieq t=some n→∀(xs ys:List Int),xs.length=n→ys.length=n→∀w,
  (Op.equal t (.agg (xs.map (Value.int .i64)).toArray) (.agg (ys.map (Value.int .i64)).toArray)).run E.P w= .ok (xs==ys) w∧
  (eqGuard .eql t (.tmp 0) (.tmp 0) (.agg (xs.map (Value.int .i64)).toArray) (.agg (ys.map (Value.int .i64)).toArray)).run E.P w= .ok () w:=by
 intro t n h
 obtain⟨c,hc,rfl⟩:∃c,ieq t=some c∧c.size=n:=by
  have h':(ieq t).map (fun c=>c.size)=some n:=h
  cases hi:ieq t with
  | none=>rw [hi]at h';cases h'
  | some c=>rw [hi]at h';cases h';exact⟨c,rfl,rfl⟩
 unfold ieq at hc
 split at hc
 all_goals first | (cases hc;exact aiB (by kernel_rfl) (by kernel_rfl) (by kernel_rfl) (by kernel_rfl) (by kernel_rfl)) | cases hc
theorem hE:aH E:=⟨arv,arK⟩
theorem arL:∀t c,X.ieq t=some c→(c= .ins∧E.ieq t=some 4)∨(c= .iop∧E.ieq t=some 5):=by
 intro t c h
 have h:ieq t=some c:=h
 have e:E.ieq t=(ieq t).map fun c=>c.size:=rfl
 rw [e,h]
 unfold ieq at h
 split at h
 all_goals first | (cases h;first | exact Or.inl ⟨rfl,rfl⟩ | exact Or.inr ⟨rfl,rfl⟩) | cases h
theorem xok:XOK X E:=⟨rfl,fun g c h=>(by cases h),arL⟩
theorem hm:E.P.follows .mixedOrders=true:=by kernel_rfl
theorem hlN:∀p∈([]:List (FuncId×Sigma (Ct aC))),cB E p.1 (bY p.2.2):=fun _ h=>by cases h
theorem hlC {f:FuncId} {s:Sig} {c:Ct aC s} {l:List (FuncId×Sigma (Ct aC))} (h:cB E f (bY c)) (r:∀p∈l,cB E p.1 (bY p.2.2)):∀p∈(f,⟨s,c⟩)::l,cB E p.1 (bY p.2.2):=fun p hp=>by
 rcases List.mem_cons.1 hp with rfl | hp
 ·exact h
 ·exact r p hp
@[reducible] def _root_.Go.TX.Fn.c {E : Tab} {f : FuncId} {s : Sig} {F : gV s.inp → (gV s.out → Prop) → Prop} {c : Ct aC s} (_ : Fn E f F c) : Ct aC s := c
theorem mk {lk:aF} {f:FuncId} {fn:Func} (hf:E.P.funcs[f]? =some fn) {l:List (FuncId×Sigma (Ct aC))} (hl:∀p∈l,cB E p.1 (bY p.2.2)) {ord:List (Nat×List fG)} {s:Sig} {an:Ann}
 {F:gV s.inp→(gV s.out→Prop)→Prop} (h:Ru X E (std 0) ord an s fn l F) (hb:fn.body.isSome=true:=by rfl) (hn:(fn.name== "runtime.NumGoroutine")=false:=by kernel_rfl):Fn E f F (cn F):=aqL hE xok hm hf hb (fun _=>enters_of hf hn) hl h
theorem aat {E:Tab} {f:FuncId} {c:Ct aC {args:=[.c (.int .u64)],objs:=[],res:=[.c (.int .i64)],dM:=[]}} {g:Int→Int} (hent:Enters E.P f) (hg:(fun x:Int=>(c.fn (x,())).1)=g)
  (h:∀(x:Int) (w:World),c.pre (x,())=true→Go.Calls E.P f #[.int .u64 x] w fun e w'=>e= .returned (.int .i64 (g x))∧w'=w):cB E f (bY c) where
 enters:=hent
 calls:=by
  rintro args hh n K ⟨m,qs,hs,hargs,HR,hlen,cr,hcall,abP,v,kT,hvk,hK⟩ c1 w vs hcn qA Hh Gl
  have key:∀f0 (x:Int),qs=[.c (.d f0 (.int .u64 x))]→qX (std m) hs {args:=[.c (.int .u64)],objs:=[],res:=[.c (.int .i64)],dM:=[]} c qs=some {ck:=[c.pre (x,())],ts:=[.i],y:=c.fn (x,()),touched:=[],pure:=true,k:=fun y=>some (.c (.d true (.int .i64 y.1)),hs)}:=by
   intro f0 x e;subst e;rfl
  have hq:∃f0 x,qs=[.c (.d f0 (.int .u64 x))]:=by
   unfold qX at hcall
   cases qs with
   | nil=>simp [oh]at hcall
   | cons q r=>
    cases r with
    | cons q2 r2=>
     exfalso
     simp only [oh]at hcall
     cases hx:Iw (std m) hs (.c (.int .u64)) q (es0 (std m) 0 [])with
     | none=>rw [hx]at hcall;simp at hcall
     | some s=>rw [hx]at hcall;simp [oh]at hcall
    | nil=>
     simp only [oh]at hcall
     cases q with
     | c y=>
      simp only [Iw,extC]at hcall
      cases y with
      | d f0 y=>
       cases y with
       | int k x=>
        by_cases hk:IntKind.u64=k
        ·subst hk;exact⟨f0,x,rfl⟩
        ·simp [hk]at hcall
       | _=>simp at hcall
      | _=>simp at hcall
     | _=>simp [Iw]at hcall
  obtain⟨f0,x,rfl⟩:=hq
  rw [key f0 x rfl]at hcall
  simp only [Option.some.injEq]at hcall
  subst hcall
  simp only [Option.some.injEq,Prod.mk.injEq]at hvk
  obtain⟨rfl,rfl⟩:=hvk
  have hpre:=abP _ (List.mem_singleton.2 rfl)
  have hv:vs=[.int .u64 x]:=by
   cases hargs with
   | cons h1 h2=>
    cases h2
    cases qA with
    | cons h3 h4=>
     cases h4
     cases h1 with
     | one h1=>
      cases h1 with
      | c h1=>
       cases h1 with
       | d h5 _=>
        subst h5
        cases h3 with
        | c _ _ h6=>cases h6 with
         | d _ _ _ h7=>cases h7;rfl
      | agg h1=>cases h1
  subst hv
  refine(h x w hpre).mono ?_
  rintro e w' ⟨rfl,rfl⟩
  refine⟨c1,.c (.d true (.int .i64 (g x))),hh,0,.refl _ _ _,Hh,hcn,.c _ _ (.d _ _ _ (.int _ _)),hK _ _ _ ?_ HR (.refl _ _ _) hlen⟩
  rw [←hg]
  exact .one (.c (.d rfl fun _=> .inl rfl))
end Go.TX.Seat
namespace Go.TX.F
open Go Go.AE Go.TX Go.TX.Seat Go.Proofs
set_option maxRecDepth 100000
def nP:=mk Tryz.func78 hlN (agl (std 0))
noncomputable def bK:=nP.c
def uV:=fun n b p hb h1 h2=>(nP.cs (ZY n b p hb h1 h2)).1
def uW:=fun n b p hb h1 h2=>(nP.cs (ZY n b p hb h1 h2)).2
def Si:=mk Tryz.func91 (hlC nP.ok hlN) (agm (std 0) bK)
noncomputable def Gu:=Si.c
def qF:=fun n b p hb h1 h2=>Si.cs (ahS uV uW n b p hb h1 h2)
def aiC:=fun n b p hb h1 h2=>(qF n b p hb h1 h2).1
def aiD:=fun n b p hb h1 h2=>(qF n b p hb h1 h2).2
def pV:=mk Tryz.func61 hlN (agn (std 0))
noncomputable def bS:=pV.c
def uX:=fun a b c=>(pV.cs (ZO a b c)).1
def uY:=fun a b c=>(pV.cs (ZO a b c)).2
def AO:=mk Tryz.func115 hlN (agp (std 0))
noncomputable def je:=AO.c
def Sj:=fun a=>(AO.cs (ZP a)).1
def Sk:=fun a=>(AO.cs (ZP a)).2
def Sl:=mk Tryz.func156 (hlC pV.ok hlN) (agq (std 0) bS)
noncomputable def F3:=Sl.c
def uZ:=fun k=>Sl.cs (ahY uX uY k)
def aiE:=fun k=>(uZ k).1
def aiF:=fun k=>(uZ k).2
def KO:=mk Tryz.func116 (hlC Sl.ok hlN) (agr (std 0) F3)
noncomputable def pE:=KO.c
def zJ:=fun ops x n h1=>KO.cs (ahZ aiE aiF ops x n h1)
def aau:=fun ops x n h1=>(zJ ops x n h1).1
def aav:=fun ops x n h1=>(zJ ops x n h1).2
def Sn:=mk Tryz.func62 (hlC AO.ok (hlC pV.ok (hlC KO.ok hlN))) (ags (std 0) je bS pE)
noncomputable def F5:=Sn.c
def BR:=fun ops i len h0 h1 h3=>Sn.cs (ah0 Sj Sk uX uY aau aav ops i len h0 h1 h3)
def aiG:=fun ops i len h0 h1 h3=>(BR ops i len h0 h1 h3).1
def aiH:=fun ops i len h0 h1 h3=>(BR ops i len h0 h1 h3).2
def Sq:=mk Tryz.func63 (hlC AO.ok (hlC KO.ok hlN)) (agt (std 0) je pE)
noncomputable def F4:=Sq.c
def zK:=fun b=>Sq.cs (ah1 Sj Sk aau aav b)
def aiI:=fun b=>(zK b).1
def aiJ:=fun b=>(zK b).2
def u7:=mk Tryz.func19 (hlC pV.ok (hlC Sq.ok (hlC Sn.ok hlN))) (agu (std 0) bS F4 F5)
noncomputable def dz:=u7.c
def BS:=fun b h2=>u7.cs (ah2 uX uY aiI aiJ aiG aiH b h2)
def AP:=fun b h2=>(BS b h2).1
def AQ:=fun b h2=>(BS b h2).2
def AU:=mk Tryz.func59 hlN (agv (std 0))
noncomputable def jf:=AU.c
def Sr:=fun b hb=>(AU.cs (aaj b hb)).1
def Sv:=fun b hb=>(AU.cs (aaj b hb)).2
def Ib:=mk Tryz.func60 (hlC pV.ok hlN) (agw (std 0) bS)
noncomputable def pF:=Ib.c
def aaw:=fun o al hk hx hy=>(Ib.cs (aam uX uY o al hk hx hy)).1
def aax:=fun o al hk hx hy=>(Ib.cs (aam uX uY o al hk hx hy)).2
def Ic:=mk Tryz.func18 (hlC u7.ok (hlC Ib.ok (hlC AU.ok hlN))) (agx (std 0) dz pF jf)
noncomputable def jg:=Ic.c
def vg:=fun b hb=>Ic.cs (aiu AP AQ aaw aax Sr Sv b hb)
def Sw:=fun b hb=>(vg b hb).1
def Sy:=fun b hb=>(vg b hb).2
def KQ:=mk Tryz.func130 (hlC Ib.ok hlN) (agy (std 0) pF)
noncomputable def pG:=KQ.c
def vk:=fun b kp ok hk=>KQ.cs (aiq aaw aax b kp ok hk)
def aay:=fun b kp ok hk=>(vk b kp ok hk).1
def aaz:=fun b kp ok hk=>(vk b kp ok hk).2
def Sz:=mk Tryz.func131 (hlC u7.ok (hlC pV.ok hlN)) (agz (std 0) dz bS)
noncomputable def F6:=Sz.c
def vo:=fun b hb=>Sz.cs (aip AP AQ uX uY b hb)
def aiK:=fun b hb=>(vo b hb).1
def aiL:=fun b hb=>(vo b hb).2
def SA:=mk Tryz.func70 (hlC u7.ok (hlC Sz.ok (hlC KQ.ok hlN))) (agA (std 0) dz F6 pG)
noncomputable def Gd:=SA.c
def vw:=fun b hb=>SA.cs (air AP AQ aiK aiL aay aaz b hb)
def aiM:=fun b hb=>(vw b hb).1
def aiN:=fun b hb=>(vw b hb).2
def KR:=mk Tryz.func132 hlN (agB (std 0))
noncomputable def F7:=KR.c
def aiO:=fun ops k h0 h1 h2=>(KR.cs (aan ops k h0 h1 h2)).1
def aiP:=fun ops k h0 h1 h2=>(KR.cs (aan ops k h0 h1 h2)).2
def SB:=mk Tryz.func71 (hlC u7.ok (hlC KQ.ok (hlC KR.ok hlN))) (agC (std 0) dz pG F7)
noncomputable def Gf:=SB.c
def vB:=fun b hb=>SB.cs (ais AP AQ aay aaz aiO aiP b hb)
def aiQ:=fun b hb=>(vB b hb).1
def aiR:=fun b hb=>(vB b hb).2
def Ie:=mk Tryz.func133 hlN (agD (std 0))
noncomputable def pI:=Ie.c
def aaA:=fun ops k=>(Ie.cs (aak ops k)).1
def aaB:=fun ops k=>(Ie.cs (aak ops k)).2
def KS:=mk Tryz.func169 hlN (agE (std 0))
noncomputable def F8:=KS.c
def aiS:=fun a=>(KS.cs (ZR a)).1
def aiT:=fun a=>(KS.cs (ZR a)).2
def SE:=mk Tryz.func134 (hlC KS.ok (hlC AO.ok hlN)) (agF (std 0) F8 je)
noncomputable def Ga:=SE.c
def zL:=fun op a b=>SE.cs (ahQ Sj Sk aiS aiT op a b)
def aiU:=fun op a b=>(zL op a b).1
def aiV:=fun op a b=>(zL op a b).2
def KT:=mk Tryz.func170 hlN (agG (std 0))
noncomputable def F9:=KT.c
def aiW:=fun b k=>(KT.cs (aal b k)).1
def aiX:=fun b k=>(KT.cs (aal b k)).2
def SF:=mk Tryz.func135 (hlC KT.ok (hlC Ie.ok hlN)) (agH (std 0) F9 pI)
noncomputable def Gb:=SF.c
def vC:=fun b h=>SF.cs (ail aiW aiX aaA aaB b h)
def aiY:=fun b h=>(vC b h).1
def aiZ:=fun b h=>(vC b h).2
def SG:=mk Tryz.func72 (hlC u7.ok (hlC SE.ok (hlC SF.ok (hlC Ie.ok (hlC AU.ok hlN))))) (agI (std 0) dz Ga Gb pI jf)
noncomputable def Gc:=SG.c
def r9:=fun b hb=>SG.cs (aio AP AQ aiU aiV aiY aiZ aaA aaB Sr Sv b hb)
def ai0:=fun b hb=>(r9 b hb).1
def ai1:=fun b hb=>(r9 b hb).2
def SH:=mk Tryz.func25 (hlC SG.ok (hlC Ic.ok (hlC SA.ok (hlC SB.ok hlN)))) (agJ (std 0) Gc jg Gd Gf)
noncomputable def Gs:=SH.c
def xM:=fun b hb=>SH.cs (ain ai0 ai1 Sw Sy aiM aiN aiQ aiR b hb)
def ai2:=fun b hb=>(xM b hb).1
def ai3:=fun b hb=>(xM b hb).2
def SK:=mk Tryz.func179 (hlC nP.ok hlN) (agK (std 0) bK)
noncomputable def Gh:=SK.c
def xO:=fun b p hb h1 h2=>SK.cs (aii uV uW b p hb h1 h2)
def ai4:=fun b p hb h1 h2=>(xO b p hb h1 h2).1
def ai5:=fun b p hb h1 h2=>(xO b p hb h1 h2).2
def SL:=mk Tryz.func237 hlN (agL (std 0))
noncomputable def Gg:=SL.c
def ai6:=fun i=>(SL.cs (ah4 i)).1
def KU:=mk Tryz.func181 (hlC pV.ok (hlC SL.ok hlN)) (agM (std 0) bS Gg)
noncomputable def pK:=KU.c
def KV:=fun i=>KU.cs (ah5 uX uY ai6 i)
def aaC:=fun i=>(KV i).1
def KW:=mk Tryz.func182 hlN (agN (std 0))
noncomputable def pJ:=KW.c
def aaD:=fun i=>(KW.cs (ah6 i)).1
def KY:=mk Tryz.func180 (hlC KW.ok (hlC KU.ok hlN)) (agO (std 0) pJ pK)
noncomputable def pO:=KY.c
def Ig:=fun i=>KY.cs (ah7 aaD aaC i)
def aaE:=fun i=>(Ig i).1
def SN:=mk Tryz.func143 (hlC SK.ok (hlC nP.ok (hlC KY.ok hlN))) (agP (std 0) Gh bK pO)
noncomputable def Gi:=SN.c
def vD:=fun b p hb h1 h2=>SN.cs (aij ai4 ai5 uV uW aaE b p hb h1 h2)
def ai7:=fun b p hb h1 h2=>(vD b p hb h1 h2).1
def ai8:=fun b p hb h1 h2=>(vD b p hb h1 h2).2
def SQ:=mk Tryz.func92 (hlC SN.ok (hlC nP.ok hlN)) (agQ (std 0) Gi bK)
noncomputable def Gt:=SQ.c
def vE:=fun b p hb h1 h2=>SQ.cs (aik ai7 ai8 uV uW b p hb h1 h2)
def ai9:=fun b p hb h1 h2=>(vE b p hb h1 h2).1
def aja:=fun b p hb h1 h2=>(vE b p hb h1 h2).2
def SX:=mk Tryz.func145 (hlC KW.ok (hlC KU.ok (hlC pV.ok (hlC KY.ok hlN)))) (agR (std 0) pJ pK bS pO)
noncomputable def Gp:=SX.c
def KZ:=fun pc l hl=>SX.cs (ah8 aaD aaC uX uY aaE pc l hl)
def ajb:=fun pc l hl=>(KZ pc l hl).1
def vF:=mk Tryz.func183 hlN (agS (std 0))
noncomputable def eY:=vF.c
def yN:=fun a1 a2 a3 a4 a5 a6 o ops hl=>(vF.cs (aaf a1 a2 a3 a4 a5 a6 o ops hl)).1
def yO:=fun a1 a2 a3 a4 a5 a6 o ops hl=>(vF.cs (aaf a1 a2 a3 a4 a5 a6 o ops hl)).2
def Ih:=mk Tryz.func184 (hlC vF.ok hlN) (agT (std 0) eY)
noncomputable def pR:=Ih.c
def aaF:=fun a1 a2 a3 a4 a5 a6 k x ops hl=>(Ih.cs (aah yN yO a1 a2 a3 a4 a5 a6 k x ops hl)).1
def aaG:=fun a1 a2 a3 a4 a5 a6 k x ops hl=>(Ih.cs (aah yN yO a1 a2 a3 a4 a5 a6 k x ops hl)).2
def yP:=mk Tryz.func185 (hlC vF.ok hlN) (agU (std 0) eY)
noncomputable def gK:=yP.c
def Ii:=fun a1 a2 a3 a4 a5 a6 k ops hl=>(yP.cs (aag yN yO a1 a2 a3 a4 a5 a6 k ops hl)).1
def Ij:=fun a1 a2 a3 a4 a5 a6 k ops hl=>(yP.cs (aag yN yO a1 a2 a3 a4 a5 a6 k ops hl)).2
def K4:=mk Tryz.func186 (hlC yP.ok (hlC vF.ok hlN)) (agV (std 0) gK eY)
noncomputable def pQ:=K4.c
def su:=fun a1 a2 a3 a4 a5 a6 k a o ops hl=>K4.cs (ah9 Ii Ij yN yO a1 a2 a3 a4 a5 a6 k a o ops hl)
def aaH:=fun a1 a2 a3 a4 a5 a6 k a o ops hl=>(su a1 a2 a3 a4 a5 a6 k a o ops hl).1
def aaI:=fun a1 a2 a3 a4 a5 a6 k a o ops hl=>(su a1 a2 a3 a4 a5 a6 k a o ops hl).2
def SY:=mk Tryz.func187 hlN (agW (std 0))
noncomputable def Gn:=SY.c
def ajc:=fun k hk=>(SY.cs (aib k hk)).1
def S9:=mk Tryz.func188 (hlC yP.ok (hlC vF.ok (hlC K4.ok (hlC Ih.ok hlN)))) (agX (std 0) gK eY pQ pR)
noncomputable def Gm:=S9.c
def vG:=fun a1 a2 a3 a4 a5 a6 i k ops hl=>S9.cs (aia Ii Ij yN yO aaH aaI aaF aaG a1 a2 a3 a4 a5 a6 i k ops hl)
def ajd:=fun a1 a2 a3 a4 a5 a6 i k ops hl=>(vG a1 a2 a3 a4 a5 a6 i k ops hl).1
def aje:=fun a1 a2 a3 a4 a5 a6 i k ops hl=>(vG a1 a2 a3 a4 a5 a6 i k ops hl).2
def K6:=mk Tryz.func189 (hlC yP.ok hlN) (agY (std 0) gK)
noncomputable def Gj:=K6.c
def ajf:=fun a1 a2 a3 a4 a5 a6 i ops hl=>(K6.cs (aai Ii Ij a1 a2 a3 a4 a5 a6 i ops hl)).1
def ajg:=fun a1 a2 a3 a4 a5 a6 i ops hl=>(K6.cs (aai Ii Ij a1 a2 a3 a4 a5 a6 i ops hl)).2
def Ta:=mk Tryz.func146 (hlC yP.ok (hlC K6.ok (hlC vF.ok (hlC S9.ok (hlC K4.ok (hlC Ih.ok (hlC SY.ok hlN))))))) (agZ (std 0) gK Gj eY Gm pQ pR Gn)
noncomputable def Gq:=Ta.c
def zN:=fun a1 a2 a3 a4 a5 a6 i k ops hk hl=>Ta.cs (aic Ii Ij ajf ajg yN yO ajd aje aaH aaI aaF aaG ajc a1 a2 a3 a4 a5 a6 i k ops hk hl)
def ajh:=fun a1 a2 a3 a4 a5 a6 i k ops hk hl=>(zN a1 a2 a3 a4 a5 a6 i k ops hk hl).1
def aji:=fun a1 a2 a3 a4 a5 a6 i k ops hk hl=>(zN a1 a2 a3 a4 a5 a6 i k ops hk hl).2
def Tc:=mk Tryz.func94 (hlC SX.ok (hlC Ta.ok hlN)) (ag0 (std 0) Gp Gq)
noncomputable def Gr:=Tc.c
def sw:=fun pc l hl hk=>Tc.cs (aie ajb ajh aji pc l hl hk)
def ajj:=fun pc l hl hk=>(sw pc l hl hk).1
def ajk:=fun pc l hl hk=>(sw pc l hl hk).2
def Td:=mk Tryz.func111 (hlC Tc.ok (hlC SH.ok (hlC Ic.ok (hlC nP.ok (hlC SQ.ok hlN))))) (ag1 (std 0) Gr Gs jg bK Gt)
noncomputable def Gx:=Td.c
def sD:=fun b p hb h1 h2=>Td.cs (aiv ajj ajk ai2 ai3 Sw Sy uV uW ai9 aja b p hb h1 h2)
def ajl:=fun b p hb h1 h2=>(sD b p hb h1 h2).1
def ajm:=fun b p hb h1 h2=>(sD b p hb h1 h2).2
end Go.TX.F
namespace Go.TX.F
open Go Go.AE Go.TX Go.TX.Seat Go.Proofs
set_option maxRecDepth 100000
def Te:=mk Tryz.func112 (hlC nP.ok (hlC AU.ok hlN)) (ag2 (std 0) bK jf)
noncomputable def Gw:=Te.c
def vH:=fun c b p hc hb h1 h2=>Te.cs (aiw uV uW Sr Sv c b p hc hb h1 h2)
def ajn:=fun c b p hc hb h1 h2=>(vH c b p hc hb h1 h2).1
def ajo:=fun c b p hc hb h1 h2=>(vH c b p hc hb h1 h2).2
def Tf:=mk Tryz.func55 (hlC Si.ok (hlC nP.ok (hlC Te.ok (hlC Td.ok hlN)))) (ag3 (std 0) Gu bK Gw Gx)
noncomputable def G9:=Tf.c
def oH:=fun n b p hb h1 h2=>Tf.cs (aix aiC aiD uV uW ajn ajo ajl ajm n b p hb h1 h2)
def ajp:=fun n b p hb h1 h2=>(oH n b p hb h1 h2).1
def ajq:=fun n b p hb h1 h2=>(oH n b p hb h1 h2).2
def K7:=mk Tryz.func56 hlN (ag4 (std 0))
noncomputable def G8:=K7.c
def ajr:=fun b hb hl=>(K7.cs (ZX b hb hl)).1
def ajs:=fun b hb hl=>(K7.cs (ZX b hb hl)).2
def kX:=mk Tryz.func73 hlN (amA (std 0))
noncomputable def aU:=kX.c
def kY:=fun a b c=>(kX.cs (acZ a b c)).1
def kZ:=fun a b c=>(kX.cs (acZ a b c)).2
def zO:=mk Tryz.func64 (hlC kX.ok hlN) (amB (std 0) aU)
noncomputable def fO:=zO.c
def Jz:=fun a=>(zO.cs (ac0 kY kZ a)).1
def JA:=fun a=>(zO.cs (ac0 kY kZ a)).2
def JB:=mk Tryz.func113 (hlC kX.ok hlN) (amC (std 0) aU)
noncomputable def jw:=JB.c
def sF:=fun o=>JB.cs (aoo kY kZ o)
def UY:=fun o=>(sF o).1
def UZ:=fun o=>(sF o).2
def OM:=mk Tryz.func136 (hlC kX.ok hlN) (amD (std 0) aU)
noncomputable def wW:=OM.c
def adg:=fun a=>(OM.cs (ac2 kY kZ a)).1
def adh:=fun a=>(OM.cs (ac2 kY kZ a)).2
def OO:=mk Tryz.func137 (hlC kX.ok hlN) (amE (std 0) aU)
noncomputable def wV:=OO.c
def adi:=fun a=>(OO.cs (ac1 kY kZ a)).1
def adk:=fun a=>(OO.cs (ac1 kY kZ a)).2
def aaJ:=mk Tryz.func171 (hlC kX.ok hlN) (amF (std 0) aU)
noncomputable def ND:=aaJ.c
def lg:=fun o=>aaJ.cs (aop kY kZ o)
def aoW:=fun o=>(lg o).1
def aoX:=fun o=>(lg o).2
def U0:=mk Tryz.func138 (hlC aaJ.ok (hlC kX.ok hlN)) (amG (std 0) ND aU)
noncomputable def wU:=U0.c
def lu:=fun b x n h0 h1 h2=>U0.cs (aor aoW aoX kY kZ b x n h0 h1 h2)
def adl:=fun b x n h0 h1 h2=>(lu b x n h0 h1 h2).1
def adn:=fun b x n h0 h1 h2=>(lu b x n h0 h1 h2).2
def aaK:=mk Tryz.func74 (hlC U0.ok (hlC JB.ok (hlC zO.ok (hlC kX.ok (hlC OO.ok (hlC OM.ok hlN)))))) (amH (std 0) wU jw fO aU wV wW)
noncomputable def NH:=aaK.c
def lQ:=fun b i h0 h1 h2 h3=>aaK.cs (aos adl adn UY UZ Jz JA kY kZ adi adk adg adh b i h0 h1 h2 h3)
def aoY:=fun b i h0 h1 h2 h3=>(lQ b i h0 h1 h2 h3).1
def aoZ:=fun b i h0 h1 h2 h3=>(lQ b i h0 h1 h2 h3).2
def Ik:=mk Tryz.func114 hlN (amI (std 0))
noncomputable def jy:=Ik.c
def U1:=fun b=>(Ik.cs (adb b)).1
def U2:=fun b=>(Ik.cs (adb b)).2
def aaL:=mk Tryz.func75 (hlC Ik.ok (hlC U0.ok (hlC zO.ok (hlC kX.ok hlN)))) (amJ (std 0) jy wU fO aU)
noncomputable def NG:=aaL.c
def lC:=fun b h2=>aaL.cs (aot U1 U2 adl adn Jz JA kY kZ b h2)
def ao0:=fun b h2=>(lC b h2).1
def ao1:=fun b h2=>(lC b h2).2
def BU:=mk Tryz.func26 (hlC aaL.ok (hlC aaK.ok (hlC kX.ok hlN))) (amK (std 0) NG NH aU)
noncomputable def fP:=BU.c
def BX:=fun b h2=>BU.cs (aou ao0 ao1 aoY aoZ kY kZ b h2)
def JC:=fun b h2=>(BX b h2).1
def JD:=fun b h2=>(BX b h2).2
def OP:=mk Tryz.func57 hlN (amL (std 0))
noncomputable def wX:=OP.c
def ado:=fun b hb=>(OP.cs (ade b hb)).1
def adp:=fun b hb=>(OP.cs (ade b hb)).2
def U3:=mk Tryz.func58 (hlC Ik.ok (hlC JB.ok hlN)) (amM (std 0) jy jw)
noncomputable def wY:=U3.c
def jT:=fun nm pc len fin x y k ops h=>U3.cs (aoO U1 U2 UY UZ nm pc len fin x y k ops h)
def adq:=fun nm pc len fin x y k ops h=>(jT nm pc len fin x y k ops h).1
def adr:=fun nm pc len fin x y k ops h=>(jT nm pc len fin x y k ops h).2
def aaM:=mk Tryz.func16 (hlC OP.ok (hlC U3.ok (hlC BU.ok hlN))) (amN (std 0) wX wY fP)
noncomputable def Oo:=aaM.c
def vI:=fun b hb=>aaM.cs (aoR ado adp adq adr JC JD b hb)
def ao2:=fun b hb=>(vI b hb).1
def ao3:=fun b hb=>(vI b hb).2
def aaN:=mk Tryz.func20 (hlC zO.ok hlN) (amO (std 0) fO)
noncomputable def Ov:=aaN.c
def BZ:=aaN.cs (aoi Jz JA)
def ao4:=(BZ).1
def ao5:=(BZ).2
def aaO:=mk Tryz.func65 (hlC Ik.ok (hlC JB.ok hlN)) (amP (std 0) jy jw)
noncomputable def Oi:=aaO.c
def lS:=fun b ok=>aaO.cs (aoS U1 U2 UY UZ b ok)
def ao6:=fun b ok=>(lS b ok).1
def ao7:=fun b ok=>(lS b ok).2
def K8:=mk Tryz.func117 hlN (ag5 (std 0))
noncomputable def Gy:=K8.c
def ajt:=fun a b ha=>(K8.cs (aaq a b ha)).1
def aju:=fun a b ha=>(K8.cs (aaq a b ha)).2
def aaP:=mk Tryz.func66 (hlC K8.ok hlN) (amQ (std 0) Gy)
noncomputable def Od:=aaP.c
def xP:=fun a b ha=>aaP.cs (aoI ajt aju a b ha)
def ao8:=fun a b ha=>(xP a b ha).1
def ao9:=fun a b ha=>(xP a b ha).2
def U4:=mk Tryz.func252 hlN (amR (std 0))
noncomputable def NI:=U4.c
def apa:=fun a n=>(U4.cs (ac3 a n)).1
def apb:=fun a n=>(U4.cs (ac3 a n)).2
def Tg:=mk Tryz.func275 (hlC U4.ok hlN) (ag6 (std 0) NI)
noncomputable def Gz:=Tg.c
def iI:=fun a n ha=>Tg.cs (ahE apa apb a n ha)
def ajv:=fun a n ha=>(iI a n ha).1
def ajw:=fun a n ha=>(iI a n ha).2
def Ti:=mk Tryz.func251 (hlC Tg.ok hlN) (ag7 (std 0) Gz)
noncomputable def GA:=Ti.c
def gP:=fun a n ha=>Ti.cs (ahF ajv ajw a n ha)
def ajx:=fun a n ha=>(gP a n ha).1
def ajy:=fun a n ha=>(gP a n ha).2
def U5:=mk Tryz.func210 (hlC Ti.ok hlN) (amS (std 0) GA)
noncomputable def wZ:=U5.c
def sG:=fun a n ha=>U5.cs (anS ajx ajy a n ha)
def ads:=fun a n ha=>(sG a n ha).1
def adt:=fun a n ha=>(sG a n ha).2
def aaQ:=mk Tryz.func257 hlN (arw (std 0))
noncomputable def Iy:=aaQ.c
def apc:=fun a=>(aaQ.cs (anO a)).1
def apd:=fun a=>(aaQ.cs (anO a)).2
def aaR:=mk Tryz.func217 (hlC aaQ.ok hlN) (arx (std 0) Iy)
noncomputable def yJ:=aaR.c
def oI:=fun a b=>aaR.cs (arC apc apd a b)
def ajz:=fun a b=>(oI a b).1
def ajA:=fun a b=>(oI a b).2
def aaS:=mk Tryz.func218 hlN (arz (std 0))
noncomputable def Iz:=aaS.c
def ape:=fun a b=>(aaS.cs (anP a b)).1
def apf:=fun a b=>(aaS.cs (anP a b)).2
def aaT:=mk Tryz.func258 (hlC aaR.ok hlN) (amT (std 0) yJ)
noncomputable def NJ:=aaT.c
def iU:=fun a b ha=>aaT.cs (anQ ajz ajA a b ha)
def apg:=fun a b ha=>(iU a b ha).1
def aph:=fun a b ha=>(iU a b ha).2
def JE:=mk Tryz.func219 (hlC aaS.ok (hlC aaR.ok (hlC aaT.ok hlN))) (amU (std 0) Iz yJ NJ)
noncomputable def jA:=JE.c
def oJ:=fun a b ha=>JE.cs (anR ajz ajA apg aph ape apf a b ha)
def U6:=fun a b ha=>(oJ a b ha).1
def U7:=fun a b ha=>(oJ a b ha).2
def aaU:=mk Tryz.func259 (hlC aaQ.ok hlN) (arA (std 0) Iy)
noncomputable def yK:=aaU.c
def vJ:=fun a b=>aaU.cs (arD apc apd a b)
def apj:=fun a b=>(vJ a b).1
def apk:=fun a b=>(vJ a b).2
def Tj:=mk Tryz.func221 (hlC aaU.ok hlN) (ag8 (std 0) yK)
noncomputable def GH:=Tj.c
def iQ:=fun a ha=>Tj.cs (ahD apj apk a ha)
def ajB:=fun a ha=>(iQ a ha).1
def ajC:=fun a ha=>(iQ a ha).2
def U8:=mk Tryz.func223 hlN (amV (std 0))
noncomputable def NK:=U8.c
def apl:=fun m=>(U8.cs (ac4 m)).1
def apm:=fun m=>(U8.cs (ac4 m)).2
def Tk:=mk Tryz.func260 (hlC U8.ok hlN) (ag9 (std 0) NK)
noncomputable def GD:=Tk.c
def dh:=fun a ha=>Tk.cs (ahG (G:=(fun m:aj=>0<m.atoms.length∧m.atoms.getD 0 default<0)) apl apm a ha)
def ajD:=fun a ha=>(dh a ha).1
def ajE:=fun a ha=>(dh a ha).2
def Tm:=mk Tryz.func222 (hlC Tk.ok hlN) (aha (std 0) GD)
noncomputable def GI:=Tm.c
def cu:=fun a ha=>Tm.cs (ahH (G:=(fun m:aj=>0<m.atoms.length∧m.atoms.getD 0 default<0)) ajD ajE a ha)
def ajF:=fun a ha=>(cu a ha).1
def ajG:=fun a ha=>(cu a ha).2
def zP:=mk Tryz.func164 (hlC kX.ok (hlC U5.ok (hlC Tj.ok (hlC JE.ok (hlC Tm.ok hlN))))) (amW (std 0) aU wZ GH jA GI)
noncomputable def d9:=zP.c
def zQ:=fun a ha=>zP.cs (anT kY kZ ads adt ajB ajC U6 U7 ajF ajG a ha)
def Il:=fun a ha=>(zQ a ha).1
def Im:=fun a ha=>(zQ a ha).2
end Go.TX.F
namespace Go.TX.F
open Go Go.AE Go.TX Go.TX.Seat Go.Proofs
set_option maxRecDepth 100000
def U9:=mk Tryz.func158 (hlC kX.ok (hlC OO.ok (hlC U5.ok (hlC zP.ok (hlC OM.ok hlN))))) (amX (std 0) aU wV wZ d9 wW)
noncomputable def w9:=U9.c
def jO:=fun a n ha=>U9.cs (an7 kY kZ adi adk ads adt Il Im adg adh a n ha)
def adu:=fun a n ha=>(jO a n ha).1
def adw:=fun a n ha=>(jO a n ha).2
def OQ:=mk Tryz.func161 (hlC aaS.ok (hlC aaR.ok (hlC JE.ok hlN))) (amY (std 0) Iz yJ jA)
noncomputable def nD:=OQ.c
def sH:=fun a b ha=>OQ.cs (anU ape apf ajz ajA U6 U7 a b ha)
def aaV:=fun a b ha=>(sH a b ha).1
def aaW:=fun a b ha=>(sH a b ha).2
def Ca:=mk Tryz.func128 (hlC OQ.ok hlN) (amZ (std 0) nD)
noncomputable def fQ:=Ca.c
def lT:=fun a b ha=>Ca.cs (anV aaV aaW a b ha)
def JF:=fun a b ha=>(lT a b ha).1
def JG:=fun a b ha=>(lT a b ha).2
def aaX:=mk Tryz.func213 (hlC Ca.ok hlN) (am0 (std 0) fQ)
noncomputable def NP:=aaX.c
def lU:=fun a b ha=>aaX.cs (an4 JF JG a b ha)
def apn:=fun a b ha=>(lU a b ha).1
def apo:=fun a b ha=>(lU a b ha).2
def aaY:=mk Tryz.func212 (hlC aaX.ok hlN) (am1 (std 0) NP)
noncomputable def NQ:=aaY.c
def lD:=fun a b hb=>aaY.cs (an5 apn apo a b hb)
def apq:=fun a b hb=>(lD a b hb).1
def apr:=fun a b hb=>(lD a b hb).2
def Tn:=mk Tryz.func211 (hlC aaY.ok hlN) (ahb (std 0) NQ)
noncomputable def GJ:=Tn.c
def dw:=fun a b ha hb=>Tn.cs (ahI apq apr a b ha hb)
def ajH:=fun a b ha hb=>(dw a b ha hb).1
def ajI:=fun a b ha hb=>(dw a b ha hb).2
def Va:=mk Tryz.func159 (hlC Tn.ok hlN) (am2 (std 0) GJ)
noncomputable def xg:=Va.c
def nQ:=fun a b ha hb=>Va.cs (an6 ajH ajI a b ha hb)
def adx:=fun a b ha hb=>(nQ a b ha hb).1
def ady:=fun a b ha hb=>(nQ a b ha hb).2
def aaZ:=mk Tryz.func220 hlN (am3 (std 0))
noncomputable def NR:=aaZ.c
def dS:=fun a=>aaZ.cs (an3 a)
def aps:=fun a=>(dS a).1
def apt:=fun a=>(dS a).2
def Vb:=mk Tryz.func162 (hlC U9.ok (hlC Va.ok (hlC aaZ.ok hlN))) (am4 (std 0) w9 xg NR)
noncomputable def xq:=Vb.c
def oK:=fun t a ht ha=>Vb.cs (an9 adu adw adx ady aps apt t a ht ha)
def adz:=fun t a ht ha=>(oK t a ht ha).1
def adA:=fun t a ht ha=>(oK t a ht ha).2
def Vd:=mk Tryz.func163 (hlC kX.ok hlN) (am5 (std 0) aU)
noncomputable def xk:=Vd.c
def vK:=fun a=>Vd.cs (anY kY kZ a)
def adB:=fun a=>(vK a).1
def adC:=fun a=>(vK a).2
def Ve:=mk Tryz.func124 (hlC Vd.ok (hlC Vb.ok hlN)) (am6 (std 0) xk xq)
noncomputable def xu:=Ve.c
def qG:=fun kd k t fl ht=>Ve.cs (aoy adB adC adz adA kd k t fl ht)
def adD:=fun kd k t fl ht=>(qG kd k t fl ht).1
def adE:=fun kd k t fl ht=>(qG kd k t fl ht).2
def Vf:=mk Tryz.func118 (hlC Ve.ok hlN) (am7 (std 0) xu)
noncomputable def xB:=Vf.c
def oL:=fun t fl ht hl=>Vf.cs (aoz adD adE t fl ht hl)
def adF:=fun t fl ht hl=>(oL t fl ht hl).1
def adG:=fun t fl ht hl=>(oL t fl ht hl).2
def OT:=mk Tryz.func190 hlN (am8 (std 0))
noncomputable def xw:=OT.c
def adH:=fun a ha=>(OT.cs (ac6 a ha)).1
def adI:=fun a ha=>(OT.cs (ac6 a ha)).2
def OU:=mk Tryz.func157 (hlC OT.ok hlN) (am9 (std 0) xw)
noncomputable def nG:=OU.c
def lF:=fun a ha=>OU.cs (an0 adH adI a ha)
def aa0:=fun a ha=>(lF a ha).1
def aa1:=fun a ha=>(lF a ha).2
def Vg:=mk Tryz.func119 (hlC OU.ok hlN) (ana (std 0) nG)
noncomputable def xA:=Vg.c
def lV:=fun a ha=>Vg.cs (an1 aa0 aa1 a ha)
def adJ:=fun a ha=>(lV a ha).1
def adK:=fun a ha=>(lV a ha).2
def aa2:=mk Tryz.func67 (hlC Vg.ok (hlC Vf.ok hlN)) (anb (std 0) xA xB)
noncomputable def Oe:=aa2.c
def xQ:=aa2.cs (aoB adJ adK adF adG)
def apu:=(xQ).1
def apv:=(xQ).2
def aa3:=mk Tryz.func76 (hlC kX.ok hlN) (ane (std 0) aU)
noncomputable def NZ:=aa3.c
def oM:=fun o=>aa3.cs (aoq kY kZ o)
def apw:=fun o=>(oM o).1
def apx:=fun o=>(oM o).2
def aa4:=mk Tryz.func120 (hlC U9.ok (hlC Va.ok hlN)) (anf (std 0) w9 xg)
noncomputable def N8:=aa4.c
def zR:=fun a ha=>aa4.cs (an8 adu adw adx ady a ha)
def apy:=fun a ha=>(zR a ha).1
def apz:=fun a ha=>(zR a ha).2
def aa5:=mk Tryz.func121 hlN (ang (std 0))
noncomputable def Oa:=aa5.c
def dO:=fun a h0 h1=>aa5.cs (aoA a h0 h1)
def apA:=fun a h0 h1=>(dO a h0 h1).1
def apB:=fun a h0 h1=>(dO a h0 h1).2
def OV:=mk Tryz.func122 (hlC kX.ok hlN) (anh (std 0) aU)
noncomputable def nI:=OV.c
def sI:=fun a=>OV.cs (anX kY kZ a)
def aa6:=fun a=>(sI a).1
def aa7:=fun a=>(sI a).2
def JH:=mk Tryz.func141 hlN (ani (std 0))
noncomputable def nH:=JH.c
def aa8:=fun a=>(JH.cs (ac5 a)).1
def aa9:=fun a=>(JH.cs (ac5 a)).2
def Vh:=mk Tryz.func86 (hlC zO.ok (hlC JH.ok hlN)) (anj (std 0) fO nH)
noncomputable def xE:=Vh.c
def zS:=fun op a b=>Vh.cs (anW Jz JA aa8 aa9 op a b)
def adL:=fun op a b=>(zS op a b).1
def adM:=fun op a b=>(zS op a b).2
def Vi:=mk Tryz.func166 (hlC zP.ok hlN) (ank (std 0) d9)
noncomputable def xG:=Vi.c
def xR:=fun a ha=>Vi.cs (anZ Il Im a ha)
def adN:=fun a ha=>(xR a ha).1
def adO:=fun a ha=>(xR a ha).2
def Vj:=mk Tryz.func277 (hlC JE.ok hlN) (anl (std 0) jA)
noncomputable def oF:=Vj.c
def zT:=fun a b ha=>Vj.cs (an2 U6 U7 a b ha)
def adP:=fun a b ha=>(zT a b ha).1
def adQ:=fun a b ha=>(zT a b ha).2
def Tp:=mk Tryz.func309 (hlC Vj.ok hlN) (ahc (std 0) oF)
noncomputable def GL:=Tp.c
def dD:=fun a b d hd h1 h2 h3=>Tp.cs (ahK adP adQ a b d hd h1 h2 h3)
def ajJ:=fun a b d hd h1 h2 h3=>(dD a b d hd h1 h2 h3).1
def ajK:=fun a b d hd h1 h2 h3=>(dD a b d hd h1 h2 h3).2
def K9:=mk Tryz.func319 hlN (ahd (std 0))
noncomputable def GK:=K9.c
def ajL:=fun a b n d hl h1 h2 h3 h4=>(K9.cs (ZJ a b n d hl h1 h2 h3 h4)).1
def ajM:=fun a b n d hl h1 h2 h3 h4=>(K9.cs (ZJ a b n d hl h1 h2 h3 h4)).2
def Tq:=mk Tryz.func317 (hlC K9.ok hlN) (ahe (std 0) GK)
noncomputable def rz:=Tq.c
def fE:=fun a m b d hl h1 h2 h3 h4=>Tq.cs (ahJ ajL ajM a m b d hl h1 h2 h3 h4)
def ajN:=fun a m b d hl h1 h2 h3 h4=>(fE a m b d hl h1 h2 h3 h4).1
def ajO:=fun a m b d hl h1 h2 h3 h4=>(fE a m b d hl h1 h2 h3 h4).2
noncomputable def cK:Nat→Ct aC nu
 | 0=>never nu
 | k+1=>cn (FV (std 0) oF.pre oF.fn rz.pre rz.fn (cK k).pre (cK k).fn)
theorem kK:∀k:Nat,cB E 310 (bY (cK k))∧∀(a m b:Int) (d:List aj),AB a m b d→b-a<k→(cK k).pre (a,m,b,d,())=true∧Mrg d ((cK k).fn (a,m,b,d,())).1 a b
 | 0=>⟨jN (enters_of Tryz.func310 (by kernel_rfl) rfl),fun a m b d h1 h2=>(by have g1:=h1.h2;have g2:=h1.h3;omega)⟩
 | k+1=>by
  have ih:=kK k
  have t:Fn E 310 (FV (std 0) oF.pre oF.fn rz.pre rz.fn (cK k).pre (cK k).fn) (cK (k+1)):=mk Tryz.func310 (hlC Vj.ok (hlC Tq.ok (hlC ih.1 hlN))) (ahf (std 0) oF rz (cK k))
  exact⟨t.ok,fun a m b d h1 h2=>t.cs (ahL adP adQ ajN ajO (k:Int) (fun a m b d h1 h2=>(ih.2 a m b d h1 h2).1) (fun a m b d h1 h2=>(ih.2 a m b d h1 h2).2) a m b d h1 (by omega))⟩
noncomputable def pU:Ct aC nu:=cK 1000000000
theorem ajP:cB E 310 (bY pU):=(kK 1000000000).1
theorem adR {a m b:Int} {d:List aj} (h:AB a m b d):b-a< ((1000000000:Nat):Int):=by have g0:=h.sh.1;have g1:=h.h1;have g2:=h.h4;omega
def ajQ:=fun a m b d h=>((kK 1000000000).2 a m b d h (adR h)).1
def ajR:=fun a m b d h=>((kK 1000000000).2 a m b d h (adR h)).2
def Tt:=mk Tryz.func291 (hlC Tp.ok (hlC ajP hlN)) (ahg (std 0) GL pU)
noncomputable def GN:=Tt.c
def fF:=fun n d hd hn=>Tt.cs (ahM ajJ ajK ajQ ajR n d hd hn)
def ajS:=fun n d hd hn=>(fF n d hd hn).1
def ajT:=fun n d hd hn=>(fF n d hd hn).2
def Tv:=mk Tryz.func276 (hlC Tt.ok hlN) (ahh (std 0) GN)
noncomputable def GQ:=Tv.c
def bV:=fun d hd=>Tv.cs (ahN ajS ajT d hd)
def ajU:=fun d hd=>(bV d hd).1
def ajV:=fun d hd=>(bV d hd).2
def Vk:=mk Tryz.func253 (hlC JE.ok (hlC zP.ok (hlC JH.ok (hlC OT.ok (hlC Tv.ok hlN))))) (anm (std 0) jA d9 nH xw GQ)
noncomputable def xC:=Vk.c
def Io:=fun l hl hc=>Vk.cs (aob U6 U7 Il Im aa8 aa9 adH adI ajU ajV l hl hc)
def adS:=fun l hl hc=>(Io l hl hc).1
def adT:=fun l hl hc=>(Io l hl hc).2
end Go.TX.F
namespace Go.TX.F
open Go Go.AE Go.TX Go.TX.Seat Go.Proofs
set_option maxRecDepth 100000
def Tw:=mk Tryz.func278 hlN (ahi (std 0))
noncomputable def GU:=Tw.c
def dU:=fun n h1 h2=>Tw.cs (ahO n h1 h2)
def ajW:=fun n h1 h2=>(dU n h1 h2).1
def ajX:=fun n h1 h2=>(dU n h1 h2).2
def abb:=mk Tryz.func254 (hlC Tw.ok hlN) (ano (std 0) GU)
noncomputable def NS:=abb.c
def dH:=fun a b ha hb=>abb.cs (aoc ajW ajX a b ha hb)
def apC:=fun a b ha hb=>(dH a b ha hb).1
def apD:=fun a b ha hb=>(dH a b ha hb).2
def abd:=mk Tryz.func214 (hlC zP.ok (hlC Vk.ok (hlC abb.ok hlN))) (anp (std 0) d9 xC NS)
noncomputable def NT:=abd.c
def xS:=fun a b ha hb=>abd.cs (aod Il Im adS adT apC apD a b ha hb)
def apE:=fun a b ha hb=>(xS a b ha hb).1
def apF:=fun a b ha hb=>(xS a b ha hb).2
def La:=mk Tryz.func279 hlN (ahj (std 0))
noncomputable def GV:=La.c
def ajY:=fun n h1 h2=>(La.cs (ZL n h1 h2)).1
def ajZ:=fun n h1 h2=>(La.cs (ZL n h1 h2)).2
def Tx:=mk Tryz.func255 (hlC La.ok hlN) (ahk (std 0) GV)
noncomputable def GZ:=Tx.c
def jC:=fun a b ha hb=>Tx.cs (ahP ajY ajZ a b ha hb)
def aj0:=fun a b ha hb=>(jC a b ha hb).1
def aj1:=fun a b ha hb=>(jC a b ha hb).2
def Tz:=mk Tryz.func292 (hlC aaU.ok hlN) (ahl (std 0) yK)
noncomputable def GX:=Tz.c
def fT:=fun a b d hd h1 h2=>Tz.cs (ahT apj apk a b d hd h1 h2)
def aj2:=fun a b d hd h1 h2=>(fT a b d hd h1 h2).1
def aj3:=fun a b d hd h1 h2=>(fT a b d hd h1 h2).2
noncomputable def Aq:Ct aC Fe:=never Fe
theorem aj4:cB E 293 (bY Aq):=jN (enters_of Tryz.func293 (by kernel_rfl) rfl)
noncomputable def Ar:Ct aC Fg:=never Fg
theorem aj5:cB E 294 (bY Ar):=jN (enters_of Tryz.func294 (by kernel_rfl) rfl)
noncomputable def Au:Ct aC Fh:=never Fh
theorem aj6:cB E 295 (bY Au):=jN (enters_of Tryz.func295 (by kernel_rfl) rfl)
noncomputable def Av:Ct aC Fj:=never Fj
theorem aj7:cB E 296 (bY Av):=jN (enters_of Tryz.func296 (by kernel_rfl) rfl)
noncomputable def Aw:Ct aC Fp:=never Fp
theorem aj8:cB E 297 (bY Aw):=jN (enters_of Tryz.func297 (by kernel_rfl) rfl)
noncomputable def Ay:Ct aC Fq:=never Fq
theorem aj9:cB E 298 (bY Ay):=jN (enters_of Tryz.func298 (by kernel_rfl) rfl)
noncomputable def Az:Ct aC Fu:=never Fu
theorem akb:cB E 299 (bY Az):=jN (enters_of Tryz.func299 (by kernel_rfl) rfl)
noncomputable def iq:Ct aC o7:=never o7
theorem lJ:cB E 280 (bY iq):=jN (enters_of Tryz.func280 (by kernel_rfl) rfl)
def TA:=mk Tryz.func280 (hlC aaU.ok (hlC Tz.ok (hlC aj4 (hlC aj5 (hlC aj6 (hlC aj7 (hlC aj8 (hlC aj9 (hlC akb (hlC lJ hlN)))))))))) (ahm (std 0) yK GX Aq Ar Au Av Aw Ay Az iq)
noncomputable def rA:=TA.c
def iA:=fun a b k d hd h1 h2=>TA.cs (ahU aj2 aj3 _ _ _ _ _ _ _ _ _ _ _ _ _ _ _ _ a b k d hd h1 h2)
def akc:=fun a b k d hd h1 h2=>(iA a b k d hd h1 h2).1
def akd:=fun a b k d hd h1 h2=>(iA a b k d hd h1 h2).2
noncomputable def GY:Ct aC Us:={pre:=fun x=>decide ((0:Int)≤x.1)&&decide ((x.1:Int)≤18446744073709551615),fn:=fun x=>((Lib.bitLen (x.1:Int).toNat:Int),())}
theorem apG (n:Int) (h1:0≤n) (h2:n≤18446744073709551615):GY.pre (n,())=true:=by
 show(decide _&&decide _)=true;simp only [Bool.and_eq_true,decide_eq_true_eq];exact⟨h1,h2⟩
theorem apH:cB E 281 (bY GY):=
 aat (enters_of Tryz.func281 (by kernel_rfl) rfl) rfl fun x w h=>by
  have h':(decide ((0:Int)≤x)&&decide (x≤18446744073709551615))=true:=h
  simp only [Bool.and_eq_true,decide_eq_true_eq]at h'
  exact bits_Len x w h'.1 h'.2
def TB:=mk Tryz.func256 (hlC TA.ok (hlC apH hlN)) (ahn (std 0) rA GY)
noncomputable def G5:=TB.c
def jU:=fun a ha=>TB.cs (ahV akc akd apG a ha)
def ake:=fun a ha=>(jU a ha).1
def akf:=fun a ha=>(jU a ha).2
def Vm:=mk Tryz.func216 (hlC zP.ok (hlC JH.ok (hlC Vk.ok (hlC Tx.ok (hlC TB.ok hlN))))) (anq (std 0) d9 nH xC GZ G5)
noncomputable def xD:=Vm.c
def xU:=fun a b ha hb=>Vm.cs (aoe Il Im aa8 aa9 adS adT aj0 aj1 ake akf a b ha hb)
def adU:=fun a b ha hb=>(xU a b ha hb).1
def adV:=fun a b ha hb=>(xU a b ha hb).2
def abe:=mk Tryz.func215 (hlC zP.ok (hlC OV.ok (hlC zO.ok (hlC Vm.ok hlN)))) (anr (std 0) d9 nI fO xD)
noncomputable def NU:=abe.c
def sJ:=fun a n ha=>abe.cs (aof Il Im aa6 aa7 Jz JA adU adV a n ha)
def apI:=fun a n ha=>(sJ a n ha).1
def apJ:=fun a n ha=>(sJ a n ha).2
def abf:=mk Tryz.func160 (hlC Ca.ok (hlC OV.ok (hlC Vh.ok (hlC abd.ok (hlC Vm.ok (hlC abe.ok (hlC Vi.ok hlN))))))) (ant (std 0) fQ nI xE NT xD NU xG)
noncomputable def NV:=abf.c
def xV:=fun op x y hx hy=>abf.cs (aog JF JG aa6 aa7 adL adM apE apF adU adV apI apJ adN adO op x y hx hy)
def apK:=fun op x y hx hy=>(xV op x y hx hy).1
def apL:=fun op x y hx hy=>(xV op x y hx hy).2
def abg:=mk Tryz.func123 (hlC OQ.ok (hlC abf.ok (hlC Vb.ok (hlC Vd.ok hlN)))) (anu (std 0) nD NV xq xk)
noncomputable def N9:=abg.c
def qH:=fun t op x y ht hx hy=>abg.cs (aoh aaV aaW apK apL adz adA adB adC t op x y ht hx hy)
def apM:=fun t op x y ht hx hy=>(qH t op x y ht hx hy).1
def apN:=fun t op x y ht hx hy=>(qH t op x y ht hx hy).2
def Vn:=mk Tryz.func87 (hlC zO.ok hlN) (anv (std 0) fO)
noncomputable def xH:=Vn.c
def xW:=fun r a b=>Vn.cs (aov Jz JA r a b)
def adW:=fun r a b=>(xW r a b).1
def adX:=fun r a b=>(xW r a b).2
def abh:=mk Tryz.func224 (hlC OU.ok hlN) (anw (std 0) nG)
noncomputable def NW:=abh.c
def oN:=fun a ha=>abh.cs (aow aa0 aa1 a ha)
def apO:=fun a ha=>(oN a ha).1
def apP:=fun a ha=>(oN a ha).2
def abj:=mk Tryz.func165 (hlC OU.ok (hlC abh.ok hlN)) (anx (std 0) nG NW)
noncomputable def NY:=abj.c
def lW:=fun s hs=>abj.cs (aox aa0 aa1 apO apP s hs)
def apQ:=fun s hs=>(lW s hs).1
def apR:=fun s hs=>(lW s hs).2
def abk:=mk Tryz.func125 (hlC Vi.ok (hlC zP.ok (hlC OQ.ok (hlC abj.ok (hlC Ca.ok (hlC Vn.ok hlN)))))) (anz (std 0) xG d9 nD NY fQ xH)
noncomputable def N7:=abk.c
def xX:=fun s n hs h0 h1=>abk.cs (aoC adN adO Il Im aaV aaW apQ apR JF JG adW adX s n hs h0 h1)
def apS:=fun s n hs h0 h1=>(xX s n hs h0 h1).1
def apT:=fun s n hs h0 h1=>(xX s n hs h0 h1).2
def abl:=mk Tryz.func68 (hlC Ik.ok (hlC BU.ok (hlC aa3.ok (hlC JB.ok (hlC OV.ok (hlC abk.ok (hlC aa4.ok (hlC Vg.ok (hlC abg.ok (hlC Ve.ok (hlC Vf.ok (hlC aa5.ok hlN)))))))))))) (anA (std 0) jy fP NZ jw nI N7 N8 xA N9 xu xB Oa)
noncomputable def Og:=abl.c
def xY:=fun t b ht hb=>abl.cs (aoD U1 U2 JC JD apw apx UY UZ aa6 aa7 apS apT apy apz adJ adK apM apN adD adE adF adG apA apB t b ht hb)
def apU:=fun t b ht hb=>(xY t b ht hb).1
def apV:=fun t b ht hb=>(xY t b ht hb).2
def abm:=mk Tryz.func168 (hlC Ca.ok hlN) (anB (std 0) fQ)
noncomputable def Ob:=abm.c
def nS:=fun a b ha=>abm.cs (aoJ JF JG a b ha)
def apW:=fun a b ha=>(nS a b ha).1
def apX:=fun a b ha=>(nS a b ha).2
def TD:=mk Tryz.func167 (hlC abm.ok hlN) (aho (std 0) Ob)
noncomputable def G6:=TD.c
def aY:=fun a b ha=>TD.cs (aiy apW apX a b ha)
def akg:=fun a b ha=>(aY a b ha).1
def akh:=fun a b ha=>(aY a b ha).2
def Vo:=mk Tryz.func129 (hlC TD.ok hlN) (anC (std 0) G6)
noncomputable def xI:=Vo.c
def qI:=fun a b ha=>Vo.cs (aoK akg akh a b ha)
def adY:=fun a b ha=>(qI a b ha).1
def adZ:=fun a b ha=>(qI a b ha).2
def abn:=mk Tryz.func127 (hlC Ca.ok (hlC Vo.ok hlN)) (anD (std 0) fQ xI)
noncomputable def Oc:=abn.c
def qJ:=fun a b ha=>abn.cs (aoL JF JG adY adZ a b ha)
def apY:=fun a b ha=>(qJ a b ha).1
def apZ:=fun a b ha=>(qJ a b ha).2
def TF:=mk Tryz.func126 (hlC abn.ok hlN) (ahp (std 0) Oc)
noncomputable def G7:=TF.c
def aR:=fun a b ha=>TF.cs (aiz apY apZ a b ha)
def aki:=fun a b ha=>(aR a b ha).1
def akj:=fun a b ha=>(aR a b ha).2
end Go.TX.F
namespace Go.TX.F
open Go Go.AE Go.TX Go.TX.Seat Go.Proofs
set_option maxRecDepth 100000
def abo:=mk Tryz.func69 (hlC Ca.ok (hlC Vo.ok (hlC TF.ok hlN))) (anE (std 0) fQ xI G7)
noncomputable def Oh:=abo.c
def vL:=fun a b ha=>abo.cs (aoM JF JG adY adZ aki akj a b ha)
def ap0:=fun a b ha=>(vL a b ha).1
def ap1:=fun a b ha=>(vL a b ha).2
def abp:=mk Tryz.func22 (hlC BU.ok (hlC aaP.ok (hlC aa2.ok (hlC abl.ok (hlC abo.ok hlN))))) (anF (std 0) fP Od Oe Og Oh)
noncomputable def Ol:=abp.c
def vM:=fun b c hb hc=>abp.cs (aoN JC JD ao8 ao9 apu apv apU apV ap0 ap1 b c hb hc)
def ap2:=fun b c hb hc=>(vM b c hb hc).1
def ap3:=fun b c hb hc=>(vM b c hb hc).2
def Vp:=mk Tryz.func84 (hlC U3.ok hlN) (anG (std 0) wY)
noncomputable def xJ:=Vp.c
def lX:=fun b kp ok hk=>Vp.cs (aoP adq adr b kp ok hk)
def ad1:=fun b kp ok hk=>(lX b kp ok hk).1
def ad2:=fun b kp ok hk=>(lX b kp ok hk).2
def abq:=mk Tryz.func33 (hlC Vp.ok (hlC aaO.ok (hlC BU.ok hlN))) (anH (std 0) xJ Oi fP)
noncomputable def Oq:=abq.c
def vN:=fun b hb=>abq.cs (aoU ad1 ad2 ao6 ao7 JC JD b hb)
def ap4:=fun b hb=>(vN b hb).1
def ap5:=fun b hb=>(vN b hb).2
def abr:=mk Tryz.func34 (hlC Vp.ok (hlC BU.ok hlN)) (anI (std 0) xJ fP)
noncomputable def Ou:=abr.c
def vO:=fun b hb=>abr.cs (aoT ad1 ad2 JC JD b hb)
def ap6:=fun b hb=>(vO b hb).1
def ap7:=fun b hb=>(vO b hb).2
def Vq:=mk Tryz.func85 hlN (anJ (std 0))
noncomputable def Oj:=Vq.c
def ap8:=fun i a1 a2 a3 a4 a5 a6 ops h=>(Vq.cs (adf i a1 a2 a3 a4 a5 a6 ops h)).1
def ap9:=fun i a1 a2 a3 a4 a5 a6 ops h=>(Vq.cs (adf i a1 a2 a3 a4 a5 a6 ops h)).2
def abt:=mk Tryz.func35 (hlC OP.ok (hlC BU.ok (hlC Vq.ok (hlC Vh.ok (hlC Vn.ok hlN))))) (anK (std 0) wX fP Oj xE xH)
noncomputable def Om:=abt.c
def sK:=fun b hb=>abt.cs (aoQ ado adp JC JD ap8 ap9 adL adM adW adX b hb)
def aqa:=fun b hb=>(sK b hb).1
def aqb:=fun b hb=>(sK b hb).2
def TG:=mk Tryz.func32 (hlC Ic.ok (hlC K7.ok (hlC nP.ok (hlC Tf.ok hlN)))) (ahq (std 0) jg G8 bK G9)
noncomputable def Hg:=TG.c
def lY:=fun c hc hl=>TG.cs (aiA Sw Sy ajr ajs uV uW ajp ajq c hc hl)
def akk:=fun c hc hl=>(lY c hc hl).1
def akl:=fun c hc hl=>(lY c hc hl).2
end Go.TX.F
namespace Go.TX.F
open Go Go.AE Go.TX Go.TX.Seat Go.Proofs
set_option maxRecDepth 100000
def ad3:=mk Tryz.func7 (hlC abp.ok (hlC abt.ok (hlC aaM.ok (hlC abq.ok (hlC abr.ok (hlC aaN.ok (hlC TG.ok (hlC u7.ok hlN)))))))) (anL (std 0) Ol Om Oo Oq Ou Ov Hg dz)
def sM:=fun c hc=>ad3.cs (aoV ap2 ap3 aqa aqb ao2 ao3 ap4 ap5 ap6 ap7 ao4 ao5 akk akl AP AQ c hc)
def aqc:=fun c hc=>(sM c hc).1
def aqd:=fun c hc=>(sM c hc).2
end Go.TX.F
namespace Go.Proofs.YtkecklmejhogoaaGreat
open Go.ChangeShapes Go.WideShapes Go.ChangeAt Go.RowKit
theorem arM:ownKnob Tryz.prog.godebug=Option.none:=by kernel_rfl
theorem aqe:laidOutB Tryz.prog=true:=by kernel_rfl
theorem akm:Tryz.prog.cellsOf 5=1:=by kernel_rfl
set_option maxRecDepth 100000 in
theorem lifted (os:Os) (started:os.Started) (H:Type) (enc:TypeId×Value→H):
  ReturnsInHanded {} Tryz.checked os 7 .any (Rows.fnOptAnySpec.pre6 enc Tryz.prog Tryz.f7 Rows.fnOptAnyRow.domain false) (Rows.fnOptAnySpec.post enc Tryz.prog Tryz.f7 false true false false):=by
 refine returnsInHanded_of_change (C:=Tryz.checked) arM started (by kernel_rfl) Tryz.func7
  (ChangeSpec.witness6 (enc:=enc) (C:=Tryz.checked) false ⟨#[], #[.slice none 0 0],[]⟩ 8 (by kernel_rfl) (by kernel_rfl) (by kernel_rfl) (by kernel_rfl)) ?_
 intro W base args ds gs before hval0 hW _ _
 have hval:∀(j:Nat) t v,Tryz.f7.params[j]? =some t→args[j]? =some v→Value.okWide Tryz.prog W .any base t v:=hval0
 have hW':=hW
 obtain⟨p,q,hA0,hV,rfl,_,_⟩:=hW
 have hA:DataW.TrodAll enc Tryz.prog W 0 (fun _=>true) true Tryz.f7.params.toList args.toList ds p:=hA0
 rw [Tryz.params7]at hA hval
 obtain⟨v0,d0,rfl,rfl,h0⟩:=trodAll_one hA
 obtain⟨rfl,rfl⟩:=trodVars_none hV
 clear hA0 hval0
 simp only [List.append_nil]at hW'
 have hlt:∀x∈p,x.block<W.heap.size:=fun x hx=>by simpa using hW'.lt x hx
 obtain⟨xs,hr,hb⟩:=Go.TX.aas Tryz.underlying22 Tryz.underlying5 akm (hval 0 22 v0 rfl rfl) h0 hlt
 have hp:=Go.TX.F.aqc xs hb
 have hq:=Go.TX.F.aqd xs hb
 refine(Go.TX.arJ Go.TX.F.ad3.ok hr (fun g d h=>by cases h) hp).mono fun e W' ⟨he,hw⟩=> ?_
 have he:e= .returned (.bool true):=he.trans (congrArg (fun z:Bool×Unit=>Ending.returned (.bool z.1)) hq)
 refine⟨_,he,[d0],[],p,[],p,[],hW',trodAll_mk1 (shut_bool Tryz.underlying4 true),?_,rfl,hw.frame _,fun h=>by cases h⟩
 exact trodAll_mk1 (Below.trod aqe (by kernel_rfl) (of_decide_eq_true (by kernel_rfl)) h0 hw hlt)
theorem y1:Tryz.pinned.checked.prog.funcNamed Rows.fnOptAnyRow.func=some 7:=by kernel_rfl
theorem aS {a b:Bool} (h:a=true) (k:b=true):(a&&b)=true:=by rw [h,k];rfl
set_option maxHeartbeats 4000000 in
theorem y2:joinedFacts Tryz.pinned.checked.prog 7 Tryz.f7 Rows.fnOptAnySpec Rows.fnOptAnyRow=true:=by
 unfold joinedFacts
 repeat' with_reducible apply aS
 all_goals (as_aux_lemma=>kernel_rfl)
theorem y3:Func.isWrapper Tryz.prog Tryz.f7 Rows.fnOptAnyRow.wrapper Rows.fnOptAnyRow.mainSum:=(by unfold Func.isWrapper;first | (rw [if_pos (by decide+kernel)];kernel_rfl) | (rw [if_neg (by decide+kernel)];exact⟨rfl,rfl⟩))
theorem x_holds:Rows.FnOptAnySaid:=
 OpenClaim.holds_of_wide 7 Tryz.f7 rfl rfl rfl rfl rfl rfl rfl ⟨rfl,rfl,rfl,rfl,rfl⟩ rfl rfl rfl rfl rfl y1 Tryz.func7 y2
  (of_decide_eq_true (by kernel_rfl)) y3
  (fun os started H enc _=>lifted os started H enc)
end Go.Proofs.YtkecklmejhogoaaGreat
