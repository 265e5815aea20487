/- For every input the law returns true, and the input reads as it did. No condition. -/
import Derived.Test.YtkecklmejhogoaaGreatZe
import Derived.ChangeSlices
import Derived.ChangeSame
import Derived.JoinedOf
import Derived.JoinedAt
import Derived.Handed
import Derived.Below
import Derived.Carry
import Derived.OpenShut
import Derived.ChangeKeysEq
import Derived.Test.YtkecklmejhogoaaGreatY
import Derived.Test.YtkecklmejhogoaaGreatRows
set_option linter.all false
set_option linter.unusedSectionVars false
set_option linter.unusedVariables false
set_option linter.unusedSimpArgs false
namespace Go.TX.F
open Go Go.AE Go.TX
theorem ain {p1:Int×Int×Int×Unit→Bool} {f1:Int×Int×Int×Unit→Bool×Unit} (hp1:∀a b c,p1 (a,b,c,())=true) (hf1:∀a b c,f1 (a,b,c,())=(inB a b c,())) (k:Int):
  QF (std 0) p1 f1 (k,()) (fun y=>y=(decide ((1≤k∧k≤4)∨k=6),())):=by
 dsimp only [QF,Alg.cl,Alg.cg,Alg.rb,Alg.bd,Alg.l1,Tup.q,Tup.o]
 simp (disch:=omega) only [RR,hp1,hf1]
 refine Prod.ext ?_ rfl
 rw [Bool.eq_iff_iff];simp [inB]
theorem aio {p1:Int×Unit→Bool} {f1:Int×Unit→Bool×Unit} (hp1:∀k,p1 (k,())=true) (hf1:∀k,f1 (k,())=(decide ((1≤k∧k≤4)∨k=6),())) (ops:List IOp) (x n:Int) (h1:n≤ops.length):
  QG (std 0) p1 f1 (ops,x,n,()) (fun y=>y=(bp (Vl ops x n),())):=by
 dsimp only [QG,Alg.cl,Alg.cg,Alg.rb,Alg.bd,Alg.l1,Tup.q,Tup.o]
 simp (disch:=omega) only [RR,RB,hp1,hf1]
 refine⟨by simp only [Bool.and_eq_false_iff,decide_eq_false_iff_not];omega,by simp only [Bool.and_eq_false_iff,decide_eq_false_iff_not];omega,?_⟩
 refine Prod.ext ?_ rfl
 dsimp only
 rw [Bool.eq_iff_iff,bR,Bool.and_eq_true,Bool.and_eq_true,decide_eq_true_eq,decide_eq_true_eq,decide_eq_true_eq,and_assoc]
 rfl
theorem aip {p4:Int×Unit→Bool} {f4:Int×Unit→Bool×Unit} (hp4:∀a,p4 (a,())=true) (hf4:∀a,f4 (a,())=(inB a 0 65535,()))
  {p1:Int×Int×Int×Unit→Bool} {f1:Int×Int×Int×Unit→Bool×Unit} (hp1:∀a b c,p1 (a,b,c,())=true) (hf1:∀a b c,f1 (a,b,c,())=(inB a b c,()))
  {p3:List IOp×Int×Int×Unit→Bool} {f3:List IOp×Int×Int×Unit→Bool×Unit} (hp3:∀(ops:List IOp) (x n:Int),n≤ops.length→p3 (ops,x,n,())=true) (hf3:∀(ops:List IOp) (x n:Int),n≤ops.length→f3 (ops,x,n,())=(bp (Vl ops x n),()))
  (ops:List IOp) (i len:Int) (h0:0≤i) (h1:i<ops.length) (h3:1≤len∧len≤8):QH (std 0) p4 f4 p1 f1 p3 f3 (ops,i,len,()) (fun y=>y=(bp (Cx ops len i ((ops).getD (i).toNat default)),())):=by
 have SX:=fun x=>hp3 ops x i (by omega)
 have SY:=fun x=>hf3 ops x i (by omega)
 have e:∀ {a:Int},(0≤a∧a≤len-1)↔(0≤a∧a<len):=fun {a}=>by omega
 dsimp only [QH,Alg.cl,Alg.cg,Alg.rb,Alg.bd,Alg.l1,Tup.q,Tup.o]
 simp (disch:=omega) only [RR,RB,hp1,hf1,SX,SY,hp4,hf4]
 refine⟨by omega,by omega,?_⟩
 rw [show bp (Cx ops len i ((ops).getD (i).toNat default))=bp (_)from uW O5]
 generalize ((ops).getD (i).toNat default)=o
 have go:∀ {c:Bool} {P:Prop},(c=true↔P)→(c,())=(bp P,()):=fun {c P} h=>Prod.ext (by dsimp only;rw [Bool.eq_iff_iff,bR];exact h) rfl
 refine⟨fun c=> ?_,fun c1=>⟨fun c=> ?_,fun c2=>⟨fun c=> ?_,fun c3=> ?_⟩⟩⟩
 ·refine go ?_
  simp only [Bool.and_eq_true,decide_eq_true_eq,bR,fF,c,hX,hY,hK,evO,e]
  simp [and_assoc]
 ·refine go ?_
  simp only [Bool.and_eq_true,decide_eq_true_eq,bR,fF,c,hX,hY,hK,evO,e]
  simp [and_assoc]
 ·refine go ?_
  simp only [Bool.and_eq_true,decide_eq_true_eq,bR,fF,c,hX,hY,hK,evO,e]
  simp [and_assoc]
 ·by_cases c4:o.kind=4∨o.kind=7
  ·have c5:o.kind≠8:=by omega
   rcases c4 with c | c<;>simp (disch:=omega) only [RR,c,Int.reduceEq]<;>(refine go ?_)<;>simp only [Bool.and_eq_true,decide_eq_true_eq,bR,fF,c,hX,hY,hK,evO,e]<;>simp [and_assoc]
  ·by_cases c:o.kind=5
   ·simp (disch:=omega) only [RR,c,Int.reduceEq]
    refine go ?_
    simp only [Bool.and_eq_true,decide_eq_true_eq,bR,fF,c,hX,hY,hK,evO,e]
    simp [and_assoc]
   ·by_cases c':o.kind=6
    ·simp (disch:=omega) only [RR,c',Int.reduceEq]
     refine go ?_
     simp only [Bool.and_eq_true,decide_eq_true_eq,bR,fF,c',hX,hY,hK,evO,e]
     simp [and_assoc]
    ·by_cases c8:o.kind=8
     ·simp (disch:=omega) only [RR,c8,Int.reduceEq]
      refine go ?_
      simp only [Bool.and_eq_true,decide_eq_true_eq,bR,fF,c8,hX,hY,hK,evO,e]
      simp [and_assoc]
     ·have n4:¬o.kind=4:=fun h=>c4 (Or.inl h)
      have n7:¬o.kind=7:=fun h=>c4 (Or.inr h)
      simp (disch:=omega) only [RR,n4,n7,c,c',c8]
      rw [iB (fun h=>by have:=h.1;omega)]
theorem aiq {p4:Int×Unit→Bool} {f4:Int×Unit→Bool×Unit} (hp4:∀a,p4 (a,())=true) (hf4:∀a,f4 (a,())=(inB a 0 65535,()))
  {p3:List IOp×Int×Int×Unit→Bool} {f3:List IOp×Int×Int×Unit→Bool×Unit} (hp3:∀(ops:List IOp) (x n:Int),n≤ops.length→p3 (ops,x,n,())=true) (hf3:∀(ops:List IOp) (x n:Int),n≤ops.length→f3 (ops,x,n,())=(bp (Vl ops x n),()))
  (b:Blk):QI (std 0) p4 f4 p3 f3 (b,()) (fun y=>y=(bp (zG b),())):=by
 have SX:=fun x=>hp3 b.ops x b.ops.length (Int.le_refl _)
 have SY:=fun x=>hf3 b.ops x b.ops.length (Int.le_refl _)
 dsimp only [QI,Alg.cl,Alg.cg,Alg.rb,Alg.bd,Alg.l1,Tup.q,Tup.o]
 simp (disch:=omega) only [RR,RB,SX,SY,hp4,hf4]
 rw [show bp (zG b)=bp (_)from uW JE]
 have go:∀ {c:Bool} {P:Prop},(c=true↔P)→(c,())=(bp P,()):=fun {c P} h=>Prod.ext (by dsimp only;rw [Bool.eq_iff_iff,bR];exact h) rfl
 refine⟨fun c=> ?_,fun c1=>⟨fun c=> ?_,fun c2=> ?_⟩⟩
 ·refine go ?_
  simp only [Bool.and_eq_true,decide_eq_true_eq,bR,fF,c]
  simp [and_assoc]
 ·refine go ?_
  simp only [Bool.and_eq_true,decide_eq_true_eq,bR,fF,c]
  simp [and_assoc]
 ·by_cases c:b.fin=3
  ·simp (disch:=omega) only [RR,c,Int.reduceEq]
   refine go ?_
   simp only [Bool.and_eq_true,decide_eq_true_eq,bR,fF,c]
   simp [and_assoc]
  ·by_cases c4:b.fin=4
   ·simp (disch:=omega) only [RR,c4,Int.reduceEq]
    refine go ?_
    simp only [Bool.and_eq_true,decide_eq_true_eq,bR,fF,c4]
    simp [and_assoc]
   ·simp (disch:=omega) only [RR,c,c4]
    rw [iB (fun h=>by have:=h.1;omega)]
theorem air {p1:Int×Int×Int×Unit→Bool} {f1:Int×Int×Int×Unit→Bool×Unit} (hp1:∀a b c,p1 (a,b,c,())=true) (hf1:∀a b c,f1 (a,b,c,())=(inB a b c,()))
  {p2:Blk×Unit→Bool} {f2:Blk×Unit→Bool×Unit} (hp2:∀b,p2 (b,())=true) (hf2:∀b,f2 (b,())=(bp (zG b),()))
  {p3:List IOp×Int×Int×Unit→Bool} {f3:List IOp×Int×Int×Unit→Bool×Unit} (hp3:∀(ops:List IOp) (i len:Int),0≤i→i<ops.length→1≤len∧len≤8→p3 (ops,i,len,())=true) (hf3:∀(ops:List IOp) (i len:Int),0≤i→i<ops.length→1≤len∧len≤8→f3 (ops,i,len,())=(bp (Cx ops len i ((ops).getD (i).toNat default)),())) (b:Blk) (h2:b.ops.length<1000000000):
  QJ (std 0) p1 f1 p2 f2 p3 f3 (b,()) (fun y=>y=(bp (dB b),())):=by
 dsimp only [QJ,Alg.cl,Alg.cg,Alg.rb,Alg.bd,Alg.l1,Tup.q,Tup.o]
 simp (disch:=omega) only [RR,RB,hp1,hf1]
 by_cases hl:1≤b.len∧b.len≤8
 ·have hl':=fF.2 hl
  simp (disch:=omega) only [RR,hl',fF,sG]
  refine⟨fun h=> ?_,fun h=> ?_⟩
  ·rw [iB (fun g=> ?_)]
   have g1:=g.pc
   have g2:=g.sz
   omega
  ·refine aA (fun(y:Int×Blk×Unit)=>y.2.1=b∧0≤y.1∧y.1≤b.ops.length∧All y.1 (fun i=>Cx b.ops b.len i ((b.ops).getD (i).toNat default))) (fun y=>(b.ops.length-y.1).toNat) ⟨rfl,by simp,by simp,All.zero⟩ ?_
   rintro⟨(i:Int),(b':Blk),⟨⟩⟩ hI
   dsimp only at hI ⊢
   obtain⟨rfl,h3,h4,h5⟩:=hI
   simp (disch:=omega) only [RR,hp2 b',hf2 b']
   refine⟨fun h6=>⟨hp3 b'.ops i b'.len h3 h6 hl,?_⟩,fun h6=> ?_⟩
   ·rw [hf3 b'.ops i b'.len h3 h6 hl]
    dsimp only
    refine⟨fun h7=> ?_,fun h7=>⟨⟨by omega,by omega,h5.snoc (bR.1 h7)⟩,by omega⟩⟩
    rw [iB (fun g=>uU.1 h7 (g.op i h3 h6))]
   ·by_cases he:zG b'
    ·rw [bO he,bO (show dB b' from⟨hl,by omega,by omega,fun j j1 j2=>h5 j j1 (by omega),he⟩)]
    ·rw [iB he,iB (fun g=>he g.en)]
 ·have hl':=sG.2 hl
  simp (disch:=omega) only [RR,hl']
  rw [iB (fun g=>hl g.ln)]
  exact⟨rfl,fun h=>h.1.1.elim⟩
theorem aoX {p4:Int×Unit→Bool} {f4:Int×Unit→Bool×Unit} (hp4:∀a,p4 (a,())=true) (hf4:∀a,f4 (a,())=(inB a 0 65535,())) (r a b:Int):
  Zw (std 0) p4 f4 (r,a,b,()) (fun y=>y=(inB a 0 65535&&inB b 0 65535&& (decide (r=1∧a=b∨r=2∧a<b)),())):=by
 dsimp only [Zw,Alg.cl,Alg.cg,Alg.rb,Alg.bd,Alg.l1,Tup.q,Tup.o]
 simp (disch:=omega) only [RR,hp4,hf4]
 refine Prod.ext ?_ rfl
 rw [Bool.eq_iff_iff];simp
theorem aoY {p1:List aj×Unit→Bool} {f1:List aj×Unit→List aj×Unit} (hp1:∀a,Sh a→p1 (a,())=true) (hf1:∀a,Sh a→f1 (a,())=(a,())) (a:List (List aj)) (ha:ShP a):
  Zx (std 0) p1 f1 (a,()) (fun y=>y=(a,())):=by
 have hlen:=ha.1
 dsimp only [Zx,Alg.cl,Alg.cg,Alg.rb,Alg.bd,Alg.l1,Tup.q,Tup.o]
 refine aA (fun(y:List (List aj)×Int×Int×List (List aj)×Unit)=>y.1=a∧y.2.1=a.length∧y.2.2.2.1=a.take y.2.2.1.toNat∧0≤y.2.2.1∧y.2.2.1≤a.length) (fun y=>(a.length-y.2.2.1).toNat) ⟨rfl,rfl,by simp,by simp,by simp⟩ ?_
 rintro⟨(l:List (List aj)),(m:Int),(i:Int),(o:List (List aj)),⟨⟩⟩ hI
 dsimp only at hI ⊢
 obtain⟨rfl,rfl,rfl,h1,h2⟩:=hI
 simp (disch:=omega) only [RR,hp1 _ (ha.at _),hf1 _ (ha.at _)]
 refine⟨fun h4=>⟨by omega,by omega,?_,⟨iR h1 h4 rfl,by omega,by omega⟩,by omega⟩,fun h4=>by rw [List.take_of_length_le (by omega)]⟩
 have:=List.length_take_le' i.toNat l
 simp only [List.length_cons,List.length_nil];omega
theorem aoZ {p1:List aj×Unit→Bool} {f1:List aj×Unit→List aj×Unit} (hp1:∀a,Sh a→p1 (a,())=true) (hf1:∀a,Sh a→f1 (a,())=(a,()))
  {p2:List (List aj)×Unit→Bool} {f2:List (List aj)×Unit→List (List aj)×Unit} (hp2:∀a,ShP a→p2 (a,())=true) (hf2:∀a,ShP a→f2 (a,())=(a,())) (s:Sym) (hs:ShY s):
  Zy (std 0) p1 f1 p2 f2 (s,()) (fun y=>y=(s.fin,s.k,s.events,s.regs,s.x,s.y,())):=by
 have hlen:=hs.e.1
 dsimp only [Zy,Alg.cl,Alg.cg,Alg.rb,Alg.bd,Alg.l1,Tup.q,Tup.o]
 simp (disch:=omega) only [RR,RB,hp1 _ hs.x,hf1 _ hs.x,hp1 _ hs.y,hf1 _ hs.y,hp2 _ hs.r,hf2 _ hs.r]
 refine aA (fun(y:List Ev×Int×Int×Int×Int×Int×Int×List Ev×List (List aj)×List aj×List aj×Unit)=>y.1=s.events∧y.2.1=s.events.length∧y.2.2.2.2.2.1=s.fin∧y.2.2.2.2.2.2.1=s.k∧y.2.2.2.2.2.2.2.1=s.events.take y.2.2.1.toNat∧y.2.2.2.2.2.2.2.2.1=s.regs∧y.2.2.2.2.2.2.2.2.2.1=s.x∧y.2.2.2.2.2.2.2.2.2.2.1=s.y∧0≤y.2.2.1∧y.2.2.1≤s.events.length) (fun y=>(s.events.length-y.2.2.1).toNat) ⟨rfl,rfl,rfl,rfl,by simp,rfl,rfl,rfl,by simp,by simp⟩ ?_
 rintro⟨(l:List Ev),(m:Int),(i:Int),(q1:Int),(q2:Int),(q3:Int),(q4:Int),(o:List Ev),(r:List (List aj)),(u:List aj),(v:List aj),⟨⟩⟩ hI
 dsimp only at hI ⊢
 obtain⟨rfl,rfl,rfl,rfl,rfl,rfl,rfl,rfl,h1,h2⟩:=hI
 have he:=hs.e.at i.toNat
 simp (disch:=omega) only [RR,RB,hp1 _ he.1,hf1 _ he.1,hp1 _ he.2.1,hf1 _ he.2.1,hp2 _ he.2.2,hf2 _ he.2.2]
 refine⟨fun h4=>⟨by omega,by omega,?_,⟨iR h1 h4 rfl,by omega,by omega⟩,by omega⟩,fun h4=>by rw [List.take_of_length_le (by omega)]⟩
 have:=List.length_take_le' i.toNat s.events
 simp only [List.length_cons,List.length_nil];omega
end Go.TX.F
namespace Go.TX.F
open Go Go.AE Go.TX
theorem ao0 {p1:Int×Unit→Bool} {f1:Int×Unit→List aj×Unit} (hp1:∀n,p1 (n,())=true) (hf1:∀n,f1 (n,())=(dz n,()))
  {p2:List Atom×Atom×Unit→Bool} {f2:List Atom×Atom×Unit→List Atom×Int×Unit} (hp2:∀(t:List Atom) a,t.length<1000000000→ShA a→p2 (t,a,())=true) (hf2:∀(t:List Atom) a,t.length<1000000000→ShA a→f2 (t,a,())=((bf t a).1,(bf t a).2,()))
  (kd k:Int) (t:List Atom) (fl:Bool) (ht:t.length<1000000000):
  YR (std 0) p1 f1 p2 f2 (kd,k,t,fl,()) (fun y=>y=if(bf t ⟨kd,k,[],[]⟩).2<0 then([],t,true,())else(dz (bf t ⟨kd,k,[],[]⟩).2,(bf t ⟨kd,k,[],[]⟩).1,fl,())):=by
 have sa:ShA ⟨kd,k,[],[]⟩:=⟨nN,nN⟩
 dsimp only [YR,Alg.cl,Alg.cg,Alg.rb,Alg.bd,Alg.l1,Tup.q,Tup.o]
 simp (disch:=omega) only [RR,hp1,hf1,hp2 _ _ ht sa,hf2 _ _ ht sa]
 exact⟨fun h=>by rw [if_pos h],fun h=>by rw [if_neg h]⟩
theorem Vt (t:List Atom) (n:Nat):rN t (n+1)=((bf (rN t n).1 ⟨1,n,[],[]⟩).1,(rN t n).2++ [dz (bf (rN t n).1 ⟨1,n,[],[]⟩).2]):=rfl
theorem ao1 {p1:Int×Int×List Atom×Bool×Unit→Bool} {f1:Int×Int×List Atom×Bool×Unit→List aj×List Atom×Bool×Unit} (hp1:∀kd k (t:List Atom) fl,t.length<1000000000→p1 (kd,k,t,fl,())=true)
  (hf1:∀kd k (t:List Atom) fl,t.length<1000000000→f1 (kd,k,t,fl,())=if(bf t ⟨kd,k,[],[]⟩).2<0 then([],t,true,())else(dz (bf t ⟨kd,k,[],[]⟩).2,(bf t ⟨kd,k,[],[]⟩).1,fl,()))
  (t:List Atom) (fl:Bool) (ht:aG t) (hl:t.length≤196):YW (std 0) p1 f1 (t,fl,()) (fun y=>y=((rN t 4).1,fl,(rN t 4).2,())):=by
 dsimp only [YW,Alg.cl,Alg.cg,Alg.rb,Alg.bd,Alg.l1,Tup.q,Tup.o]
 refine aA (fun(y:Int×List Atom×Bool×List (List aj)×Unit)=>0≤y.1∧y.1≤4∧y.2.2.1=fl∧y.2.1=(rN t y.1.toNat).1∧y.2.2.2.1=(rN t y.1.toNat).2) (fun y=>(4-y.1).toNat) ⟨by simp,by simp,rfl,rfl,rfl⟩ ?_
 rintro⟨(i:Int),(u:List Atom),(g:Bool),(r:List (List aj)),⟨⟩⟩ hI
 dsimp only at hI ⊢
 obtain⟨h1,h2,rfl,rfl,rfl⟩:=hI
 have ok:=BZ ht hl i.toNat (by omega)
 have l1:=ok.tl
 have l2:=ok.r4
 simp (disch:=omega) only [RR,hp1 _ _ (rN t i.toNat).1 _ (by omega),hf1 _ _ (rN t i.toNat).1 _ (by omega),List.length_cons,List.length_nil]
 refine⟨fun h3=> ?_,fun h3=> ?_⟩
 ·have hp:=H6 ht hl (n:=i.toNat) (by omega)
  rw [show((i.toNat:Nat):Int)=i by omega]at hp
  rw [if_neg (by omega)]
  have e:(i+1).toNat=i.toNat+1:=by omega
  have e2:((i.toNat:Nat):Int)=i:=by omega
  refine⟨by omega,⟨by omega,by omega,rfl,?_,?_⟩,by omega⟩
  ·rw [e,Vt,e2]
  ·rw [e,Vt,e2]
 ·rw [show i.toNat=4 by omega]
theorem ao2 (a:List (List aj)) (h0:0<a.length) (h1:a.length<1000000000):Zc (std 0) (a,()) (fun y=>y=(a,a,())):=by
 dsimp only [Zc,Alg.cl,Alg.cg,Alg.rb,Alg.bd,Alg.l1,Tup.q,Tup.o]
 simp (disch:=omega) only [RR,List.length_nil]
 exact⟨by omega,by omega,rfl⟩
theorem ao3 {p2:List Atom×Unit→Bool} {f2:List Atom×Unit→List Atom×Unit} (hp2:∀a,ShT a→p2 (a,())=true) (hf2:∀a,ShT a→f2 (a,())=(a,()))
  {p1:List Atom×Bool×Unit→Bool} {f1:List Atom×Bool×Unit→List Atom×Bool×List (List aj)×Unit} (hp1:∀(t:List Atom) fl,aG t→t.length≤196→p1 (t,fl,())=true) (hf1:∀(t:List Atom) fl,aG t→t.length≤196→f1 (t,fl,())=((rN t 4).1,fl,(rN t 4).2,())):
  Y5 (std 0) p2 f2 p1 f1 () (fun y=>y.1=t4):=by
 have s4:ShT t4:=Vp.1.sh
 unfold t4 at s4 ⊢
 dsimp only [Y5,Alg.cl,Alg.cg,Alg.rb,Alg.bd,Alg.l1,Tup.q,Tup.o]
 simp (disch:=omega) only [RR,hp1 [] false mJ (by simp),hf1 [] false mJ (by simp),hp2 _ s4,hf2 _ s4]
theorem ao4 {p1:List aj×Unit→Bool} {f1:List aj×Unit→Int×Bool×Unit} (hp1:∀a,Sh a→p1 (a,())=true) (hf1:∀a,Sh a→f1 (a,())=((dL a).1,(dL a).2,()))
  {p2:List aj×Unit→Bool} {f2:List aj×Unit→Bool×Unit} (hp2:∀a,Sh a→p2 (a,())=true) (hf2:∀a,Sh a→f2 (a,())=(bp (aO a),()))
  {p3:List aj×List aj×Unit→Bool} {f3:List aj×List aj×Unit→Int×Unit} (hp3:∀a b,Sh a→p3 (a,b,())=true) (hf3:∀a b,Sh a→f3 (a,b,())=(dP a b,()))
  {p4:Sym×Unit→Bool} {f4:Sym×Unit→Int×Int×List Ev×List (List aj)×List aj×List aj×Unit} (hp4:∀s,ShY s→p4 (s,())=true) (hf4:∀s,ShY s→f4 (s,())=(s.fin,s.k,s.events,s.regs,s.x,s.y,()))
  {p5:List aj×List aj×Unit→Bool} {f5:List aj×List aj×Unit→Bool×Unit} (hp5:∀a b,Sh a→p5 (a,b,())=true) (hf5:∀a b,Sh a→f5 (a,b,())=(decide (dP a b=0),()))
  {p6:Int×Int×Int×Unit→Bool} {f6:Int×Int×Int×Unit→Bool×Unit} (hp6:∀r a b,p6 (r,a,b,())=true) (hf6:∀r a b,f6 (r,a,b,())=(inB a 0 65535&&inB b 0 65535&& (decide (r=1∧a=b∨r=2∧a<b)),()))
  (s:Sym) (n:Int) (hs:ShY s) (h0:0≤s.fin) (h1:s.fin≤4):Zz (std 0) p1 f1 p2 f2 p3 f3 p4 f4 p5 f5 p6 f6 (s,n,()) (fun y=>y=(symEnd s n,())):=by
 dsimp only [Zz,Alg.cl,Alg.cg,Alg.rb,Alg.bd,Alg.l1,Tup.q,Tup.o]
 simp (disch:=omega) only [RR,RB,hp1 _ hs.x,hf1 _ hs.x,hp1 _ hs.y,hf1 _ hs.y,hp2 _ hs.x,hf2 _ hs.x,hp2 _ hs.y,hf2 _ hs.y,hp3 _ _ hs.x,hf3 _ _ hs.x,hp4 s hs,hf4 s hs,hp5 _ _ hs.x,hf5 _ _ hs.x,hp6,hf6]
 have xy:dP s.x s.y=0↔s.x=s.y:=gT
 have rx:(dL s.x).2=true→inB (dL s.x).1 0 65535=true:=fun h=>fF.2 (HZ h).2.2
 have ry:(dL s.y).2=true→inB (dL s.y).1 0 65535=true:=fun h=>fF.2 (HZ h).2.2
 unfold symEnd
 refine⟨fun h=> ?_,fun h=>⟨fun g=> ?_,fun g=>⟨fun k=> ?_,fun k=>⟨fun l=>⟨fun m=> ?_,fun m=> ?_⟩,fun l=>⟨fun m=> ?_,fun m=> ?_⟩⟩⟩⟩⟩
 ·rw [if_pos (by rw [uV,Bool.and_eq_false_iff];exact h)];rfl
 all_goals rw [if_neg (by rw [uV,h.1,h.2];simp)]
 ·rw [if_pos g]
 all_goals rw [if_neg (show¬(s.fin=2∧(dL s.x).2=true) by
  rintro⟨a,b⟩;rw [decide_eq_true a,b]at g;cases g)]
 ·rw [if_pos k]
 all_goals rw [if_neg (show¬(s.fin≠3∧s.fin≠4) by
  rintro⟨a,b⟩;rw [decide_eq_false a,decide_eq_false b]at k;cases k)]
 ·rw [if_pos (by rw [←xy];exact l),if_neg]
  rintro(⟨q1,q2⟩ | ⟨⟨q1,q2⟩,q3⟩)
  ·have:=m.1;rw [decide_eq_true (xy.2 q1),decide_eq_true q2]at this;cases this
  ·have:=m.2
   rw [q1,q2,rx q1,ry q2,decide_eq_true (by omega)]at this;cases this
 ·rw [if_pos (by rw [←xy];exact l),if_pos]
  rcases m with⟨q1,q2⟩ | ⟨q1,_,q3⟩
  ·exact Or.inl ⟨xy.1 q1,q2⟩
  ·exact Or.inr ⟨q1,by omega⟩
 all_goals rw [if_neg (show¬(s.x=s.y∨(dL s.x).2=true∧(dL s.y).2=true) by
  rintro(q | ⟨q1,q2⟩)
  ·exact l.1 (xy.2 q)
  ·have:=l.2;rw [q1,q2]at this;cases this)]
 ·rw [if_pos m]
 ·rw [if_neg]
  rintro⟨a,b⟩;rw [decide_eq_true a,decide_eq_true b]at m;cases m
end Go.TX.F
namespace Go.TX.F
open Go Go.AE Go.TX
noncomputable def SW (t:List Atom) (b:Blk) (i:Nat):SS:=(b.ops.take i).foldl stp (s0 t)
structure At (t:List Atom) (b:Blk) (i:Nat) (ld inn:Int) (tb:List Atom) (V:List (List aj)) (ev:List Ev) (rg:List (List aj)):Prop where
 ld:ld=(SW t b i).ld
 inn:inn=(SW t b i).inn
 tb:tb=(SW t b i).t
 V:V=(SW t b i).vals++List.replicate (b.ops.length-i) []
 ev:ev=(SW t b i).evs
 rg:rg=(SW t b i).regs
theorem At.ar0 {t:List Atom} {b:Blk} {i:Nat} {ld inn:Int} {tb:List Atom} {V:List (List aj)} {ev:List Ev} {rg:List (List aj)} (h:At t b i ld inn tb V ev rg) (hv:(SW t b i).vals.length=i) (hi:i≤b.ops.length):V.length=b.ops.length:=by
 rw [h.V,List.length_append,List.length_replicate,hv];omega
theorem Vu (t:List Atom):∀(l:List IOp) (s:SS),(l.foldl stp s).evs.length≤s.evs.length+l.length
 | [],s=>Nat.le_refl _
 | o::r,s=>by
  rw [List.foldl_cons,List.length_cons]
  have h1:=Vu t r (stp s o)
  have h2:(stp s o).evs.length≤s.evs.length+1:=by
   show(nE s o).length≤_
   unfold nE;split
   ·rw [List.length_append];exact Nat.le_refl _
   ·omega
  omega
theorem ais {t:List Atom} {b:Blk} (i:Nat) (hi:i≤b.ops.length):(SW t b i).evs.length≤i:=by
 have:=Vu t (b.ops.take i) (s0 t)
 rw [List.length_take,Nat.min_eq_left hi]at this
 show((b.ops.take i).foldl stp (s0 t)).evs.length≤i
 have e:(s0 t).evs.length=0:=rfl
 omega
theorem acV {t:List Atom} {b:Blk} {i:Nat} (hi:i<b.ops.length):SW t b (i+1)=stp (SW t b i) (b.ops.getD i default):=by
 unfold SW;rw [nQ _ _ hi,getD_lt hi]
theorem At.next {t:List Atom} {b:Blk} {i:Nat} {ld inn:Int} {tb:List Atom} {V:List (List aj)} {ev:List Ev} {rg:List (List aj)} (h:At t b i ld inn tb V ev rg) (hv:(SW t b i).vals.length=i) (hi:i<b.ops.length) {o:IOp} (ho:b.ops.getD i default=o)
  {ld' aaq:Int} {tb':List Atom} {V':List (List aj)} {ev':List Ev} {rg':List (List aj)} (h1:ld'=if o.kind=4 then ld+1 else ld) (h2:aaq=if o.kind=6 then inn+1 else inn) (h3:tb'=nT (SW t b i) o) (h4:V'=V.set i (nV (SW t b i) o)) (h5:ev'=nE (SW t b i) o) (h6:rg'=nR (SW t b i) o):At t b (i+1) ld' aaq tb' V' ev' rg':=by
 have e:=acV (t:=t) hi
 rw [ho]at e
 refine⟨?_,?_,?_,?_,?_,?_⟩<;>rw [e]
 ·rw [h1,h.ld];rfl
 ·rw [h2,h.inn];rfl
 ·exact h3
 ·rw [h4,h.V]
  show _=((SW t b i).vals++ [nV (SW t b i) o])++_
  rw [List.set_append_right _ _ (by omega),hv,Nat.sub_self,show b.ops.length-i=(b.ops.length- (i+1))+1 by omega,List.replicate_succ,List.set_cons_zero,List.append_assoc];rfl
 ·exact h5
 ·exact h6
set_option maxHeartbeats 1000000 in
theorem ao5 {p1:Blk×Unit→Bool} {f1:Blk×Unit→Bool×Bool×Bool×Unit} (hp1:∀b,p1 (b,())=true) (hf1:∀b,f1 (b,())=(decide (b.fin≠1),decide (3≤b.fin),decide (b.fin≠2),()))
  {p2:Blk×Unit→Bool} {f2:Blk×Unit→Bool×Unit} (hp2:∀b,b.ops.length<1000000000→p2 (b,())=true) (hf2:∀b,b.ops.length<1000000000→f2 (b,())=(bp (dB b),()))
  {p3:IOp×Unit→Bool} {f3:IOp×Unit→Bool×Unit} (hp3:∀o,p3 (o,())=true) (hf3:∀o,f3 (o,())=(decide (evO o),()))
  {p4:IOp×Unit→Bool} {f4:IOp×Unit→Bool×Bool×Bool×Bool×Unit} (hp4:∀o,p4 (o,())=true) (hf4:∀o,f4 (o,())=(decide (hX o),decide (hY o),decide (hK o),decide (evO o),()))
  {p5:Int×Unit→Bool} {f5:Int×Unit→List aj×Unit} (hp5:∀n,p5 (n,())=true) (hf5:∀n,f5 (n,())=(aP n,()))
  {p6:Sym×Int×Unit→Bool} {f6:Sym×Int×Unit→Sym×Unit} (hp6:∀s n,ShY s→0≤s.fin→s.fin≤4→p6 (s,n,())=true) (hf6:∀s n,ShY s→0≤s.fin→s.fin≤4→f6 (s,n,())=(symEnd s n,()))
  {p7:List Atom×Unit→Bool} {f7:List Atom×Unit→Bool×Unit} (hp7:∀a,ShT a→p7 (a,())=true) (hf7:∀a,ShT a→f7 (a,())=(bp (aG a),()))
  {p8:List Atom×Unit→Bool} {f8:List Atom×Unit→List Atom×Unit} (hp8:∀a,ShT a→p8 (a,())=true) (hf8:∀a,ShT a→f8 (a,())=(a,()))
  {p9:List Atom×Int×List aj×List aj×Unit→Bool} {f9:List Atom×Int×List aj×List aj×Unit→List Atom×List aj×Bool×Unit} (hp9:∀(t:List Atom) op x y,t.length<1000000000→Sh x→Sh y→p9 (t,op,x,y,())=true)
  (hf9:∀(t:List Atom) op x y,t.length<1000000000→Sh x→Sh y→(f9 (t,op,x,y,())).1=(tDo t op x y).1∧(f9 (t,op,x,y,())).2.1=(tDo t op x y).2∧(f9 (t,op,x,y,())).2.2.1=tOk t op x y)
  {p10:Int×Int×List Atom×Bool×Unit→Bool} {f10:Int×Int×List Atom×Bool×Unit→List aj×List Atom×Bool×Unit} (ao6:∀kd k (t:List Atom) fl,t.length<1000000000→p10 (kd,k,t,fl,())=true)
  (ar1:∀kd k (t:List Atom) fl,t.length<1000000000→f10 (kd,k,t,fl,())=if(bf t ⟨kd,k,[],[]⟩).2<0 then([],t,true,())else(dz (bf t ⟨kd,k,[],[]⟩).2,(bf t ⟨kd,k,[],[]⟩).1,fl,()))
  {p11:List Atom×Bool×Unit→Bool} {f11:List Atom×Bool×Unit→List Atom×Bool×List (List aj)×Unit} (ar2:∀(t:List Atom) fl,aG t→t.length≤196→p11 (t,fl,())=true) (ar3:∀(t:List Atom) fl,aG t→t.length≤196→f11 (t,fl,())=((rN t 4).1,fl,(rN t 4).2,()))
  {p12:List (List aj)×Unit→Bool} {f12:List (List aj)×Unit→List (List aj)×List (List aj)×Unit} (ao7:∀a:List (List aj),0<a.length→a.length<1000000000→p12 (a,())=true) (ao8:∀a:List (List aj),0<a.length→a.length<1000000000→f12 (a,())=(a,a,()))
  (t:List Atom) (b:Blk) (ht:ShT t) (hb:b.ops.length<1000000000):ZA (std 0) p1 f1 p2 f2 p3 f3 p4 f4 p5 f5 p6 f6 p7 f7 p8 f8 p9 f9 p10 f10 p11 f11 p12 f12 (t,b,()) (fun y=>y=((bD t b).1,(bD t b).2,())):=by
 have hlt:=ht.1
 dsimp only [ZA,Alg.cl,Alg.cg,Alg.rb,Alg.bd,Alg.l1,Tup.q,Tup.o]
 simp (disch:=omega) only [RR,RB,hp7 t ht,hf7 t ht,hp2 b hb,hf2 b hb]
 by_cases c:aG t∧t.length≤100∧dB b
 case neg=>
  refine⟨fun _=> ?_,fun h=> ?_⟩
  ·unfold bD;rw [iB c];rfl
  ·exact absurd ⟨bR.1 h.1.1,by omega,bR.1 h.2⟩ c
 obtain⟨c1,c2,c3⟩:=c
 simp (disch:=omega) only [RR,bO c1,bO c3,ar2 t false c1 (by omega),ar3 t false c1 (by omega)]
 have sz:=c3.sz
 have hop:=c3.op
 have hk3:=c3.k3
 have i0:=zI c1 (by omega)
 have siw:∀j:Nat,j≤b.ops.length→SI (t.length+4) j (SW t b j):=fun j hj=>by
  have:=(yI (b.ops.take j) 0 (s0 t) i0 (fun o ho=>hk3 o (List.mem_of_mem_take ho)) (by rw [List.length_take];omega) (by rw [List.length_take];omega)).1
  rw [List.length_take,Nat.min_eq_left hj,Nat.zero_add]at this;exact this
 refine⟨fun h=>absurd h (by omega),fun _=>⟨by omega,by omega,?_⟩⟩
 refine aA (fun(y:Int×Int×List IOp×Int×Int×Blk×Int×Int×List Atom×Bool×Int×Int×List (List aj)×List Ev×List (List aj)×Unit)=>y.2.2.2.2.2.1=b∧y.2.2.1=b.ops∧y.2.2.2.1=b.ops.length∧y.2.2.2.2.2.2.2.2.2.1=false∧y.2.2.2.2.2.2.2.2.2.2.1=b.fin∧y.2.2.2.2.2.2.2.2.2.2.2.1=b.k∧
   0≤y.2.2.2.2.1∧y.2.2.2.2.1≤b.ops.length∧At t b y.2.2.2.2.1.toNat y.1 y.2.1 y.2.2.2.2.2.2.2.2.1 y.2.2.2.2.2.2.2.2.2.2.2.2.1 y.2.2.2.2.2.2.2.2.2.2.2.2.2.1 y.2.2.2.2.2.2.2.2.2.2.2.2.2.2.1) (fun y=>(b.ops.length-y.2.2.2.2.1).toNat)
  ⟨rfl,rfl,rfl,rfl,rfl,rfl,by simp,by simp,⟨rfl,rfl,rfl,rfl,rfl,rfl⟩⟩ ?_
 rintro⟨(ld:Int),(inn:Int),(ops:List IOp),(n:Int),(i:Int),(b':Blk),(z1:Int),(z2:Int),(tb:List Atom),(fl:Bool),(fin:Int),(kk:Int),(V:List (List aj)),(ev:List Ev),(rg:List (List aj)),⟨⟩⟩ hI
 dsimp only at hI ⊢
 obtain⟨e1,e2,e3,e4,e5,e6,h1,h2,hA⟩:=hI
 subst e1 e2 e3 e4 e5 e6
 have hl:V.length=b'.ops.length:=hA.ar0 (siw i.toNat (by omega)).vl (by omega)
 have si:=siw i.toNat (by omega)
 obtain⟨a1,a2,a3,a4,a5,a6⟩:=hA
 have tl:tb.length<1000000000:=by rw [a3];have:=si.tl;omega
 have r4:rg.length=4:=by rw [a6];exact si.r4
 have evl:ev.length≤i.toNat:=by rw [a5];exact ais i.toNat (by omega)
 by_cases h7:i<b'.ops.length
 case neg=>
  have en:=c3.en
  have hf:=en.f
  have hpc:=c3.pc
  have hln:=c3.ln
  have ein:i.toNat=b'.ops.length:=by omega
  have eS:SW t b' i.toNat=cB t b':=by unfold SW cB;rw [ein,List.take_of_length_le (Nat.le_refl _)]
  rw [eS]at a1 a2 a3 a4 a5 a6 si
  have eV:V=(cB t b').vals:=by rw [a4,ein,Nat.sub_self];simp
  clear a4
  have pk:=KO (b:=b') si
  have eR:=jr c1 c2 c3
  have sh:ShY (jq b' (cB t b')):=by
   have i0:=zI c1 (by omega)
   have hs:=SF b'.ops 0 (s0 t) i0 hk3 (by omega) (by omega) ⟨by simp [s0],fun e he=>absurd he (by simp [s0])⟩
   exact⟨⟨by have:=hs.1;show(b'.ops.foldl stp (s0 t)).evs.length<_;omega,hs.2⟩,si.regs,pk.1.sh,pk.2.sh⟩
  have st:=si.tok.sh
  have q6:=hp6 (jq b' (cB t b')) (b'.pc+b'.len) sh (by show 0≤b'.fin;omega) hf.2
  have r6:=hf6 (jq b' (cB t b')) (b'.pc+b'.len) sh (by show 0≤b'.fin;omega) hf.2
  subst a1 a2 a3 a5 a6 eV
  have x1:=en.x1
  have y1:=en.y1
  have sl:=si.vl
  have E:jq b' (cB t b')=⟨(cB t b').evs,(cB t b').regs,b'.fin,if b'.fin=1 then []else(((cB t b').vals).getD (b'.x).toNat default),if 3≤b'.fin then(((cB t b').vals).getD (b'.y).toNat default)else [],b'.k⟩:=rfl
  rw [E]at q6 r6
  rcases(by omega:b'.fin=1∨b'.fin=2∨3≤b'.fin)with c | c | c
  ·have n2:¬3≤b'.fin:=by omega
   rw [if_pos c,if_neg n2]at q6 r6
   simp (disch:=omega) only [RR,RB,h7,hp1,hf1,decide_eq_false n2,c,ne_eq,not_true_eq_false,decide_false,hp8 _ st,hf8 _ st]
   rw [c]at q6 r6
   rw [eR,E,if_pos c,if_neg n2,c]
   exact⟨fun h=>absurd h (by omega),fun _=>⟨q6,by rw [r6]⟩⟩
  ·have n1:b'.fin≠1:=by omega
   have n2:¬3≤b'.fin:=by omega
   obtain⟨v1,v2,_⟩:=x1 n1
   rw [if_neg n1,if_neg n2]at q6 r6
   simp (disch:=omega) only [RR,RB,h7,hp1,hf1,decide_eq_true n1,decide_eq_false n2,hp8 _ st,hf8 _ st]
   rw [eR,E,if_neg n1,if_neg n2]
   exact⟨v1,by omega,v1,by omega,q6,by rw [r6]⟩
  ·have n1:b'.fin≠1:=by omega
   obtain⟨v1,v2,_⟩:=x1 n1
   obtain⟨w1,w2,_⟩:=y1 c
   rw [if_neg n1,if_pos c]at q6 r6
   simp (disch:=omega) only [RR,RB,h7,hp1,hf1,decide_eq_true n1,decide_eq_true c,hp8 _ st,hf8 _ st]
   rw [eR,E,if_neg n1,if_pos c]
   exact⟨v1,by omega,v1,by omega,w1,by omega,w1,by omega,q6,by rw [r6]⟩
 have hok:=hop i h1 h7
 have nxt:=fun {ld' aaq:Int} {tb':List Atom} {V':List (List aj)} {ev':List Ev} {rg':List (List aj)}=>At.next (t:=t) (b:=b') (i:=i.toNat) (o:=((b'.ops).getD (i).toNat default)) ⟨a1,a2,a3,a4,a5,a6⟩ si.vl (by omega) rfl (ld':=ld') (aaq:=aaq) (tb':=tb') (V':=V') (ev':=ev') (rg':=rg')
 have ei:(i+1).toNat=i.toNat+1:=by omega
 have vx:∀j:Int,0≤j→j<i→((V).getD (j).toNat default)=(((SW t b' i.toNat).vals).getD (j).toNat default):=fun j j1 j2=>by
  have:=si.vl
  rw [a4,getD_lt (by rw [List.length_append];omega),getD_lt (by omega),List.getElem_append_left]
 have ex:hX ((b'.ops).getD (i).toNat default)→((V).getD ((((b'.ops).getD (i).toNat default)).x).toNat default)=xOf (SW t b' i.toNat) ((b'.ops).getD (i).toNat default):=fun h=>by
  unfold xOf;rw [if_pos h];exact vx _ (hok.x1 h).1 (hok.x1 h).2.1
 have ey:hY ((b'.ops).getD (i).toNat default)→((V).getD ((((b'.ops).getD (i).toNat default)).y).toNat default)=yOf (SW t b' i.toNat) ((b'.ops).getD (i).toNat default):=fun h=>by
  unfold yOf;rw [if_pos h];exact vx _ (hok.y1 h).1 (hok.y1 h).2.1
 have v0:V.set i.toNat []=V:=by
  have:=si.vl
  rw [a4,List.set_append_right _ _ (by omega),this,Nat.sub_self,show b'.ops.length-i.toNat=(b'.ops.length- (i.toNat+1))+1 by omega,List.replicate_succ,List.set_cons_zero]
 obtain⟨sn,so⟩:=yH (o:=((b'.ops).getD (i).toNat default)) si hok.k3 (by omega) (by omega)
 have gl:=si.ld
 have gi:=si.inn
 have shx:=(si.x ((b'.ops).getD (i).toNat default)).1.sh
 have shy:=(si.y ((b'.ops).getD (i).toNat default)).1.sh
 generalize hs:SW t b' i.toNat=s at*
 generalize ho:((b'.ops).getD (i).toNat default)=o at*
 have kd:=hok.kd
 subst a1 a2 a3 a5 a6
 have L0:o.kind≠4→s.ld=if o.kind=4 then s.ld+1 else s.ld:=fun h=>by rw [if_neg h]
 have I0:o.kind≠6→s.inn=if o.kind=6 then s.inn+1 else s.inn:=fun h=>by rw [if_neg h]
 have T0:o.kind≠3→o.kind≠4→o.kind≠6→s.t=nT s o:=fun h3 h4 h6=>by unfold nT;rw [if_neg h3,if_neg (by omega)]
 have R0:o.kind≠8→s.regs=nR s o:=fun h=>by unfold nR;rw [if_neg h]
 have E0:¬evO o→s.evs=nE s o:=fun h=>by unfold nE;rw [if_neg h]
 have V0:o.kind=5∨o.kind=7∨o.kind=8→V=V.set i.toNat (nV s o):=fun h=>by
  rw [show nV s o=[] by unfold nV;rw [if_neg (by omega),if_neg (by omega),if_neg (by omega),if_neg (by omega)],v0]
 have P0:∀kd k,0≤(bf s.t ⟨kd,k,[],[]⟩).2→f10 (kd,k,s.t,false,())=(dz (bf s.t ⟨kd,k,[],[]⟩).2,(bf s.t ⟨kd,k,[],[]⟩).1,false,()):=fun kd k h=>by
  rw [ar1 _ _ _ _ tl,if_neg (by omega)]
 have y0:¬hY o→yOf s o=[]:=fun h=>by unfold yOf;rw [if_neg h]
 have x0:¬hX o→xOf s o=[]:=fun h=>by unfold xOf;rw [if_neg h]
 rcases(by omega:o.kind=1∨o.kind=2∨o.kind=3∨o.kind=4∨o.kind=5∨o.kind=6∨o.kind=7∨o.kind=8)with c | c | c | c | c | c | c | c
 ·have dX:decide (hX o)=false:=decide_eq_false (by unfold hX;omega)
  have dY:decide (hY o)=false:=decide_eq_false (by unfold hY;omega)
  have dE:decide (evO o)=false:=decide_eq_false (by unfold evO;omega)
  have N:At t b' (i.toNat+1) s.ld s.inn s.t (V.set i.toNat (aP o.k)) s.evs s.regs:=nxt (L0 (by omega)) (I0 (by omega)) (T0 (by omega) (by omega) (by omega)) (by unfold nV;rw [if_pos c]) (E0 (by unfold evO;omega)) (R0 (by omega))
  simp (disch:=omega) only [RR,RB,ho,h7,hp4,hf4,hp3,hf3,dX,dY,dE,c,Int.reduceEq,List.length_cons,List.length_nil,hp5,hf5]
  repeat' apply And.intro
  all_goals first | omega | (rw [ei];exact N)
 ·have dX:decide (hX o)=false:=decide_eq_false (by unfold hX;omega)
  have dY:decide (hY o)=false:=decide_eq_false (by unfold hY;omega)
  have dE:decide (evO o)=false:=decide_eq_false (by unfold evO;omega)
  have k2:=hok.k2 (Or.inl c)
  have N:At t b' (i.toNat+1) s.ld s.inn s.t (V.set i.toNat ((s.regs).getD (o.k).toNat default)) s.evs s.regs:=nxt (L0 (by omega)) (I0 (by omega)) (T0 (by omega) (by omega) (by omega)) (by unfold nV;rw [if_neg (by omega),if_pos c]) (E0 (by unfold evO;omega)) (R0 (by omega))
  simp (disch:=omega) only [RR,RB,ho,h7,hp4,hf4,hp3,hf3,dX,dY,dE,c,Int.reduceEq,List.length_cons,List.length_nil,r4]
  repeat' apply And.intro
  all_goals first | omega | (rw [ei];exact N)
 ·have dX:decide (hX o)=true:=decide_eq_true (by unfold hX;omega)
  have dY:decide (hY o)=true:=decide_eq_true (by unfold hY;omega)
  have dE:decide (evO o)=false:=decide_eq_false (by unfold evO;omega)
  have v1:=hok.x1 (by unfold hX;omega)
  have v2:=hok.y1 (by unfold hY;omega)
  have u1:=v1.2.1
  have u2:=v2.2.1
  have w1:=v1.1
  have w2:=v2.1
  obtain⟨d1,d2,d3⟩:=hf9 s.t o.k _ _ tl shx shy
  have d4:=(so.d c).ok
  have N:At t b' (i.toNat+1) s.ld s.inn (tDo s.t o.k (xOf s o) (yOf s o)).1 (V.set i.toNat (tDo s.t o.k (xOf s o) (yOf s o)).2) s.evs s.regs:=nxt (L0 (by omega)) (I0 (by omega)) (by unfold nT;rw [if_pos c]) (by unfold nV;rw [if_neg (by omega),if_neg (by omega),if_pos c]) (E0 (by unfold evO;omega)) (R0 (by omega))
  simp (disch:=omega) only [RR,RB,ho,h7,hp4,hf4,hp3,hf3,dX,dY,dE,c,Int.reduceEq,List.length_cons,List.length_nil,ex (by unfold hX;omega),ey (by unfold hY;omega),hp9 s.t o.k _ _ tl shx shy,d1,d2,d3,d4]
  repeat' apply And.intro
  all_goals first | omega | (rw [ei];exact N)
 ·have dX:decide (hX o)=true:=decide_eq_true (by unfold hX;omega)
  have dY:decide (hY o)=false:=decide_eq_false (by unfold hY;omega)
  have dE:decide (evO o)=true:=decide_eq_true (by unfold evO;omega)
  have v1:=hok.x1 (by unfold hX;omega)
  have u1:=v1.2.1
  have w1:=v1.1
  have ea:aOf s o=⟨2,s.ld,[],[]⟩:=by unfold aOf;rw [if_pos c]
  have pp:=so.p (Or.inl c)
  rw [ea]at pp
  have N:At t b' (i.toNat+1) (s.ld+1) s.inn (bf s.t ⟨2,s.ld,[],[]⟩).1 (V.set i.toNat (dz (bf s.t ⟨2,s.ld,[],[]⟩).2)) (s.evs++ [⟨4,o.at_,xOf s o,[],s.regs⟩]) s.regs:=nxt (by rw [if_pos c]) (I0 (by omega)) (by unfold nT;rw [if_neg (by omega),if_pos (Or.inl c),ea]) (by unfold nV;rw [if_neg (by omega),if_neg (by omega),if_neg (by omega),if_pos (Or.inl c),ea]) (by unfold nE;rw [if_pos (by unfold evO;omega),if_pos (Or.inl c),c,y0 (by unfold hY;omega)]) (R0 (by omega))
  simp (disch:=omega) only [RR,RB,ho,h7,hp4,hf4,hp3,hf3,dX,dY,dE,c,Int.reduceEq,List.length_cons,List.length_nil,ex (by unfold hX;omega),ao7 s.regs (by omega) (by omega),ao8 s.regs (by omega) (by omega),ao6 2 s.ld s.t false tl,P0 2 s.ld pp]
  repeat' apply And.intro
  all_goals first | omega | (rw [ei];exact N)
 ·have dX:decide (hX o)=true:=decide_eq_true (by unfold hX;omega)
  have dY:decide (hY o)=true:=decide_eq_true (by unfold hY;omega)
  have dE:decide (evO o)=true:=decide_eq_true (by unfold evO;omega)
  have v1:=hok.x1 (by unfold hX;omega)
  have v2:=hok.y1 (by unfold hY;omega)
  have u1:=v1.2.1
  have u2:=v2.2.1
  have w1:=v1.1
  have w2:=v2.1
  have N:At t b' (i.toNat+1) s.ld s.inn s.t V (s.evs++ [⟨5,o.at_,xOf s o,yOf s o,s.regs⟩]) s.regs:=nxt (L0 (by omega)) (I0 (by omega)) (T0 (by omega) (by omega) (by omega)) (V0 (by omega)) (by unfold nE;rw [if_pos (by unfold evO;omega),if_pos (Or.inr c),c]) (R0 (by omega))
  simp (disch:=omega) only [RR,RB,ho,h7,hp4,hf4,hp3,hf3,dX,dY,dE,c,Int.reduceEq,List.length_cons,List.length_nil,ex (by unfold hX;omega),ey (by unfold hY;omega),ao7 s.regs (by omega) (by omega),ao8 s.regs (by omega) (by omega)]
  repeat' apply And.intro
  all_goals first | omega | (rw [ei];exact N)
 ·have dX:decide (hX o)=false:=decide_eq_false (by unfold hX;omega)
  have dY:decide (hY o)=false:=decide_eq_false (by unfold hY;omega)
  have dE:decide (evO o)=true:=decide_eq_true (by unfold evO;omega)
  have ea:aOf s o=⟨3,s.inn,[],[]⟩:=by unfold aOf;rw [if_neg (by omega)]
  have pp:=so.p (Or.inr c)
  rw [ea]at pp
  have N:At t b' (i.toNat+1) s.ld (s.inn+1) (bf s.t ⟨3,s.inn,[],[]⟩).1 (V.set i.toNat (dz (bf s.t ⟨3,s.inn,[],[]⟩).2)) (s.evs++ [⟨6,o.at_,[],[],[]⟩]) s.regs:=nxt (L0 (by omega)) (by rw [if_pos c]) (by unfold nT;rw [if_neg (by omega),if_pos (Or.inr c),ea]) (by unfold nV;rw [if_neg (by omega),if_neg (by omega),if_neg (by omega),if_pos (Or.inr c),ea]) (by unfold nE;rw [if_pos (by unfold evO;omega),if_neg (by omega),c,x0 (by unfold hX;omega),y0 (by unfold hY;omega)]) (R0 (by omega))
  simp (disch:=omega) only [RR,RB,ho,h7,hp4,hf4,hp3,hf3,dX,dY,dE,c,Int.reduceEq,List.length_cons,List.length_nil,ao6 3 s.inn s.t false tl,P0 3 s.inn pp]
  repeat' apply And.intro
  all_goals first | omega | (rw [ei];exact N)
 ·have dX:decide (hX o)=true:=decide_eq_true (by unfold hX;omega)
  have dY:decide (hY o)=false:=decide_eq_false (by unfold hY;omega)
  have dE:decide (evO o)=true:=decide_eq_true (by unfold evO;omega)
  have v1:=hok.x1 (by unfold hX;omega)
  have u1:=v1.2.1
  have w1:=v1.1
  have N:At t b' (i.toNat+1) s.ld s.inn s.t V (s.evs++ [⟨7,o.at_,xOf s o,[],[]⟩]) s.regs:=nxt (L0 (by omega)) (I0 (by omega)) (T0 (by omega) (by omega) (by omega)) (V0 (by omega)) (by unfold nE;rw [if_pos (by unfold evO;omega),if_neg (by omega),c,y0 (by unfold hY;omega)]) (R0 (by omega))
  simp (disch:=omega) only [RR,RB,ho,h7,hp4,hf4,hp3,hf3,dX,dY,dE,c,Int.reduceEq,List.length_cons,List.length_nil,ex (by unfold hX;omega)]
  repeat' apply And.intro
  all_goals first | omega | (rw [ei];exact N)
 ·have dX:decide (hX o)=true:=decide_eq_true (by unfold hX;omega)
  have dY:decide (hY o)=false:=decide_eq_false (by unfold hY;omega)
  have dE:decide (evO o)=false:=decide_eq_false (by unfold evO;omega)
  have v1:=hok.x1 (by unfold hX;omega)
  have u1:=v1.2.1
  have w1:=v1.1
  have k2:=hok.k2 (Or.inr c)
  have N:At t b' (i.toNat+1) s.ld s.inn s.t V s.evs (s.regs.set o.k.toNat (xOf s o)):=nxt (L0 (by omega)) (I0 (by omega)) (T0 (by omega) (by omega) (by omega)) (V0 (by omega)) (E0 (by unfold evO;omega)) (by unfold nR;rw [if_pos c])
  simp (disch:=omega) only [RR,RB,ho,h7,hp4,hf4,hp3,hf3,dX,dY,dE,c,Int.reduceEq,List.length_cons,List.length_nil,ex (by unfold hX;omega),r4]
  repeat' apply And.intro
  all_goals first | omega | (rw [ei];exact N)
end Go.TX.F
namespace Go.TX.F
open Go Go.AE Go.TX
theorem ait (i:Ins):Ri (std 0) (i,()) (fun _=>True):=by
 dsimp only [Ri,Alg.cl,Alg.cg,Alg.rb,Alg.bd,Alg.l1,Tup.q,Tup.o]
 simp (disch:=omega) only [RR]
theorem aiu {p1:Int×Int×Int×Unit→Bool} {f1:Int×Int×Int×Unit→Bool×Unit} (hp1:∀a b c,p1 (a,b,c,())=true) (hf1:∀a b c,f1 (a,b,c,())=(inB a b c,())) {p2:Ins×Unit→Bool} {f2:Ins×Unit→Bool×Unit} (hp2:∀i,p2 (i,())=true) (i:Ins):Rj (std 0) p1 f1 p2 f2 (i,()) (fun _=>True):=by
 dsimp only [Rj,Alg.cl,Alg.cg,Alg.rb,Alg.bd,Alg.l1,Tup.q,Tup.o]
 simp (disch:=omega) only [RR,hp1,hp2]
theorem aiv (i:Int):Rk (std 0) (i,()) (fun _=>True):=by
 dsimp only [Rk,Alg.cl,Alg.cg,Alg.rb,Alg.bd,Alg.l1,Tup.q,Tup.o]
theorem aiw {p1:Int×Unit→Bool} {f1:Int×Unit→Bool×Unit} (hp1:∀i,p1 (i,())=true) {p2:Ins×Unit→Bool} {f2:Ins×Unit→Bool×Unit} (hp2:∀i,p2 (i,())=true) (i:Ins):Rl (std 0) p1 f1 p2 f2 (i,()) (fun _=>True):=by
 dsimp only [Rl,Alg.cl,Alg.cg,Alg.rb,Alg.bd,Alg.l1,Tup.q,Tup.o]
 simp (disch:=omega) only [RR,hp1,hp2]
theorem aix {p1:Int×Unit→Bool} {f1:Int×Unit→Bool×Unit} (hp1:∀i,p1 (i,())=true) {p2:Ins×Unit→Bool} {f2:Ins×Unit→Bool×Unit} (hp2:∀i,p2 (i,())=true) {p3:Int×Int×Int×Unit→Bool} {f3:Int×Int×Int×Unit→Bool×Unit} (hp3:∀a b c,p3 (a,b,c,())=true) (hf3:∀a b c,f3 (a,b,c,())=(inB a b c,())) {p4:Ins×Unit→Bool} {f4:Ins×Unit→Bool×Unit} (hp4:∀i,p4 (i,())=true) (pc:Int) (l:List Ins) (hl:(l.length:Int)<1000):Rw (std 0) p1 f1 p2 f2 p3 f3 p4 f4 (pc,l,()) (fun _=>True):=by
 dsimp only [Rw,Alg.cl,Alg.cg,Alg.rb,Alg.bd,Alg.l1,Tup.q,Tup.o]
 simp (disch:=omega) only [RR,hp1,hp2,hp3,hp4]
 refine fun _=> ?_
 refine aA (fun(y:List Ins×Int×Unit)=>y.1=l∧0≤y.2.1) (fun y=>((l.length:Int)-y.2.1).toNat) ⟨rfl,by simp⟩ ?_
 rintro⟨(l':List Ins),(j:Int),⟨⟩⟩ hI
 dsimp only at hI ⊢
 obtain⟨rfl,h1⟩:=hI
 simp (disch:=omega) only [RR,hp1,hp2,hp3,hp4,or_true]
 refine fun h=>⟨h1,h,by omega,by omega,by omega,by omega,fun _=> ?_⟩
 rw [w64 (by omega) (by omega)];constructor<;>omega
theorem aar (a1 a2 a3 a4 a5 a6:Int) (o:IOp) (ops:List IOp) (hl:(ops.length:Int)<1000000):Rx (std 0) (a1,a2,a3,a4,a5,a6,o,ops,()) (fun y=>(y.2.2.2.2.2.2.2.1.length:Int)=ops.length+1):=by
 dsimp only [Rx,Alg.cl,Alg.cg,Alg.rb,Alg.bd,Alg.l1,Tup.q,Tup.o]
 simp (disch:=omega) only [RR,List.length_append,List.length_cons,List.length_nil]
 omega
theorem aas {p1:Int×Int×Int×Int×Int×Int×IOp×List IOp×Unit→Bool} {f1:Int×Int×Int×Int×Int×Int×IOp×List IOp×Unit→Int×Int×Int×Int×Int×Int×Int×List IOp×Unit} (hp1:∀a1 a2 a3 a4 a5 a6 o ops,(ops.length:Int)<1000000→p1 (a1,a2,a3,a4,a5,a6,o,ops,())=true) (hf1:∀a1 a2 a3 a4 a5 a6 o ops,(ops.length:Int)<1000000→((f1 (a1,a2,a3,a4,a5,a6,o,ops,())).2.2.2.2.2.2.2.1.length:Int)=ops.length+1) (a1 a2 a3 a4 a5 a6:Int) (k:Int) (ops:List IOp) (hl:(ops.length:Int)<1000000):Rz (std 0) p1 f1 (a1,a2,a3,a4,a5,a6,k,ops,()) (fun y=>(y.2.2.2.2.2.2.2.1.length:Int)=ops.length+1):=by
 dsimp only [Rz,Alg.cl,Alg.cg,Alg.rb,Alg.bd,Alg.l1,Tup.q,Tup.o]
 simp (disch:=omega) only [RR,hp1,hf1]
theorem aat {p1:Int×Int×Int×Int×Int×Int×IOp×List IOp×Unit→Bool} {f1:Int×Int×Int×Int×Int×Int×IOp×List IOp×Unit→Int×Int×Int×Int×Int×Int×Int×List IOp×Unit} (hp1:∀a1 a2 a3 a4 a5 a6 o ops,(ops.length:Int)<1000000→p1 (a1,a2,a3,a4,a5,a6,o,ops,())=true) (hf1:∀a1 a2 a3 a4 a5 a6 o ops,(ops.length:Int)<1000000→((f1 (a1,a2,a3,a4,a5,a6,o,ops,())).2.2.2.2.2.2.2.1.length:Int)=ops.length+1) (a1 a2 a3 a4 a5 a6:Int) (k x:Int) (ops:List IOp) (hl:(ops.length:Int)<1000000):Ry (std 0) p1 f1 (a1,a2,a3,a4,a5,a6,k,x,ops,()) (fun y=>(y.2.2.2.2.2.2.1.length:Int)=ops.length+1):=by
 dsimp only [Ry,Alg.cl,Alg.cg,Alg.rb,Alg.bd,Alg.l1,Tup.q,Tup.o]
 simp (disch:=omega) only [RR,hp1,hf1]
theorem aiy {p1:Int×Int×Int×Int×Int×Int×Int×List IOp×Unit→Bool} {f1:Int×Int×Int×Int×Int×Int×Int×List IOp×Unit→Int×Int×Int×Int×Int×Int×Int×List IOp×Unit} (hp1:∀a1 a2 a3 a4 a5 a6 k ops,(ops.length:Int)<1000000→p1 (a1,a2,a3,a4,a5,a6,k,ops,())=true) (hf1:∀a1 a2 a3 a4 a5 a6 k ops,(ops.length:Int)<1000000→((f1 (a1,a2,a3,a4,a5,a6,k,ops,())).2.2.2.2.2.2.2.1.length:Int)=ops.length+1) {p2:Int×Int×Int×Int×Int×Int×IOp×List IOp×Unit→Bool} {f2:Int×Int×Int×Int×Int×Int×IOp×List IOp×Unit→Int×Int×Int×Int×Int×Int×Int×List IOp×Unit} (hp2:∀a1 a2 a3 a4 a5 a6 o ops,(ops.length:Int)<1000000→p2 (a1,a2,a3,a4,a5,a6,o,ops,())=true) (hf2:∀a1 a2 a3 a4 a5 a6 o ops,(ops.length:Int)<1000000→((f2 (a1,a2,a3,a4,a5,a6,o,ops,())).2.2.2.2.2.2.2.1.length:Int)=ops.length+1) (a1 a2 a3 a4 a5 a6:Int) (k a:Int) (o:IOp) (ops:List IOp) (hl:(ops.length:Int)<999000):RA (std 0) p1 f1 p2 f2 (a1,a2,a3,a4,a5,a6,k,a,o,ops,()) (fun y=>(y.2.2.2.2.2.2.2.1.length:Int)=ops.length+3):=by
 dsimp only [RA,Alg.cl,Alg.cg,Alg.rb,Alg.bd,Alg.l1,Tup.q,Tup.o]
 simp (disch:=(first | omega | (simp (disch:=(first | omega | (simp (disch:=(first | omega | (simp (disch:=omega) only [hf1,hf2];omega))) only [hf1,hf2];omega))) only [hf1,hf2];omega))) only [RR,hp1,hp2,hf1,hf2]
 omega
theorem aiz {p1:Int×Int×Int×Int×Int×Int×Int×List IOp×Unit→Bool} {f1:Int×Int×Int×Int×Int×Int×Int×List IOp×Unit→Int×Int×Int×Int×Int×Int×Int×List IOp×Unit} (hp1:∀a1 a2 a3 a4 a5 a6 k ops,(ops.length:Int)<1000000→p1 (a1,a2,a3,a4,a5,a6,k,ops,())=true) (hf1:∀a1 a2 a3 a4 a5 a6 k ops,(ops.length:Int)<1000000→((f1 (a1,a2,a3,a4,a5,a6,k,ops,())).2.2.2.2.2.2.2.1.length:Int)=ops.length+1) {p2:Int×Int×Int×Int×Int×Int×IOp×List IOp×Unit→Bool} {f2:Int×Int×Int×Int×Int×Int×IOp×List IOp×Unit→Int×Int×Int×Int×Int×Int×Int×List IOp×Unit} (hp2:∀a1 a2 a3 a4 a5 a6 o ops,(ops.length:Int)<1000000→p2 (a1,a2,a3,a4,a5,a6,o,ops,())=true) (hf2:∀a1 a2 a3 a4 a5 a6 o ops,(ops.length:Int)<1000000→((f2 (a1,a2,a3,a4,a5,a6,o,ops,())).2.2.2.2.2.2.2.1.length:Int)=ops.length+1) {p3:Int×Int×Int×Int×Int×Int×Int×Int×IOp×List IOp×Unit→Bool} {f3:Int×Int×Int×Int×Int×Int×Int×Int×IOp×List IOp×Unit→Int×Int×Int×Int×Int×Int×Int×List IOp×Unit} (hp3:∀a1 a2 a3 a4 a5 a6 k a o ops,(ops.length:Int)<999000→p3 (a1,a2,a3,a4,a5,a6,k,a,o,ops,())=true) (hf3:∀a1 a2 a3 a4 a5 a6 k a o ops,(ops.length:Int)<999000→((f3 (a1,a2,a3,a4,a5,a6,k,a,o,ops,())).2.2.2.2.2.2.2.1.length:Int)=ops.length+3) {p4:Int×Int×Int×Int×Int×Int×Int×Int×List IOp×Unit→Bool} {f4:Int×Int×Int×Int×Int×Int×Int×Int×List IOp×Unit→Int×Int×Int×Int×Int×Int×List IOp×Unit} (hp4:∀a1 a2 a3 a4 a5 a6 k x ops,(ops.length:Int)<1000000→p4 (a1,a2,a3,a4,a5,a6,k,x,ops,())=true) (hf4:∀a1 a2 a3 a4 a5 a6 k x ops,(ops.length:Int)<1000000→((f4 (a1,a2,a3,a4,a5,a6,k,x,ops,())).2.2.2.2.2.2.1.length:Int)=ops.length+1) (a1 a2 a3 a4 a5 a6:Int) (i:Ins) (k:Int) (ops:List IOp) (hl:(ops.length:Int)<998000):RF (std 0) p1 f1 p2 f2 p3 f3 p4 f4 (a1,a2,a3,a4,a5,a6,i,k,ops,()) (fun y=>(y.2.2.2.2.2.2.1.length:Int)=ops.length+5):=by
 dsimp only [RF,Alg.cl,Alg.cg,Alg.rb,Alg.bd,Alg.l1,Tup.q,Tup.o]
 simp (disch:=(first | omega | (simp (disch:=(first | omega | (simp (disch:=(first | omega | (simp (disch:=omega) only [hf1,hf2,hf3,hf4];omega))) only [hf1,hf2,hf3,hf4];omega))) only [hf1,hf2,hf3,hf4];omega))) only [RR,hp1,hp2,hp3,hp4,hf1,hf2,hf3,hf4]
 constructor<;>intro _<;>omega
theorem aau {p1:Int×Int×Int×Int×Int×Int×Int×List IOp×Unit→Bool} {f1:Int×Int×Int×Int×Int×Int×Int×List IOp×Unit→Int×Int×Int×Int×Int×Int×Int×List IOp×Unit} (hp1:∀a1 a2 a3 a4 a5 a6 k ops,(ops.length:Int)<1000000→p1 (a1,a2,a3,a4,a5,a6,k,ops,())=true) (hf1:∀a1 a2 a3 a4 a5 a6 k ops,(ops.length:Int)<1000000→((f1 (a1,a2,a3,a4,a5,a6,k,ops,())).2.2.2.2.2.2.2.1.length:Int)=ops.length+1) (a1 a2 a3 a4 a5 a6:Int) (i:Ins) (ops:List IOp) (hl:(ops.length:Int)<999000):RG (std 0) p1 f1 (a1,a2,a3,a4,a5,a6,i,ops,()) (fun y=>(y.2.2.2.2.2.2.1.length:Int)≤ops.length+5):=by
 dsimp only [RG,Alg.cl,Alg.cg,Alg.rb,Alg.bd,Alg.l1,Tup.q,Tup.o]
 simp (disch:=(first | omega | (simp (disch:=(first | omega | (simp (disch:=(first | omega | (simp (disch:=omega) only [hf1];omega))) only [hf1];omega))) only [hf1];omega))) only [RR,hp1,hf1]
 refine⟨fun _=>by omega,fun _=>⟨fun _=>by omega,fun _=>by omega⟩⟩
theorem aiA (k:Int) (hk:k<1000):RD (std 0) (k,()) (fun _=>True):=by
 dsimp only [RD,Alg.cl,Alg.cg,Alg.rb,Alg.bd,Alg.l1,Tup.q,Tup.o]
 simp (disch:=omega) only [RR]
 refine aA (fun(y:Int×Int×Int×Unit)=>y.1=k∧0≤y.2.2.1) (fun y=>(k-y.2.2.1).toNat) ⟨rfl,by simp⟩ ?_
 rintro⟨(k':Int),(z:Int),(j:Int),⟨⟩⟩ hI
 dsimp only at hI ⊢
 obtain⟨rfl,h1⟩:=hI
 simp (disch:=omega) only [RR]
 refine fun h=> ?_
 rw [w64 (by omega) (by omega)];constructor<;>omega
theorem aiB {p1:Int×Int×Int×Int×Int×Int×Int×List IOp×Unit→Bool} {f1:Int×Int×Int×Int×Int×Int×Int×List IOp×Unit→Int×Int×Int×Int×Int×Int×Int×List IOp×Unit} (hp1:∀a1 a2 a3 a4 a5 a6 k ops,(ops.length:Int)<1000000→p1 (a1,a2,a3,a4,a5,a6,k,ops,())=true) (hf1:∀a1 a2 a3 a4 a5 a6 k ops,(ops.length:Int)<1000000→((f1 (a1,a2,a3,a4,a5,a6,k,ops,())).2.2.2.2.2.2.2.1.length:Int)=ops.length+1) {p2:Int×Int×Int×Int×Int×Int×Ins×List IOp×Unit→Bool} {f2:Int×Int×Int×Int×Int×Int×Ins×List IOp×Unit→Int×Int×Int×Int×Int×Int×List IOp×Unit} (hp2:∀a1 a2 a3 a4 a5 a6 i ops,(ops.length:Int)<999000→p2 (a1,a2,a3,a4,a5,a6,i,ops,())=true) (hf2:∀a1 a2 a3 a4 a5 a6 i ops,(ops.length:Int)<999000→((f2 (a1,a2,a3,a4,a5,a6,i,ops,())).2.2.2.2.2.2.1.length:Int)≤ops.length+5) {p3:Int×Int×Int×Int×Int×Int×IOp×List IOp×Unit→Bool} {f3:Int×Int×Int×Int×Int×Int×IOp×List IOp×Unit→Int×Int×Int×Int×Int×Int×Int×List IOp×Unit} (hp3:∀a1 a2 a3 a4 a5 a6 o ops,(ops.length:Int)<1000000→p3 (a1,a2,a3,a4,a5,a6,o,ops,())=true) (hf3:∀a1 a2 a3 a4 a5 a6 o ops,(ops.length:Int)<1000000→((f3 (a1,a2,a3,a4,a5,a6,o,ops,())).2.2.2.2.2.2.2.1.length:Int)=ops.length+1) {p4:Int×Int×Int×Int×Int×Int×Ins×Int×List IOp×Unit→Bool} {f4:Int×Int×Int×Int×Int×Int×Ins×Int×List IOp×Unit→Int×Int×Int×Int×Int×Int×List IOp×Unit} (hp4:∀a1 a2 a3 a4 a5 a6 i k ops,(ops.length:Int)<998000→p4 (a1,a2,a3,a4,a5,a6,i,k,ops,())=true) (hf4:∀a1 a2 a3 a4 a5 a6 i k ops,(ops.length:Int)<998000→((f4 (a1,a2,a3,a4,a5,a6,i,k,ops,())).2.2.2.2.2.2.1.length:Int)=ops.length+5) {p5:Int×Int×Int×Int×Int×Int×Int×Int×IOp×List IOp×Unit→Bool} {f5:Int×Int×Int×Int×Int×Int×Int×Int×IOp×List IOp×Unit→Int×Int×Int×Int×Int×Int×Int×List IOp×Unit} (hp5:∀a1 a2 a3 a4 a5 a6 k a o ops,(ops.length:Int)<999000→p5 (a1,a2,a3,a4,a5,a6,k,a,o,ops,())=true) (hf5:∀a1 a2 a3 a4 a5 a6 k a o ops,(ops.length:Int)<999000→((f5 (a1,a2,a3,a4,a5,a6,k,a,o,ops,())).2.2.2.2.2.2.2.1.length:Int)=ops.length+3) {p6:Int×Int×Int×Int×Int×Int×Int×Int×List IOp×Unit→Bool} {f6:Int×Int×Int×Int×Int×Int×Int×Int×List IOp×Unit→Int×Int×Int×Int×Int×Int×List IOp×Unit} (hp6:∀a1 a2 a3 a4 a5 a6 k x ops,(ops.length:Int)<1000000→p6 (a1,a2,a3,a4,a5,a6,k,x,ops,())=true) (hf6:∀a1 a2 a3 a4 a5 a6 k x ops,(ops.length:Int)<1000000→((f6 (a1,a2,a3,a4,a5,a6,k,x,ops,())).2.2.2.2.2.2.1.length:Int)=ops.length+1) {p7:Int×Unit→Bool} {f7:Int×Unit→Int×Unit} (hp7:∀k,k<1000→p7 (k,())=true) (a1 a2 a3 a4 a5 a6:Int) (i:Ins) (k:Int) (ops:List IOp) (hk:i.k<1000) (hl:(ops.length:Int)<997000):RH (std 0) p1 f1 p2 f2 p3 f3 p4 f4 p5 f5 p6 f6 p7 f7 (a1,a2,a3,a4,a5,a6,i,k,ops,()) (fun y=>(y.2.2.2.2.2.2.1.length:Int)≤ops.length+5):=by
 have e4:=fun i k=>hf4 a1 a2 a3 a4 a5 a6 i k ops (by omega)
 have e2:=fun i=>hf2 a1 a2 a3 a4 a5 a6 i ops (by omega)
 dsimp only [RH,Alg.cl,Alg.cg,Alg.rb,Alg.bd,Alg.l1,Tup.q,Tup.o]
 simp (disch:=(first | omega | (simp (disch:=(first | omega | (simp (disch:=(first | omega | (simp (disch:=omega) only [hf1,hf3,hf5,RB];omega))) only [hf1,hf3,hf5,RB];omega))) only [hf1,hf3,hf5,RB];omega))) only [RR,RB,hp1,hp2,hp3,hp4,hp5,hp6,hp7,hf1,hf3,hf4,hf5,hf6]
 have:=e2 i
 repeat' (first | (refine⟨?_,?_⟩) | intro _)
 all_goals omega
def KB (l:List Ins):Prop:=∀i∈l,i.k<1000
theorem KB.at {l:List Ins} (h:KB l) (n:Nat):(l.getD n default).k<1000:=by
 by_cases h1:n<l.length
 ·rw [getD_lt h1];exact h _ (List.getElem_mem _)
 ·simp only [List.getD,List.getElem?_eq_none (by omega:l.length≤n)];decide
theorem aiC {p1:Int×List Ins×Unit→Bool} {f1:Int×List Ins×Unit→Bool×Unit} (hp1:∀pc l,(l.length:Int)<1000→p1 (pc,l,())=true) {p2:Int×Int×Int×Int×Int×Int×Ins×Int×List IOp×Unit→Bool} {f2:Int×Int×Int×Int×Int×Int×Ins×Int×List IOp×Unit→Int×Int×Int×Int×Int×Int×List IOp×Unit} (hp2:∀a1 a2 a3 a4 a5 a6 i k ops,i.k<1000→(ops.length:Int)<997000→p2 (a1,a2,a3,a4,a5,a6,i,k,ops,())=true) (hf2:∀a1 a2 a3 a4 a5 a6 i k ops,i.k<1000→(ops.length:Int)<997000→((f2 (a1,a2,a3,a4,a5,a6,i,k,ops,())).2.2.2.2.2.2.1.length:Int)≤ops.length+5) (pc:Int) (l:List Ins) (hl:(l.length:Int)<1000) (hk:KB l):RJ (std 0) p1 f1 p2 f2 (pc,l,()) (fun y=>(y.2.2.2.2.2.2.1.length:Int)≤5000):=by
 dsimp only [RJ,Alg.cl,Alg.cg,Alg.rb,Alg.bd,Alg.l1,Tup.q,Tup.o]
 simp (disch:=omega) only [RR,hp1,List.length_nil]
 refine⟨fun _=>by omega,fun _=> ?_⟩
 refine aA (fun(y:List Ins×Int×Int×Int×Int×Int×Int×Int×Int×Int×Int×Int×Int×Int×List IOp×Unit)=>y.1=l∧0≤y.2.1∧y.2.1≤l.length∧(y.2.2.2.2.2.2.2.2.2.2.2.2.2.2.1.length:Int)≤5*y.2.1) (fun y=>((l.length:Int)-y.2.1).toNat) ⟨rfl,by simp,by simp,by simp⟩ ?_
 rintro⟨(l':List Ins),(j:Int),u1,u2,u3,u4,u5,u6,b1,b2,b3,b4,b5,b6,(ops:List IOp),⟨⟩⟩ hI
 dsimp only at hI ⊢
 obtain⟨rfl,h1,h2,h3⟩:=hI
 have hk':=hk.at j.toNat
 simp (disch:=omega) only [RR,hp2]
 refine⟨fun h=> ?_,fun h=>by omega⟩
 have:=hf2 b1 b2 b3 b4 b5 b6 ((l').getD (j).toNat default) j ops hk' (by omega)
 exact⟨h1,h,⟨by omega,by omega,by omega⟩,by omega⟩
end Go.TX.F
namespace Go.TX.F
open Go Go.AE Go.TX
structure InD (m:Int) (b:List Int) (p:Int) (y:Int×Int×Int×Int×List Int×Int×Unit):Prop where
 b:y.2.2.2.2.1=b
 lo:p≤y.2.2.2.2.2.1
 hi:y.2.2.2.2.2.1≤p+m
 k:0≤y.2.2.2.1∧y.2.2.2.1≤255
@[reducible] def aiD : List Int → Prop
 | []=>True
 | x::l=>(0≤x∧x≤255)∧aiD l
theorem O6:∀(l:List Int) (n:Nat),aiD l→0≤l.getD n default∧l.getD n default≤255
 | [],n,_=>by simp only [List.getD_nil];decide
 | x::l,0,h=>h.1
 | x::l,n+1,h=>O6 l n h.2
theorem pkR {f1:Int×List Int×Int×Unit→Int×List Int×Int×Unit} {b:List Int} (hb:Bt b) (hf1:∀n b p,Bt b→0≤p→p<1000000000→Pk n b p (f1 (n,b,p,()))):
  (∀n p,0≤p→p<1000000000→(f1 (n,b,p,())).2.1=b)∧(∀n p,0≤p→p<1000000000→(f1 (n,b,p,())).2.2.1=p+1)∧
  (∀n p,0≤p→p<1000000000→(0≤(f1 (n,b,p,())).1)=True)∧(∀n p k,0≤p→p<1000000000→n≤k→0<k→((f1 (n,b,p,())).1<k)=True)∧
  (∀n p k,0≤p→p<1000000000→n≤k+1→0≤k→((f1 (n,b,p,())).1≤k)=True):=
 ⟨fun n p h1 h2=>(hf1 n b p hb h1 h2).1,fun n p h1 h2=>(hf1 n b p hb h1 h2).2.1,fun n p h1 h2=>eq_true (hf1 n b p hb h1 h2).2.2.1,
  fun n p k h1 h2 h3 h4=>eq_true (by have:=(hf1 n b p hb h1 h2).2.2;omega),fun n p k h1 h2 h3 h4=>eq_true (by have:=(hf1 n b p hb h1 h2).2.2;omega)⟩
theorem aiE {p1:Int×List Int×Int×Unit→Bool} {f1:Int×List Int×Int×Unit→Int×List Int×Int×Unit} (hp1:∀n b p,Bt b→0≤p→p<1000000000→p1 (n,b,p,())=true) (hf1:∀n b p,Bt b→0≤p→p<1000000000→Pk n b p (f1 (n,b,p,()))) (b:List Int) (p:Int) (hb:Bt b) (h1:0≤p) (h2:p<900000000):Rh (std 0) p1 f1 (b,p,()) (fun y=>InD 20 b p y):=by
 have R:=pkR hb hf1
 have P:=fun n p h1 h2=>hp1 n b p hb h1 h2
 dsimp only [Rh,Alg.cl,Alg.cg,Alg.rb,Alg.bd,Alg.l1,Tup.q,Tup.o]
 simp (disch:=omega) only [RR,R,P,List.length_cons,List.length_nil]
 repeat' (first | (refine⟨?_,?_⟩) | intro _)
 all_goals try omega
 all_goals refine⟨rfl,by dsimp only;omega,by dsimp only;omega,?_⟩
 all_goals dsimp only
 all_goals first | omega | (refine O6 _ _ ?_;simp (disch:=omega) only [aiD,R,Int.reduceLE,and_self,true_and,and_true]) | (simp (disch:=omega) only [R,Int.reduceLE,and_self,true_and,and_true])
theorem aiF {p1:List Int×Int×Unit→Bool} {f1:List Int×Int×Unit→Int×Int×Int×Int×List Int×Int×Unit} (hp1:∀b p,Bt b→0≤p→p<900000000→p1 (b,p,())=true) (hf1:∀b p,Bt b→0≤p→p<900000000→InD 20 b p (f1 (b,p,()))) {p2:Int×List Int×Int×Unit→Bool} {f2:Int×List Int×Int×Unit→Int×List Int×Int×Unit} (hp2:∀n b p,Bt b→0≤p→p<1000000000→p2 (n,b,p,())=true) (hf2:∀n b p,Bt b→0≤p→p<1000000000→Pk n b p (f2 (n,b,p,()))) {p3:Ins×Unit→Bool} {f3:Ins×Unit→Bool×Unit} (hp3:∀i,p3 (i,())=true) (b:List Int) (p:Int) (hb:Bt b) (h1:0≤p) (h2:p<800000000):Rq (std 0) p1 f1 p2 f2 p3 f3 (b,p,()) (fun y=>InD 30 b p y):=by
 obtain⟨a1,a2,a3,a4⟩:=hf1 b p hb h1 (by omega)
 have R:=pkR hb hf2
 have P:=fun n p h1 h2=>hp2 n b p hb h1 h2
 dsimp only [Rq,Alg.cl,Alg.cg,Alg.rb,Alg.bd,Alg.l1,Tup.q,Tup.o]
 simp (disch:=omega) only [RR,hp1 b p hb h1 (by omega),hp3,a1,R,P]
 refine⟨fun _=>⟨rfl,by dsimp only;omega,by dsimp only;omega,?_⟩,fun _=>⟨rfl,a2,by dsimp only;omega,a4⟩⟩
 dsimp only
 simp (disch:=omega) only [R,Int.reduceLE,and_self]
structure LiD (b:List Int) (p:Int) (y:List Int×Int×List Ins×Unit):Prop where
 b:y.1=b
 lo:p≤y.2.1
 hi:y.2.1≤p+1000
 len:(y.2.2.1.length:Int)≤20
 k:KB y.2.2.1
theorem KB.app {l:List Ins} {i:Ins} (h:KB l) (h2:i.k≤255):KB (l++ [i]):=fun x hx=>by
 rw [List.mem_append,List.mem_singleton]at hx
 rcases hx with hx | rfl
 ·exact h x hx
 ·omega
theorem aiG {p1:List Int×Int×Unit→Bool} {f1:List Int×Int×Unit→Int×Int×Int×Int×List Int×Int×Unit} (hp1:∀b p,Bt b→0≤p→p<800000000→p1 (b,p,())=true) (hf1:∀b p,Bt b→0≤p→p<800000000→InD 30 b p (f1 (b,p,()))) {p2:Int×List Int×Int×Unit→Bool} {f2:Int×List Int×Int×Unit→Int×List Int×Int×Unit} (hp2:∀n b p,Bt b→0≤p→p<1000000000→p2 (n,b,p,())=true) (hf2:∀n b p,Bt b→0≤p→p<1000000000→Pk n b p (f2 (n,b,p,()))) (b:List Int) (p:Int) (hb:Bt b) (h1:0≤p) (h2:p<700000000):Rv (std 0) p1 f1 p2 f2 (b,p,()) (fun y=>LiD b p y):=by
 obtain⟨e1,e2,e3,e4⟩:=hf2 8 b p hb h1 (by omega)
 dsimp only [Rv,Alg.cl,Alg.cg,Alg.rb,Alg.bd,Alg.l1,Tup.q,Tup.o]
 simp (disch:=omega) only [RR,hp2 8 b p hb h1 (by omega),e1,e2]
 refine aA (fun(y:Int×List Int×Int×List Ins×Unit)=>0≤y.1∧y.1≤8∧y.2.1=b∧p≤y.2.2.1∧y.2.2.1+40*y.1≤p+400∧(y.2.2.2.1.length:Int)+y.1≤8∧KB y.2.2.2.1) (fun y=>y.1.toNat)
  ⟨e3,by dsimp only;omega,rfl,by dsimp only;omega,by dsimp only;omega,by dsimp only [List.length_nil];omega,fun x hx=>by cases hx⟩ ?_
 rintro⟨(k:Int),(b':List Int),(q:Int),(l:List Ins),⟨⟩⟩ hI
 dsimp only at hI ⊢
 obtain⟨k1,k2,rfl,k3,k4,k5,k6⟩:=hI
 have R:=pkR hb hf2
 have P:=fun n p h1 h2=>hp2 n b' p hb h1 h2
 obtain⟨a1,a2,a3,a4⟩:=hf1 b' q hb (by omega) (by omega)
 obtain⟨b1,b2,b3,b4⟩:=hf1 b' (q+1) hb (by omega) (by omega)
 simp (disch:=omega) only [RR,RB,hp1 b' q hb (by omega) (by omega),hp1 b' (q+1) hb (by omega) (by omega),a1,b1,R,P,List.length_cons,List.length_nil,List.length_append]
 refine⟨fun c=>⟨by omega,⟨by omega,by omega,by omega,by omega,by omega,k6.app a4.2⟩,by omega⟩,fun c=>⟨fun _=>⟨by omega,rfl,by dsimp only;omega,by dsimp only;omega,?_,?_⟩,fun _=>⟨fun _=>⟨by omega,rfl,by dsimp only;omega,by dsimp only;omega,?_,?_⟩,fun _=>⟨by omega,rfl,by dsimp only;omega,by dsimp only;omega,?_,?_⟩⟩⟩⟩
 ·dsimp only;rw [List.length_append];simp only [List.length_cons,List.length_nil];omega
 ·refine k6.app ?_
  dsimp only
  simp (disch:=omega) only [R]
 ·dsimp only;rw [List.length_append];simp only [List.length_cons,List.length_nil];omega
 ·exact k6.app (by dsimp only;omega)
 ·dsimp only;rw [List.length_append];simp only [List.length_cons,List.length_nil];omega
 ·exact k6.app b4.2
end Go.TX.F
namespace Go.TX.F
open Go Go.AE Go.TX
theorem aav (b:Blk) (hb:b.ops.length<1000000):QK (std 0) (b,()) (fun y=>y=(b.pc,b.len,b.fin,b.x,b.y,b.k,b.ops,())):=by
 dsimp only [QK,Alg.cl,Alg.cg,Alg.rb,Alg.bd,Alg.l1,Tup.q,Tup.o]
 simp (disch:=omega) only [RR,RB,List.nil_append,List.length_nil]
 omega
def kn (ops:List IOp) (k:Int):Int×Bool:=if 0≤k∧k<ops.length∧(((ops).getD (k).toNat default)).kind=1 then((((ops).getD (k).toNat default)).k,true)else(0,false)
@[reducible] def bk7 (b : Blk) : Int × Int × Int × Int × Int × Int × List IOp × Unit := (b.pc, b.len, b.fin, b.x, b.y, b.k, b.ops, ())
structure FE (b:Blk):Prop where
 f:1≤b.fin∧b.fin≤4
 x:b.fin≠1→0≤b.x∧b.x<b.ops.length
 y:3≤b.fin→0≤b.y∧b.y<b.ops.length
 y0:b.fin≤2→b.y=0
 p:0≤b.pc∧b.pc≤100∧0≤b.len∧b.len≤100
theorem aaw (ops:List IOp) (k:Int):QZ (std 0) (ops,k,()) (fun y=>y=((kn ops k).1,(kn ops k).2,())):=by
 dsimp only [QZ,Alg.cl,Alg.cg,Alg.rb,Alg.bd,Alg.l1,Tup.q,Tup.o]
 simp (disch:=omega) only [RR,RB]
 unfold kn
 refine⟨by omega,by omega,fun h=> ?_,fun h=>⟨by omega,by omega,?_⟩⟩
 ·rw [if_neg (by omega)]
 ·rw [if_pos (by omega)]
theorem aax (b:Blk) (k:Int):Q8 (std 0) (b,k,()) (fun y=>y=(b.pc,b.len,b.ops,1,0,0,k,())):=by
 dsimp only [Q8,Alg.cl,Alg.cg,Alg.rb,Alg.bd,Alg.l1,Tup.q,Tup.o]
 simp (disch:=omega) only [RR,RB]
theorem aiH {p1:Blk×Int×Unit→Bool} {f1:Blk×Int×Unit→Int×Int×List IOp×Int×Int×Int×Int×Unit} (hp1:∀b k,p1 (b,k,())=true) (hf1:∀b k,f1 (b,k,())=(b.pc,b.len,b.ops,1,0,0,k,())) {p2:List IOp×Int×Unit→Bool} {f2:List IOp×Int×Unit→Int×Bool×Unit} (hp2:∀ops k,p2 (ops,k,())=true) (hf2:∀ops k,f2 (ops,k,())=((kn ops k).1,(kn ops k).2,())) (b:Blk) (h:FE b):Q9 (std 0) p1 f1 p2 f2 (b,()) (fun y=>y=(fcB b b.ops,())):=by
 have hp:=h.p
 have hf:=h.f
 have k1:b.fin≠1→kn b.ops b.x=if(((b.ops).getD (b.x).toNat default)).kind=1 then((((b.ops).getD (b.x).toNat default)).k,true)else(0,false):=fun c=>by
  have:=h.x c
  unfold kn;simp only [this,true_and]
 have k2:3≤b.fin→kn b.ops b.y=if(((b.ops).getD (b.y).toNat default)).kind=1 then((((b.ops).getD (b.y).toNat default)).k,true)else(0,false):=fun c=>by
  have:=h.y c
  unfold kn;simp only [this,true_and]
 have y0:=h.y0
 have mkE:∀p l o f x y k,Co.mk .blk (p,l,o,f,x,y,k,())=Blk.mk p l o f x y k:=fun _ _ _ _ _ _ _=>rfl
 dsimp only [Q9,Alg.cl,Alg.cg,Alg.rb,Alg.bd,Alg.l1,Tup.q,Tup.o]
 simp (disch:=omega) only [RR,RB,hp1,hf1,hp2,hf2,mkE,Bool.and_eq_false_iff]
 by_cases c1:b.fin=1
 ·have e:fcB b b.ops=b:=by unfold fcB;rw [if_neg (by omega),if_neg (by omega)]
  rw [e]
  refine⟨fun h=>absurd h.1 (by omega),fun _=>⟨fun h=>absurd h.1.1.1 (by omega),fun _=>⟨fun h=>absurd h.1.1.1 (by omega),fun _=>⟨fun h=>absurd h.1.1 (by omega),fun _=>rfl⟩⟩⟩⟩
 ·rw [k1 c1]
  by_cases c2:b.fin=2
  ·by_cases d:(((b.ops).getD (b.x).toNat default)).kind=1
   ·have e:fcB b b.ops=⟨b.pc,b.len,b.ops,1,0,0,(((b.ops).getD (b.x).toNat default)).k⟩:=by unfold fcB;rw [if_pos ⟨c2,d⟩,y0 (by omega)]
    rw [if_pos d,e]
    refine⟨fun _=>rfl,fun h=> ?_⟩
    rcases h with h | h
    ·exact absurd c2 h
    ·cases h
   ·have e:fcB b b.ops=b:=by unfold fcB;rw [if_neg (fun g=>d g.2),if_neg (by omega)]
    rw [if_neg d,e]
    refine⟨fun h=>absurd h.2 (by decide),fun _=>⟨fun h=>absurd h.1.1.1 (by omega),fun _=>⟨fun h=>absurd h.1.1.1 (by omega),fun _=>⟨fun h=>absurd h.1.1 (by omega),fun _=>rfl⟩⟩⟩⟩
  ·rw [k2 (by omega)]
   refine⟨fun h=>absurd h.1 c2,fun _=> ?_⟩
   by_cases d:(((b.ops).getD (b.x).toNat default)).kind=1∧(((b.ops).getD (b.y).toNat default)).kind=1
   ·have e:fcB b b.ops=⟨b.pc,b.len,b.ops,1,0,0,if b.fin=3∧(((b.ops).getD (b.x).toNat default)).k=(((b.ops).getD (b.y).toNat default)).k∨b.fin=4∧(((b.ops).getD (b.x).toNat default)).k< (((b.ops).getD (b.y).toNat default)).k then b.k else b.pc+b.len⟩:=by
     unfold fcB;rw [if_neg (by omega),if_pos ⟨by omega,d⟩]
    rw [if_pos d.1,if_pos d.2,e]
    dsimp only
    simp only [and_true,Bool.true_eq_false,or_false,Prod.mk.injEq,Blk.mk.injEq,true_and]
    refine⟨fun h=>⟨fun _=>by rw [if_pos (Or.inl h)],fun g=>by omega⟩,fun h=>⟨fun g=>by rw [if_pos (Or.inr g)],fun g=>⟨fun _=>by rw [if_neg (by omega)],fun q=>by omega⟩⟩⟩
   ·have e:fcB b b.ops=b:=by unfold fcB;rw [if_neg (by omega),if_neg (fun g=>d g.2)]
    rw [e]
    have n:¬((if(((b.ops).getD (b.x).toNat default)).kind=1 then((((b.ops).getD (b.x).toNat default)).k,true)else((0:Int),false)).2=true∧(if(((b.ops).getD (b.y).toNat default)).kind=1 then((((b.ops).getD (b.y).toNat default)).k,true)else((0:Int),false)).2=true):=fun⟨g1,g2⟩=>by
     split at g1
     ·split at g2
      ·exact d ⟨by assumption,by assumption⟩
      ·cases g2
     ·cases g1
    exact⟨fun h=>absurd ⟨h.1.1.2,h.1.2⟩ n,fun _=>⟨fun h=>absurd ⟨h.1.1.2,h.1.2⟩ n,fun _=>⟨fun h=>absurd ⟨h.1.2,h.2⟩ n,fun _=>rfl⟩⟩⟩
theorem aay {p1:Int×Int×Int×Unit→Bool} {f1:Int×Int×Int×Unit→Bool×Unit} (hp1:∀a b c,p1 (a,b,c,())=true) (hf1:∀a b c,f1 (a,b,c,())=(inB a b c,())) (o:IOp) (al:List Int) (hk:1≤o.kind∧o.kind≤8) (hx:hX o→0≤o.x∧o.x< (al.length:Int)) (hy:hY o→0≤o.y∧o.y< (al.length:Int)):QL (std 0) p1 f1 (o,al,()) (fun y=>y=(ren al o,())):=by
 dsimp only [QL,Alg.cl,Alg.cg,Alg.rb,Alg.bd,Alg.l1,Tup.q,Tup.o]
 simp (disch:=omega) only [RR,RB,hp1,hf1,fF,sG]
 have X:((3≤o.kind∧o.kind≤5)∨o.kind=7)∨o.kind=8→hX o:=fun c=>by unfold hX;omega
 have Xn:(¬(3≤o.kind∧o.kind≤5)∧¬o.kind=7)∧¬o.kind=8→¬hX o:=fun c g=>by unfold hX at g;omega
 unfold ren
 refine⟨fun c=>⟨(hx (X c)).1,(hx (X c)).2,fun d=>⟨(hy d).1,(hy d).2,?_⟩,fun d=> ?_⟩,fun c=>⟨fun d=>⟨(hy d).1,(hy d).2,?_⟩,fun d=> ?_⟩⟩
 ·rw [if_pos (X c),if_pos (show hY o from d)]
 ·rw [if_pos (X c),if_neg (show¬hY o from fun g=>g.elim d.1 d.2)]
 ·rw [if_neg (Xn c),if_pos (show hY o from d)]
 ·rw [if_neg (Xn c),if_neg (show¬hY o from fun g=>g.elim d.1 d.2)]
theorem aaz (ops:List IOp) (k:Int) (h0:0≤k) (h1:k<ops.length) (h2:(ops.length:Int)<1000000):QX (std 0) (ops,k,()) (fun y=>y=(qL (ops.drop (k.toNat+1)) (((ops).getD (k).toNat default)).k,())):=by
 dsimp only [QX,Alg.cl,Alg.cg,Alg.rb,Alg.bd,Alg.l1,Tup.q,Tup.o]
 simp (disch:=omega) only [RR,RB]
 refine aA (fun(y:List IOp×Int×Int×Unit)=>y.1=ops∧y.2.1=k∧0≤y.2.2.1∧y.2.2.1≤ops.length∧qL (ops.drop (k.toNat+1)) (((ops).getD (k).toNat default)).k=qL (ops.drop y.2.2.1.toNat) (((ops).getD (k).toNat default)).k) (fun y=>((ops.length:Int)-y.2.2.1).toNat) ⟨rfl,rfl,by dsimp only;omega,by dsimp only;omega,by dsimp only;rw [show(k+1).toNat=k.toNat+1 by omega]⟩ ?_
 rintro⟨(l:List IOp),(k':Int),(j:Int),⟨⟩⟩ hI
 dsimp only at hI ⊢
 obtain⟨rfl,rfl,h3,h4,h5⟩:=hI
 rw [h5]
 simp (disch:=omega) only [RR,RB,Bool.and_eq_false_iff]
 have st:j<l.length→qL (l.drop j.toNat) (((l).getD (k').toNat default)).k=if(((l).getD (j).toNat default)).kind=4∨(((l).getD (j).toNat default)).kind=5∨(((l).getD (j).toNat default)).kind=2∧(((l).getD (j).toNat default)).k=(((l).getD (k').toNat default)).k then false else if(((l).getD (j).toNat default)).kind=8∧(((l).getD (j).toNat default)).k=(((l).getD (k').toNat default)).k then true else qL (l.drop (j+1).toNat) (((l).getD (k').toNat default)).k:=fun h=>by
  rw [List.drop_eq_getElem_cons (show j.toNat<l.length by omega),SQ,←getD_lt (d:=default) (show j.toNat<l.length by omega),show(j+1).toNat=j.toNat+1 by omega]
 refine⟨fun h=>⟨h3,h,by omega,by omega,by omega,by omega,by omega,by omega,by omega,by omega,fun c=> ?_,fun c=>⟨h3,h,by omega,by omega,by omega,by omega,fun d=> ?_,fun d=>⟨⟨by omega,by omega,?_⟩,by omega⟩⟩⟩,fun h=> ?_⟩
 ·rw [st h,if_pos (by omega)]
 ·rw [st h,if_neg (by omega),if_pos (by omega)]
 ·rw [st h,if_neg (by omega),if_neg (by omega)]
 ·rw [List.drop_of_length_le (by omega)];rfl
@[reducible] def ao9 (z : Int × Int × Int × Int × Int × Int × List IOp × Unit) : Blk := ⟨z.1, z.2.1, z.2.2.2.2.2.2.1, z.2.2.1, z.2.2.2.1, z.2.2.2.2.1, z.2.2.2.2.2.1⟩
theorem aiI {p1:Blk×Unit→Bool} {f1:Blk×Unit→Blk×Unit} (hp1:∀b,b.ops.length<1000000→p1 (b,())=true) (hf1:∀b,b.ops.length<1000000→f1 (b,())=(fD b,())) {p2:Blk×Unit→Bool} {f2:Blk×Unit→Int×Int×Int×Int×Int×Int×List IOp×Unit} (hp2:∀b,b.ops.length<1000000→p2 (b,())=true) (hf2:∀b,b.ops.length<1000000→f2 (b,())=bk7 (bC b)) {p3:Blk×Unit→Bool} {f3:Blk×Unit→Int×Int×Int×Int×Int×Int×List IOp×Unit} (hp3:∀b,b.ops.length<1000000→p3 (b,())=true) (hf3:∀b,b.ops.length<1000000→f3 (b,())=bk7 (oJ b)) {p4:Blk×Unit→Bool} {f4:Blk×Unit→Int×Int×Int×Int×Int×Int×List IOp×Unit} (hp4:∀b,b.ops.length<1000000→p4 (b,())=true) (hf4:∀b,b.ops.length<1000000→f4 (b,())=bk7 (wF b)) (b:Blk) (hb:b.ops.length<1000000):Rf (std 0) p1 f1 p2 f2 p3 f3 p4 f4 (b,()) (fun y=>y=bk7 (KT b)):=by
 have m1:(bC b).ops.length<1000000:=Nat.lt_of_le_of_lt (nS b) hb
 have m2:=Nat.lt_of_le_of_lt (Cc (bC b)) m1
 have m3:=Nat.lt_of_le_of_lt (yJ (fD (bC b))) m2
 have m4:=Nat.lt_of_le_of_lt (H8 (oJ (fD (bC b)))) m3
 have mkE:∀c:Blk,Co.mk .blk (c.pc,c.len,c.ops,c.fin,c.x,c.y,c.k,())=c:=fun _=>rfl
 dsimp only [Rf,Alg.cl,Alg.cg,Alg.rb,Alg.bd,Alg.l1,Tup.q,Tup.o]
 simp (disch:=omega) only [RR,hp2 b hb,hf2 b hb,mkE,hp1 _ m1,hf1 _ m1,hp3 _ m2,hf3 _ m2,hp4 _ m3,hf4 _ m3,hp3 _ m4,hf3 _ m4]
 rfl
theorem S9 {α:Type} {d:α} {f l:List α} {k:Nat} (hf:f.length=k) (h:k<l.length):(f++l.drop k).getD k d=l.getD k d:=by
 rw [getD_lt (by rw [List.length_append,List.length_drop];omega),getD_lt h,List.getElem_append_right (by omega),List.getElem_drop]
 simp only [hf,Nat.sub_self,Nat.add_zero]
theorem aiJ {α:Type} {d:α} {f l:List α} {k j:Nat} (hf:f.length=k) (h:j<k):(f++l.drop k).getD j d=f.getD j d:=by
 rw [getD_lt (by rw [List.length_append];omega),getD_lt (by omega),List.getElem_append_left]
theorem CP {α:Type} {x:α} {f l:List α} {k:Nat} (hf:f.length=k) (h:k<l.length):(f++l.drop k).set k x=(f++ [x])++l.drop (k+1):=by
 rw [List.set_append_right _ _ (by omega),hf,Nat.sub_self,List.drop_eq_getElem_cons h,List.set_cons_zero,List.append_assoc];rfl
theorem O7 {α:Type} {d:α} {f l:List α} {k:Nat} (h:k<l.length):f++l.drop k=(f++ [l.getD k d])++l.drop (k+1):=by
 rw [List.drop_eq_getElem_cons h,getD_lt h,List.append_assoc];rfl
theorem CQ {α:Type} {f l:List α} {k:Nat} (hf:f.length=k) (h:k≤l.length):(f++l.drop k).length=l.length:=by
 rw [List.length_append,hf,List.length_drop];omega
theorem dB.fe {b:Blk} (ok:dB b) {f:List IOp} (h:f.length=b.ops.length):FE ⟨b.pc,b.len,f,b.fin,b.x,b.y,b.k⟩:=by
 have en:=ok.en
 have hp:=ok.pc
 have hl:=ok.ln
 exact⟨en.f,fun c=>⟨(en.x1 c).1,by dsimp only;rw [h];exact(en.x1 c).2.1⟩,fun c=>⟨(en.y1 c).1,by dsimp only;rw [h];exact(en.y1 c).2.1⟩,en.y0,by dsimp only;omega⟩
theorem aiK {p1:Blk×Unit→Bool} {f1:Blk×Unit→Bool×Unit} (hp1:∀b,b.ops.length<1000000000→p1 (b,())=true) (hf1:∀b,b.ops.length<1000000000→f1 (b,())=(bp (dB b),())) {p2:Int×Int×Int×Unit→Bool} {f2:Int×Int×Int×Unit→Int×Unit} (hp2:∀op a b,p2 (op,a,b,())=true) (hf2:∀op a b,f2 (op,a,b,())=(wdo op a b,())) {p3:Blk×Unit→Bool} {f3:Blk×Unit→Blk×Unit} (hp3:∀b,FE b→p3 (b,())=true) (hf3:∀b,FE b→f3 (b,())=(fcB b b.ops,())) {p4:List IOp×Int×Unit→Bool} {f4:List IOp×Int×Unit→Int×Bool×Unit} (hp4:∀ops k,p4 (ops,k,())=true) (hf4:∀ops k,f4 (ops,k,())=((kn ops k).1,(kn ops k).2,())) {p5:Blk×Unit→Bool} {f5:Blk×Unit→Int×Int×Int×Int×Int×Int×List IOp×Unit} (hp5:∀b,b.ops.length<1000000→p5 (b,())=true) (hf5:∀b,b.ops.length<1000000→f5 (b,())=(b.pc,b.len,b.fin,b.x,b.y,b.k,b.ops,())) (b:Blk) (hb:b.ops.length<1000000):Rc (std 0) p1 f1 p2 f2 p3 f3 p4 f4 p5 f5 (b,()) (fun y=>y=(fD b,())):=by
 have mkE:∀p l o f x y k,Co.mk .blk (p,l,o,f,x,y,k,())=Blk.mk p l o f x y k:=fun _ _ _ _ _ _ _=>rfl
 dsimp only [Rc,Alg.cl,Alg.cg,Alg.rb,Alg.bd,Alg.l1,Tup.q,Tup.o]
 simp (disch:=omega) only [RR,RB,hp1 b (by omega),hf1 b (by omega),hp5 b hb,hf5 b hb,mkE]
 refine⟨fun h=>by unfold fD;rw [h,if_neg (by decide)];rfl,fun h=> ?_⟩
 have ok:=bR.1 h
 rw [KU ok]
 refine aA (fun(y:Int×Int×Int×Int×Int×Int×Int×Int×Int×Int×Int×Int×Int×List IOp×Unit)=>0≤y.1∧y.1≤b.ops.length∧y.2.2.2.2.2.2.2=(b.pc,b.len,b.fin,b.x,b.y,b.k,fc b.ops y.1.toNat++b.ops.drop y.1.toNat,())) (fun y=>((b.ops.length:Int)-y.1).toNat) ⟨by dsimp only;omega,by dsimp only;omega,rfl⟩ ?_
 rintro⟨(k:Int),u1,u2,u3,u4,u5,u6,b1,b2,b3,b4,b5,b6,(ops:List IOp),⟨⟩⟩ hI
 dsimp only at hI ⊢
 simp only [Prod.mk.injEq,and_true]at hI
 obtain⟨h1,h2,rfl,rfl,rfl,rfl,rfl,rfl,rfl⟩:=hI
 have fl:=qc b.ops k.toNat
 have ln:=CQ (l:=b.ops) fl (by omega)
 simp (disch:=omega) only [RR,RB,hp4,hf4,hp2,hf2,ln,mkE]
 refine⟨fun h=> ?_,fun h=> ?_⟩
 ·have o:=ok.op k h1 h
  have ek:=S9 (d:=default) (l:=b.ops) fl (by omega)
  have kv:∀x:Int,Vl b.ops x k→kn (fc b.ops k.toNat++b.ops.drop k.toNat) x=if((((fc b.ops k.toNat)).getD (x).toNat default)).kind=1 then(((((fc b.ops k.toNat)).getD (x).toNat default)).k,true)else(0,false):=fun x v=>by
   have v0:=v.1
   have v1:=v.2.1
   unfold kn
   rw [aiJ fl (by omega)]
   simp only [show 0≤x∧x< ((fc b.ops k.toNat++b.ops.drop k.toNat).length:Int)from⟨v0,by omega⟩,true_and]
  have nx:fc b.ops (k+1).toNat=fc b.ops k.toNat++ [fcO (fc b.ops k.toNat) ((b.ops).getD (k).toNat default)]:=by rw [show(k+1).toNat=k.toNat+1 by omega];rfl
  rw [ek]
  have hk:=O7 (d:=default) (f:=fc b.ops k.toNat) (l:=b.ops) (k:=k.toNat) (by omega)
  have hs:=fun x=>CP (x:=x) (l:=b.ops) fl (by omega)
  rw [nx,show(k+1).toNat=k.toNat+1 by omega]
  generalize ((b.ops).getD (k).toNat default)=q at o hk ⊢
  have vx:=fun c=>o.x1 c
  have vy:=fun c=>o.y1 c
  refine⟨h1,h,h1,h,fun c=>⟨h1,h,h1,h,⟨by omega,by omega,?_⟩,by omega⟩,fun c=>⟨⟨by omega,by omega,?_⟩,by omega⟩⟩
  ·have k1:=kv _ (o.x1 (by unfold hX;omega))
   have k2:=kv _ (o.y1 (Or.inl c.1.1))
   rw [k1,k2]at c ⊢
   by_cases d1:((((fc b.ops k.toNat)).getD (q.x).toNat default)).kind=1
   ·by_cases d2:((((fc b.ops k.toNat)).getD (q.y).toNat default)).kind=1
    ·rw [if_pos d1,if_pos d2,hs]
     have e:fcO (fc b.ops k.toNat) q=⟨1,0,0,wdo q.k ((((fc b.ops k.toNat)).getD (q.x).toNat default)).k ((((fc b.ops k.toNat)).getD (q.y).toNat default)).k,0⟩:=by unfold fcO;rw [if_pos ⟨c.1.1,d1,d2⟩]
     rw [e]
    ·rw [if_neg d2]at c;exact absurd c.2 (by decide)
   ·rw [if_neg d1]at c;exact absurd c.1.2 (by decide)
  ·have e:fcO (fc b.ops k.toNat) q=q:=by
    unfold fcO
    refine if_neg ?_
    rintro⟨d0,d1,d2⟩
    rw [kv _ (o.x1 (by unfold hX;omega)),kv _ (o.y1 (Or.inl d0)),if_pos d1,if_pos d2,decide_eq_true d0]at c
    cases c
   rw [e,hk]
 ·have e:fc b.ops k.toNat++b.ops.drop k.toNat=fc b.ops b.ops.length:=by rw [List.drop_of_length_le (by omega),List.append_nil,show k.toNat=b.ops.length by omega]
  rw [e]
  have fe:=ok.fe (qc b.ops b.ops.length)
  rw [hf3 _ fe]
  exact⟨hp3 _ fe,rfl⟩
theorem aaA {a b:List Bool} (h:a.length=b.length) (g:∀t:Nat,t<a.length→(a.getD t default=true↔b.getD t default=true)):a=b:=by
 refine List.ext_getElem h fun i h1 h2=> ?_
 have:=g i h1
 rw [getD_lt h1,getD_lt h2]at this
 exact Bool.eq_iff_iff.2 this
theorem aiL {p1:Blk×Unit→Bool} {f1:Blk×Unit→Bool×Unit} (hp1:∀b,b.ops.length<1000000000→p1 (b,())=true) (hf1:∀b,b.ops.length<1000000000→f1 (b,())=(bp (dB b),())) {p2:Int×Int×Int×Unit→Bool} {f2:Int×Int×Int×Unit→Bool×Unit} (hp2:∀a b c,p2 (a,b,c,())=true) (hf2:∀a b c,f2 (a,b,c,())=(inB a b c,())) (b:Blk) (hb:b.ops.length<1000000):QT (std 0) p1 f1 p2 f2 (b,()) (fun y=>y=(CO b,())):=by
 dsimp only [QT,Alg.cl,Alg.cg,Alg.rb,Alg.bd,Alg.l1,Tup.q,Tup.o]
 simp (disch:=omega) only [RR,RB,hp1 b (by omega),hf1 b (by omega)]
 unfold CO
 refine⟨fun h=>by rw [h,if_neg (by decide)],fun h=> ?_⟩
 rw [if_pos h]
 have ok:=bR.1 h
 have n48:=ok.sz
 have en:=ok.en
 refine aA (fun(y:Int×Blk×List Bool×Unit)=>0≤y.1∧y.1≤b.ops.length∧y.2.1=b∧(y.2.2.1.length:Int)=y.1∧∀t:Nat,t<y.2.2.1.length→(y.2.2.1.getD t default=true↔4≤(b.ops.getD t default).kind)) (fun y=>((b.ops.length:Int)-y.1).toNat) ⟨by dsimp only;omega,by dsimp only;omega,rfl,rfl,fun t h=>absurd h (by simp)⟩ ?_
 rintro⟨(k:Int),(b':Blk),(kp:List Bool),⟨⟩⟩ hI
 dsimp only at hI ⊢
 obtain⟨h1,h2,rfl,h3,h4⟩:=hI
 simp (disch:=omega) only [RR,RB,List.length_append,List.length_cons,List.length_nil]
 refine⟨fun h=>⟨h1,h,by omega,⟨by omega,by omega,by omega,fun t ht=> ?_⟩,by omega⟩,fun h=> ?_⟩
 ·rw [iU]
  rcases(by omega:t<kp.length∨t=kp.length)with c | c
  ·rw [if_pos c];exact h4 t c
  ·rw [if_neg (by omega),if_pos c,decide_eq_true_eq,c,show k.toNat=kp.length by omega]
 have ex:¬b'.fin=1→0≤b'.x∧b'.x<kp.length:=fun c=>by have:=ok.en.x1 c;exact⟨this.1,by have:=this.2.1;omega⟩
 have ey:b'.fin=3∨b'.fin=4→0≤b'.y∧b'.y<kp.length:=fun c=>by have:=ok.en.y1 (by omega);exact⟨this.1,by have:=this.2.1;omega⟩
 have ff:=en.f
 have u0:=Vs ok
 have kl:kp.length=b'.ops.length:=by omega
 rw [kl]at h4
 refine⟨fun c=>⟨(ex c).1,(ex c).2,(ex c).1,(ex c).2,fun c2=>⟨(ey c2).1,by rw [List.length_set];exact(ey c2).2,(ey c2).1,by rw [List.length_set];exact(ey c2).2,?_⟩,fun c2=> ?_⟩,fun c=>⟨fun c2=>absurd c2 (by omega),fun c2=> ?_⟩⟩
 all_goals
  refine aA (fun(y:Int×Blk×List Bool×Unit)=> -1≤y.1∧y.1<b'.ops.length∧y.2.1=b'∧y.2.2.1.length=b'.ops.length∧∀t:Nat,t<b'.ops.length→(y.2.2.1.getD t default=true↔(us b' (b'.ops.length-1-y.1).toNat).getD t default=true∨4≤(b'.ops.getD t default).kind)) (fun y=>(y.1+1).toNat) ⟨by dsimp only;omega,by dsimp only;omega,rfl,by simp only [List.length_set];omega,fun t ht=> ?_⟩ ?_
  ·dsimp only
   rw [show(b'.ops.length-1- ((b'.ops.length:Int)-1)).toNat=0 by omega]
   show _↔(us0 b').getD t default=true∨_
   have q:=h4 t ht
   have r:=u0 t
   first
    | (rw [SN (by rw [List.length_set];have:=ey c2;omega),SN (by have:=ex c;omega),q,r];grind)
    | (rw [SN (by have:=ex c;omega),q,r];grind)
    | (rw [q,r];grind)
  rintro⟨(j:Int),(b2:Blk),(ms:List Bool),⟨⟩⟩ hI
  dsimp only at hI ⊢
  obtain⟨j0,j1,rfl,j3,j4⟩:=hI
  simp (disch:=omega) only [RR,RB,hp2,hf2,fF,sG,List.length_set]
  have ul:=A9 b2 (b2.ops.length-1-j).toNat
  have us1:0≤j→∀t:Nat,((us b2 (b2.ops.length-1- (j-1)).toNat).getD t default=true↔(us b2 (b2.ops.length-1-j).toNat).getD t default=true∨((us b2 (b2.ops.length-1-j).toNat).getD j.toNat default=true∨4≤(((b2.ops).getD (j).toNat default)).kind)∧(t=j.toNat∨hX (((b2.ops).getD (j).toNat default))∧t=(((b2.ops).getD (j).toNat default)).x.toNat∨hY (((b2.ops).getD (j).toNat default))∧t=(((b2.ops).getD (j).toNat default)).y.toNat)):=fun g t=>by
   have o:=ok.op j g j1
   rw [show(b2.ops.length-1- (j-1)).toNat=(b2.ops.length-1-j).toNat+1 by omega]
   show(usO (b2.ops.getD (b2.ops.length-1- (b2.ops.length-1-j).toNat) default) (b2.ops.length-1- (b2.ops.length-1-j).toNat) _).getD t default=true↔_
   rw [show b2.ops.length-1- (b2.ops.length-1-j).toNat=j.toNat by omega]
   exact Vr (by omega) (fun c=>by have:=o.x1 c;have g0:=this.1;have g1:=this.2.1;omega) (fun c=>by have:=o.y1 c;have g0:=this.1;have g1:=this.2.1;omega)
  have ue:¬0≤j→(us b2 (b2.ops.length-1-j).toNat)=us b2 b2.ops.length:=fun g=>by rw [show(b2.ops.length-1-j).toNat=b2.ops.length by omega]
  generalize us b2 (b2.ops.length-1-j).toNat=U at us1 j4 ue
  refine⟨fun g=> ?_,fun g=>congrArg (fun m:List Bool=>(m,())) (aaA (b:=us b2 b2.ops.length) (by rw [A9];exact j3) fun t ht=> ?_)⟩
  ·have o:=ok.op j g j1
   have X:hX (((b2.ops).getD (j).toNat default))→0≤(((b2.ops).getD (j).toNat default)).x∧(((b2.ops).getD (j).toNat default)).x<ms.length:=fun c=>by have:=o.x1 c;have g0:=this.1;have g1:=this.2.1;omega
   have Y:hY (((b2.ops).getD (j).toNat default))→0≤(((b2.ops).getD (j).toNat default)).y∧(((b2.ops).getD (j).toNat default)).y<ms.length:=fun c=>by have:=o.y1 c;have g0:=this.1;have g1:=this.2.1;omega
   have us1:=us1 g
   have qj:=j4 j.toNat (by omega)
   have kd:=o.kd
   generalize ((b2.ops).getD (j).toNat default)=q at*
   have cx:((3≤q.kind∧q.kind≤5)∨q.kind=7)∨q.kind=8↔hX q:=by unfold hX;omega
   have cn:(¬(3≤q.kind∧q.kind≤5)∧¬q.kind=7)∧¬q.kind=8↔¬hX q:=by unfold hX;omega
   have cy:q.kind=3∨q.kind=5↔hY q:=Iff.rfl
   have dn:¬q.kind=3∧¬q.kind=5↔¬hY q:=by unfold hY;omega
   rw [cx,cn,cy,dn]
   generalize hX q=HX at*
   generalize hY q=HY at*
   refine⟨g,j1,g,by omega,g,by omega,fun c=>⟨⟨by omega,by omega,j3,fun t ht=> ?_⟩,by omega⟩,fun c=>⟨fun d=>⟨(X d).1,(X d).2,(X d).1,(X d).2,fun e=>⟨(Y e).1,(Y e).2,(Y e).1,(Y e).2,⟨by omega,by omega,j3,fun t ht=> ?_⟩,by omega⟩,fun e=>⟨⟨by omega,by omega,j3,fun t ht=> ?_⟩,by omega⟩⟩,fun d=>⟨fun e=>⟨(Y e).1,(Y e).2,(Y e).1,(Y e).2,⟨by omega,by omega,j3,fun t ht=> ?_⟩,by omega⟩,fun e=>⟨⟨by omega,by omega,j3,fun t ht=> ?_⟩,by omega⟩⟩⟩⟩
   ·rw [us1,j4 t ht];rw [c]at qj;grind
   ·rw [SN (by rw [List.length_set];have:=Y e;omega),SN (by have:=X d;omega),us1,j4 t ht];grind
   ·rw [SN (by have:=X d;omega),us1,j4 t ht];grind
   ·rw [SN (by have:=Y e;omega),us1,j4 t ht];grind
   ·rw [us1,j4 t ht];grind
  ·rw [j4 t (by omega),ue g]
   exact⟨fun h=>h.elim id ((aoP ok).k t (Nat.zero_le _) (by omega)),Or.inl⟩
end Go.TX.F
namespace Go.TX.F
open Go Go.AE Go.TX
theorem acW {ops:List IOp} {kp:List Bool} {len:Int} {k n:Nat} {o:IOp} (ho:Cx ops len k o) (h:k<n):ren (kpS ops kp (k+1)).1 o=ren (kpS ops kp n).1 o:=by
 have p:=(acS ops kp (show k+1≤n by omega)).2
 have l:=(zJ ops kp (k+1)).1
 have e:∀x:Int,Vl ops x k→(((kpS ops kp (k+1)).1).getD (x).toNat default)=(((kpS ops kp n).1).getD (x).toNat default):=fun x v=>by
  have g0:=v.1
  have g1:=v.2.1
  exact(aak p (by omega)).symm
 have ox:=ho.x1
 have oy:=ho.y1
 unfold ren
 congr 1
 ·split
  ·rename_i c;exact e _ (ox c)
  ·rfl
 ·split
  ·rename_i c;exact e _ (oy c)
  ·rfl
theorem aiM {p1:IOp×List Int×Unit→Bool} {f1:IOp×List Int×Unit→IOp×Unit} (hp1:∀o al,(1≤o.kind∧o.kind≤8)→(hX o→0≤o.x∧o.x< (al.length:Int))→(hY o→0≤o.y∧o.y< (al.length:Int))→p1 (o,al,())=true) (hf1:∀o al,(1≤o.kind∧o.kind≤8)→(hX o→0≤o.x∧o.x< (al.length:Int))→(hY o→0≤o.y∧o.y< (al.length:Int))→f1 (o,al,())=(ren al o,())) (b:Blk) (kp:List Bool) (ok:dB b) (hk:kp.length=b.ops.length):QS (std 0) p1 f1 (b,kp,()) (fun y=>y=bk7 (Ca b kp)):=by
 have n48:=ok.sz
 dsimp only [QS,Alg.cl,Alg.cg,Alg.rb,Alg.bd,Alg.l1,Tup.q,Tup.o]
 simp (disch:=omega) only [RR,RB]
 refine aA (fun(y:List Bool×Int×Blk×Int×Int×Int×Int×Int×Int×List IOp×List Int×Unit)=>y.1=kp∧0≤y.2.1∧y.2.1≤b.ops.length∧y.2.2.1=b∧y.2.2.2.2.2.2.2.2.2.1=(kpS b.ops kp y.2.1.toNat).2.map (ren (kpS b.ops kp b.ops.length).1)∧y.2.2.2.2.2.2.2.2.2.2.1=(kpS b.ops kp y.2.1.toNat).1) (fun y=>((b.ops.length:Int)-y.2.1).toNat) ⟨rfl,by dsimp only;omega,by dsimp only;omega,rfl,rfl,rfl⟩ ?_
 rintro⟨(kp':List Bool),(k:Int),(b':Blk),u1,u2,u3,u4,u5,u6,(out:List IOp),(to:List Int),⟨⟩⟩ hI
 dsimp only at hI ⊢
 obtain⟨rfl,h1,h2,rfl,rfl,rfl⟩:=hI
 obtain⟨l1,l2⟩:=zJ b'.ops kp' k.toNat
 have l3:=(zJ b'.ops kp' (k+1).toNat).1
 have nx:(kpS b'.ops kp' (k+1).toNat).1=(kpS b'.ops kp' k.toNat).1++ [((kpS b'.ops kp' k.toNat).2.length:Int)]:=by rw [show(k+1).toNat=k.toNat+1 by omega];rfl
 have r:k<b'.ops.length→ren (kpS b'.ops kp' (k+1).toNat).1 ((b'.ops).getD (k).toNat default)=ren (kpS b'.ops kp' b'.ops.length).1 ((b'.ops).getD (k).toNat default):=fun h=>by
  rw [show(k+1).toNat=k.toNat+1 by omega]
  exact acW (by rw [show((k.toNat:Nat):Int)=k by omega];exact ok.op k h1 h) (by omega)
 have s:(kpS b'.ops kp' (k+1).toNat).2=if kp'.getD k.toNat default=true then(kpS b'.ops kp' k.toNat).2++ [((b'.ops).getD (k).toNat default)]else(kpS b'.ops kp' k.toNat).2:=by rw [show(k+1).toNat=k.toNat+1 by omega];rfl
 have fin:¬k<b'.ops.length→kpS b'.ops kp' k.toNat=kpS b'.ops kp' b'.ops.length:=fun h=>by rw [show k.toNat=b'.ops.length by omega]
 have kb:Ca b' kp'=OW (kpS b'.ops kp' b'.ops.length).1 b' (kpS b'.ops kp' b'.ops.length).2:=rfl
 rw [kb]
 generalize kpS b'.ops kp' b'.ops.length=N at r fin ⊢
 generalize hT:kpS b'.ops kp' (k+1).toNat=T at l3 nx r s ⊢
 generalize kpS b'.ops kp' k.toNat=S at l1 l2 nx s fin ⊢
 have en:=ok.en
 have ex:¬k<b'.ops.length→¬b'.fin=1→0≤b'.x∧b'.x< (S.1.length:Int):=fun h c=>by have:=en.x1 c;exact⟨this.1,by have:=this.2.1;omega⟩
 have ey:¬k<b'.ops.length→b'.fin=3∨b'.fin=4→0≤b'.y∧b'.y< (S.1.length:Int):=fun h c=>by have:=en.y1 (by omega);exact⟨this.1,by have:=this.2.1;omega⟩
 simp (disch:=omega) only [RR,RB,List.length_append,List.length_cons,List.length_nil,List.length_map,Hr,←nx]
 refine⟨fun h=> ?_,fun h=> ?_⟩
 ·have op:=ok.op k h1 h
  have a2:hX (((b'.ops).getD (k).toNat default))→0≤(((b'.ops).getD (k).toNat default)).x∧(((b'.ops).getD (k).toNat default)).x< (T.1.length:Int):=fun c=>⟨(op.x1 c).1,by have:=(op.x1 c).2.1;omega⟩
  have a3:hY (((b'.ops).getD (k).toNat default))→0≤(((b'.ops).getD (k).toNat default)).y∧(((b'.ops).getD (k).toNat default)).y< (T.1.length:Int):=fun c=>⟨(op.y1 c).1,by have:=(op.y1 c).2.1;omega⟩
  have P:=hp1 _ T.1 op.kd a2 a3
  rw [hf1 _ T.1 op.kd a2 a3,hT,s,r h]
  refine⟨by omega,h1,by omega,fun c=>⟨h1,h,P,by omega,⟨by omega,by omega,?_⟩,by omega⟩,fun c=>⟨⟨by omega,by omega,?_⟩,by omega⟩⟩
  ·rw [if_pos c,List.map_append];exact⟨rfl,rfl⟩
  ·rw [c,if_neg (by decide)];exact⟨rfl,rfl⟩
 ·have ex:=ex h
  have ey:=ey h
  rw [fin h]at ex ey ⊢
  unfold bk7 OW
  refine⟨fun c=>⟨(ex c).1,(ex c).2,(ex c).1,(ex c).2,fun c2=>⟨(ey c2).1,(ey c2).2,(ey c2).1,(ey c2).2,?_⟩,fun c2=> ?_⟩,fun c=>⟨fun c2=>⟨(ey c2).1,(ey c2).2,(ey c2).1,(ey c2).2,?_⟩,fun c2=> ?_⟩⟩
  ·rw [if_neg c,if_pos (by omega)]
  ·rw [if_neg c,if_neg (by have:=en.f;omega)]
  ·exact absurd c2 (by omega)
  ·rw [if_pos c,if_neg (by omega)]
theorem aiN {p1:Blk×Unit→Bool} {f1:Blk×Unit→Bool×Unit} (hp1:∀b,b.ops.length<1000000000→p1 (b,())=true) (hf1:∀b,b.ops.length<1000000000→f1 (b,())=(bp (dB b),())) {p2:Blk×Unit→Bool} {f2:Blk×Unit→List Bool×Unit} (hp2:∀b,b.ops.length<1000000→p2 (b,())=true) (hf2:∀b,b.ops.length<1000000→f2 (b,())=(CO b,())) {p3:Blk×List Bool×Unit→Bool} {f3:Blk×List Bool×Unit→Int×Int×Int×Int×Int×Int×List IOp×Unit} (hp3:∀b kp,dB b→kp.length=b.ops.length→p3 (b,kp,())=true) (hf3:∀b kp,dB b→kp.length=b.ops.length→f3 (b,kp,())=bk7 (Ca b kp)) (b:Blk) (hb:b.ops.length<1000000):QU (std 0) p1 f1 p2 f2 p3 f3 (b,()) (fun y=>y=bk7 (oJ b)):=by
 dsimp only [QU,Alg.cl,Alg.cg,Alg.rb,Alg.bd,Alg.l1,Tup.q,Tup.o]
 simp (disch:=omega) only [RR,RB,hp1 b (by omega),hf1 b (by omega),hp2 b hb,hf2 b hb]
 unfold oJ CO
 refine⟨fun h=>by rw [h,if_neg (by decide)];rfl,fun h=> ?_⟩
 have ok:=bR.1 h
 rw [if_pos h,if_pos h,hf3 _ _ ok (A9 b _)]
 exact⟨hp3 _ _ ok (A9 b _),rfl⟩
theorem aiO {p1:Blk×Unit→Bool} {f1:Blk×Unit→Bool×Unit} (hp1:∀b,b.ops.length<1000000000→p1 (b,())=true) (hf1:∀b,b.ops.length<1000000000→f1 (b,())=(bp (dB b),())) {p2:Blk×List Bool×Unit→Bool} {f2:Blk×List Bool×Unit→Int×Int×Int×Int×Int×Int×List IOp×Unit} (hp2:∀b kp,dB b→kp.length=b.ops.length→p2 (b,kp,())=true) (hf2:∀b kp,dB b→kp.length=b.ops.length→f2 (b,kp,())=bk7 (Ca b kp)) {p3:List IOp×Int×Unit→Bool} {f3:List IOp×Int×Unit→Bool×Unit} (hp3:∀ops k,0≤k→k<ops.length→(ops.length:Int)<1000000→p3 (ops,k,())=true) (hf3:∀ops k,0≤k→k<ops.length→(ops.length:Int)<1000000→f3 (ops,k,())=(qL (ops.drop (k.toNat+1)) (((ops).getD (k).toNat default)).k,())) (b:Blk) (hb:b.ops.length<1000000):QY (std 0) p1 f1 p2 f2 p3 f3 (b,()) (fun y=>y=bk7 (wF b)):=by
 dsimp only [QY,Alg.cl,Alg.cg,Alg.rb,Alg.bd,Alg.l1,Tup.q,Tup.o]
 simp (disch:=omega) only [RR,RB,hp1 b (by omega),hf1 b (by omega)]
 unfold wF
 refine⟨fun h=>by rw [h,if_neg (by decide)];rfl,fun h=> ?_⟩
 have ok:=bR.1 h
 rw [if_pos h]
 have kl:(rU b.ops).length=b.ops.length:=by unfold rU;rw [List.length_map,List.length_range]
 refine aA (fun(y:Int×Blk×Int×Int×Int×Int×Int×Int×List Bool×Unit)=>0≤y.1∧y.1≤b.ops.length∧y.2.1=b∧y.2.2.2.2.2.2.2.2.1=(rU b.ops).take y.1.toNat) (fun y=>((b.ops.length:Int)-y.1).toNat) ⟨by dsimp only;omega,by dsimp only;omega,rfl,rfl⟩ ?_
 rintro⟨(k:Int),(b':Blk),u1,u2,u3,u4,u5,u6,(kp:List Bool),⟨⟩⟩ hI
 dsimp only at hI ⊢
 obtain⟨h1,h2,rfl,rfl⟩:=hI
 have tl:((rU b'.ops).take k.toNat).length=k.toNat:=by rw [List.length_take];omega
 simp (disch:=omega) only [RR,RB,List.length_append,List.length_cons,List.length_nil,tl]
 refine⟨fun h=>⟨h1,h,Or.inr (hp3 _ _ h1 h (by omega)),by omega,⟨by omega,by omega,?_⟩,by omega⟩,fun h=> ?_⟩
 ·rw [hf3 _ _ h1 h (by omega),show(k+1).toNat=k.toNat+1 by omega,List.take_succ_eq_append_getElem (by omega),←getD_lt (d:=default) (show k.toNat< (rU b'.ops).length by omega),WR (by omega)]
  refine congrArg (fun x=>(rU b'.ops).take k.toNat++ [x]) ?_
  rw [Bool.not_and]
 ·rw [List.take_of_length_le (by omega),hf2 _ _ ok kl]
  exact⟨hp2 _ _ ok kl,rfl⟩
theorem aiP {ops:List IOp} {len:Int} {k n:Nat} {o:IOp} (ho:Cx ops len k o) (h:k≤n):ren (cpS ops k).1 o=ren (cpS ops n).1 o:=by
 have l:=(rT ops k).1
 have e:∀x:Int,Vl ops x k→(((cpS ops k).1).getD (x).toNat default)=(((cpS ops n).1).getD (x).toNat default):=fun x v=>by
  have g0:=v.1
  have g1:=v.2.1
  exact(SG ops (by omega) h).symm
 have ox:=ho.x1
 have oy:=ho.y1
 unfold ren
 congr 1
 ·split
  ·rename_i c;exact e _ (ox c)
  ·rfl
 ·split
  ·rename_i c;exact e _ (oy c)
  ·rfl
theorem aiQ {p1:Blk×Unit→Bool} {f1:Blk×Unit→Bool×Unit} (hp1:∀b,b.ops.length<1000000000→p1 (b,())=true) (hf1:∀b,b.ops.length<1000000000→f1 (b,())=(bp (dB b),())) {p2:IOp×List Int×Unit→Bool} {f2:IOp×List Int×Unit→IOp×Unit} (hp2:∀o al,(1≤o.kind∧o.kind≤8)→(hX o→0≤o.x∧o.x< (al.length:Int))→(hY o→0≤o.y∧o.y< (al.length:Int))→p2 (o,al,())=true) (hf2:∀o al,(1≤o.kind∧o.kind≤8)→(hX o→0≤o.x∧o.x< (al.length:Int))→(hY o→0≤o.y∧o.y< (al.length:Int))→f2 (o,al,())=(ren al o,())) {p3:Blk×Unit→Bool} {f3:Blk×Unit→Int×Int×Int×Int×Int×Int×List IOp×Unit} (hp3:∀b,b.ops.length<1000000→p3 (b,())=true) (hf3:∀b,b.ops.length<1000000→f3 (b,())=(b.pc,b.len,b.fin,b.x,b.y,b.k,b.ops,())) (b:Blk) (hb:b.ops.length<1000000):QM (std 0) p1 f1 p2 f2 p3 f3 (b,()) (fun y=>y=bk7 (bC b)):=by
 dsimp only [QM,Alg.cl,Alg.cg,Alg.rb,Alg.bd,Alg.l1,Tup.q,Tup.o]
 simp (disch:=omega) only [RR,RB,hp1 b (by omega),hf1 b (by omega),hp3 b hb,hf3 b hb,Hr]
 unfold bC
 refine⟨fun h=>by rw [h,if_neg (by decide)];rfl,fun h=> ?_⟩
 have ok:=bR.1 h
 rw [if_pos h]
 have n48:=ok.sz
 refine aA (fun(y:Int×Int×Int×Int×Int×Int×Int×Int×Int×Int×Int×Int×Int×List Int×List Int×List IOp×Unit)=>0≤y.1∧y.1≤b.ops.length∧y.2.2.2.2.2.2.2=(b.pc,b.len,b.fin,b.x,b.y,b.k,(cpS b.ops y.1.toNat).1,(cpS b.ops y.1.toNat).2,(b.ops.take y.1.toNat).map (ren (cpS b.ops b.ops.length).1)++b.ops.drop y.1.toNat,())) (fun y=>((b.ops.length:Int)-y.1).toNat) ⟨by dsimp only;omega,by dsimp only;omega,rfl⟩ ?_
 rintro⟨(k:Int),u1,u2,u3,u4,u5,u6,b1,b2,b3,b4,b5,b6,(al:List Int),(la:List Int),(ops:List IOp),⟨⟩⟩ hI
 dsimp only at hI ⊢
 simp only [Prod.mk.injEq,and_true]at hI
 obtain⟨h1,h2,rfl,rfl,rfl,rfl,rfl,rfl,rfl,rfl,rfl⟩:=hI
 obtain⟨l1,l2⟩:=rT b.ops k.toNat
 have r:=fun h:k<b.ops.length=>aiP (ops:=b.ops) (k:=k.toNat) (n:=b.ops.length) (by rw [show((k.toNat:Nat):Int)=k by omega];exact ok.op k h1 h) (by omega)
 have fl:((b.ops.take k.toNat).map (ren (cpS b.ops b.ops.length).1)).length=k.toNat:=by rw [List.length_map,List.length_take];omega
 have ln:=CQ (l:=b.ops) fl (by omega)
 have ek:=fun h:k<b.ops.length=>S9 (d:=default) (l:=b.ops) fl (by omega)
 have ms:=fun x (h:k<b.ops.length)=>CP (x:=x) (l:=b.ops) fl (by omega)
 have tk:=fun h:k<b.ops.length=>(iR (d:=default) (l:=b.ops) h1 h rfl)
 have nx:k<b.ops.length→cpS b.ops (k+1).toNat=((cpS b.ops k.toNat).1++ [cpN (cpS b.ops k.toNat) k ((b.ops).getD (k).toNat default)],cpL (cpS b.ops k.toNat) k ((b.ops).getD (k).toNat default)):=fun h=>by
  rw [show(k+1).toNat=k.toNat+1 by omega,show k=((k.toNat:Nat):Int) by omega];rfl
 have fin:¬k<b.ops.length→cpS b.ops k.toNat=cpS b.ops b.ops.length:=fun h=>by rw [show k.toNat=b.ops.length by omega]
 have en:=ok.en
 by_cases h:k<b.ops.length
 ·have o:=ok.op k h1 h
  have r:=r h
  have ek:=ek h
  have nx:=nx h
  have ms:=fun x=>ms x h
  have tk:=tk h
  have a2:hX (((b.ops).getD (k).toNat default))→0≤(((b.ops).getD (k).toNat default)).x∧(((b.ops).getD (k).toNat default)).x< ((cpS b.ops k.toNat).1.length:Int):=fun c=>⟨(o.x1 c).1,by have:=(o.x1 c).2.1;omega⟩
  have a3:hY (((b.ops).getD (k).toNat default))→0≤(((b.ops).getD (k).toNat default)).y∧(((b.ops).getD (k).toNat default)).y< ((cpS b.ops k.toNat).1.length:Int):=fun c=>⟨(o.y1 c).1,by have:=(o.y1 c).2.1;omega⟩
  have P:=hp2 _ _ o.kd a2 a3
  have F:=hf2 _ _ o.kd a2 a3
  have kd:=o.k2
  have rx:(((b.ops).getD (k).toNat default)).kind=8→(ren (cpS b.ops b.ops.length).1 ((b.ops).getD (k).toNat default)).x=(((cpS b.ops k.toNat).1).getD ((((b.ops).getD (k).toNat default)).x).toNat default):=fun c=>by rw [←r];exact if_pos (by unfold hX;omega)
  rw [r]at F
  generalize hN:(cpS b.ops b.ops.length).1=N at*
  generalize hT:cpS b.ops (k+1).toNat=T at nx ⊢
  generalize cpS b.ops k.toNat=S at*
  simp (disch:=omega) only [RR,RB,ln,ek,P,F,ms,List.length_append,List.length_cons,List.length_nil,List.length_set,Hr,h]
  generalize hq:((b.ops).getD (k).toNat default)=q at*
  have rk:(ren N q).kind=q.kind:=rfl
  have rkk:(ren N q).k=q.k:=rfl
  generalize hR:ren N q=R at*
  have G:∀v w,v=cpN S k q→w=cpL S k q→(b.pc,b.len,b.fin,b.x,b.y,b.k,S.1++ [v],w,((b.ops.take k.toNat).map (ren N)++ [R])++b.ops.drop (k.toNat+1),())=(b.pc,b.len,b.fin,b.x,b.y,b.k,T.1,T.2,(b.ops.take (k+1).toNat).map (ren N)++b.ops.drop (k+1).toNat,()):=fun v w e1 e2=>by
   rw [nx,e1,e2,←tk,List.map_append,show(k+1).toNat=k.toNat+1 by omega,←hR];rfl
  have ss:∀i:Int,0≤i→i<S.2.length→S.2.set i.toNat ((S.2).getD (i).toNat default)=S.2:=fun i i0 i1=>by rw [getD_lt (show i.toNat<S.2.length by omega),List.set_getElem_self]
  by_cases c2:R.kind=2
  ·have kk:=kd (Or.inl (rk▸c2))
   by_cases c3:0≤((S.2).getD (R.k).toNat default)
   ·have g:=G (((S.2).getD (R.k).toNat default)) (S.2.set R.k.toNat ((S.2).getD (R.k).toNat default)) (by unfold cpN;rw [←rk,←rkk];rw [if_pos ⟨c2,c3⟩]) (by unfold cpL;rw [←rk,←rkk];rw [if_pos c2,if_pos c3,ss _ (by omega) (by omega)])
    simp only [c2,c3,show¬((2:Int)=8) by decide,true_and,and_true,true_implies,false_implies,not_true_eq_false,not_false_eq_true,false_or,decide_true,Bool.and_self,Bool.true_eq_false,hT,g]
    omega
   ·have g:=G k (S.2.set R.k.toNat k) (by unfold cpN;rw [←rk,←rkk];rw [if_neg (fun q=>c3 q.2)]) (by unfold cpL;rw [←rk,←rkk];rw [if_pos c2,if_neg c3])
    simp only [c2,c3,show¬((2:Int)=8) by decide,true_and,and_true,and_false,true_implies,false_implies,not_true_eq_false,not_false_eq_true,false_or,decide_true,decide_false,Bool.and_false,hT,g]
    omega
  ·by_cases c8:R.kind=8
   ·have kk:=kd (Or.inr (rk▸c8))
    have g:=G k (S.2.set R.k.toNat ((S.1).getD (q.x).toNat default)) (by unfold cpN;rw [←rk,←rkk];rw [if_neg (fun q=>c2 q.1)]) (by unfold cpL;rw [←rk,←rkk];rw [if_neg c2,if_pos c8])
    rw [←rx (rk▸c8)]at g
    simp only [c8,show¬((8:Int)=2) by decide,false_and,true_and,and_true,and_false,true_implies,false_implies,not_true_eq_false,not_false_eq_true,true_or,decide_false,Bool.false_and,hT,g]
    omega
   ·have g:=G k S.2 (by unfold cpN;rw [←rk,←rkk];rw [if_neg (fun q=>c2 q.1)]) (by unfold cpL;rw [←rk,←rkk];rw [if_neg c2,if_neg c8])
    simp only [c2,c8,false_and,true_and,and_true,and_false,true_implies,false_implies,not_true_eq_false,not_false_eq_true,true_or,decide_false,Bool.false_and,hT,g]
    omega
 ·have e:=fin h
  have ex:¬b.fin=1→0≤b.x∧b.x< ((cpS b.ops k.toNat).1.length:Int):=fun c=>by have:=en.x1 c;exact⟨this.1,by have:=this.2.1;omega⟩
  have ey:b.fin=3∨b.fin=4→0≤b.y∧b.y< ((cpS b.ops k.toNat).1.length:Int):=fun c=>by have:=en.y1 (by omega);exact⟨this.1,by have:=this.2.1;omega⟩
  have ff:=en.f
  have z:(b.ops.take k.toNat).map (ren (cpS b.ops b.ops.length).1)++b.ops.drop k.toNat=b.ops.map (ren (cpS b.ops b.ops.length).1):=by rw [List.take_of_length_le (by omega),List.drop_of_length_le (by omega),List.append_nil]
  have ln:(b.ops.map (ren (cpS b.ops b.ops.length).1)).length=b.ops.length:=List.length_map _
  rw [z]
  rw [e]at ex ey ⊢
  unfold bk7 OW
  generalize (cpS b.ops b.ops.length).1=N at*
  simp (disch:=omega) only [RR,RB,ln,h]
  refine⟨fun c=>⟨(ex c).1,(ex c).2,(ex c).1,(ex c).2,fun c2=>⟨(ey c2).1,(ey c2).2,(ey c2).1,(ey c2).2,?_⟩,fun c2=> ?_⟩,fun c=>⟨fun c2=>absurd c2 (by omega),fun c2=> ?_⟩⟩
  ·rw [if_neg c,if_pos (by omega)]
  ·rw [if_neg c,if_neg (by omega)]
  ·rw [if_pos c,if_neg (by omega)]
end Go.TX.F
namespace Go.TX.F
open Go Go.AE Go.TX
structure BkD (m:Int) (n:Nat) (b:List Int) (p:Int) (y:Int×Int×Int×Int×Int×Int×List Int×Int×List IOp×Unit):Prop where
 b:y.2.2.2.2.2.2.1=b
 lo:p≤y.2.2.2.2.2.2.2.1
 hi:y.2.2.2.2.2.2.2.1≤p+m
 len:y.2.2.2.2.2.2.2.2.1.length≤n
theorem aiR {p1:Int×List Ins×Unit→Bool} {f1:Int×List Ins×Unit→Int×Int×Int×Int×Int×Int×List IOp×Unit} (hp1:∀pc l,(l.length:Int)<1000→KB l→p1 (pc,l,())=true) (hf1:∀pc l,(l.length:Int)<1000→KB l→((f1 (pc,l,())).2.2.2.2.2.2.1.length:Int)≤5000) {p2:Blk×Unit→Bool} {f2:Blk×Unit→Int×Int×Int×Int×Int×Int×List IOp×Unit} (hp2:∀b,b.ops.length<1000000→p2 (b,())=true) (hf2:∀b,b.ops.length<1000000→f2 (b,())=bk7 (KT b)) {p3:Blk×Unit→Bool} {f3:Blk×Unit→Int×Int×Int×Int×Int×Int×List IOp×Unit} (hp3:∀b,b.ops.length<1000000→p3 (b,())=true) (hf3:∀b,b.ops.length<1000000→f3 (b,())=bk7 (bC b)) {p4:Int×List Int×Int×Unit→Bool} {f4:Int×List Int×Int×Unit→Int×List Int×Int×Unit} (hp4:∀n b p,Bt b→0≤p→p<1000000000→p4 (n,b,p,())=true) (hf4:∀n b p,Bt b→0≤p→p<1000000000→Pk n b p (f4 (n,b,p,()))) {p5:List Int×Int×Unit→Bool} {f5:List Int×Int×Unit→List Int×Int×List Ins×Unit} (hp5:∀b p,Bt b→0≤p→p<700000000→p5 (b,p,())=true) (hf5:∀b p,Bt b→0≤p→p<700000000→LiD b p (f5 (b,p,()))) (b:List Int) (p:Int) (hb:Bt b) (h1:0≤p) (h2:p<600000000):RL (std 0) p1 f1 p2 f2 p3 f3 p4 f4 p5 f5 (b,p,()) (fun y=>BkD 2000 5000 b p y):=by
 replace hf2:=fun c h=>show(f2 (c,())).2.2.2.2.2.2.1.length≤c.ops.length by rw [hf2 c h];exact JD c
 replace hf3:=fun c h=>show(f3 (c,())).2.2.2.2.2.2.1.length≤c.ops.length by rw [hf3 c h];exact nS c
 obtain⟨a1,a2,a3,a4,a5⟩:=hf5 b p hb h1 (by omega)
 have R:=pkR hb hf4
 have P:=fun n p h1 h2=>hp4 n b p hb h1 h2
 have L:=fun pc=>hf1 pc _ (show((f5 (b,p,())).2.2.1.length:Int)<1000 by omega) a5
 have O1:=fun c (h:c.ops.length≤5000)=>hp2 c (by omega)
 have O2:=fun c (h:c.ops.length≤5000)=>hf2 c (by omega)
 have O3:=fun c (h:c.ops.length≤5000)=>hp3 c (by omega)
 have O4:=fun c (h:c.ops.length≤5000)=>hf3 c (by omega)
 dsimp only [RL,Alg.cl,Alg.cg,Alg.rb,Alg.bd,Alg.l1,Tup.q,Tup.o]
 simp (disch:=omega) only [RR,hp5 b p hb h1 (by omega),a1,R,P,hp1 _ _ (show((f5 (b,p,())).2.2.1.length:Int)<1000 by omega) a5,List.length_cons,List.length_nil]
 have L':∀pc,(f1 (pc,(f5 (b,p,())).2.2.1,())).2.2.2.2.2.2.1.length≤5000:=fun pc=>by have:=L pc;omega
 refine⟨fun _=>⟨O1 _ (L' _),rfl,by dsimp only;omega,by dsimp only;omega,Nat.le_trans (O2 _ (L' _)) (L' _)⟩,fun _=>⟨fun _=>⟨O3 _ (L' _),rfl,by dsimp only;omega,by dsimp only;omega,Nat.le_trans (O4 _ (L' _)) (L' _)⟩,fun _=>⟨rfl,by dsimp only;omega,by dsimp only;omega,L' _⟩⟩⟩
theorem aiS {p1:Int×List Int×Int×Unit→Bool} {f1:Int×List Int×Int×Unit→Int×List Int×Int×Unit} (hp1:∀n b p,Bt b→0≤p→p<1000000000→p1 (n,b,p,())=true) (hf1:∀n b p,Bt b→0≤p→p<1000000000→Pk n b p (f1 (n,b,p,()))) {p2:Blk×Unit→Bool} {f2:Blk×Unit→Int×Int×Int×Int×Int×Int×List IOp×Unit} (hp2:∀b,b.ops.length<1000000→p2 (b,())=true) (hf2:∀b,b.ops.length<1000000→f2 (b,())=(b.pc,b.len,b.fin,b.x,b.y,b.k,b.ops,())) (c:Blk) (b:List Int) (p:Int) (ok:dB c) (hc:c.ops.length<1000000) (hb:Bt b) (h1:0≤p) (h2:p<600000000):Sn (std 0) p1 f1 p2 f2 (c,b,p,()) (fun y=>BkD 1000000 c.ops.length b p y):=by
 dsimp only [Sn,Alg.cl,Alg.cg,Alg.rb,Alg.bd,Alg.l1,Tup.q,Tup.o]
 simp (disch:=omega) only [RR,RB,hp2 c hc,hf2 c hc]
 refine aA (fun(y:Int×List Int×Int×Int×Int×Int×Int×Int×Int×Int×Int×Int×Int×Int×Int×List IOp×Unit)=>0≤y.1∧y.1≤c.ops.length∧y.2.1=b∧p≤y.2.2.1∧y.2.2.1≤p+y.1∧y.2.2.2.2.2.2.2.2.2.2.2.2.2.2.2.1.length=c.ops.length∧∀j:Int,y.1≤j→((y.2.2.2.2.2.2.2.2.2.2.2.2.2.2.2.1).getD (j).toNat default)=((c.ops).getD (j).toNat default)) (fun y=>((c.ops.length:Int)-y.1).toNat) ⟨by dsimp only;omega,by dsimp only;omega,rfl,by dsimp only;omega,by dsimp only;omega,rfl,fun _ _=>rfl⟩ ?_
 rintro⟨(k:Int),(b':List Int),(q:Int),u1,u2,u3,u4,u5,u6,b1,b2,b3,b4,b5,b6,(ops:List IOp),⟨⟩⟩ hI
 dsimp only at hI ⊢
 obtain⟨k1,k2,rfl,k3,k4,k5,k6⟩:=hI
 have e:=k6 k (Int.le_refl _)
 have R:=pkR hb hf1
 have P:=fun n p h1 h2=>hp1 n b' p hb h1 h2
 simp (disch:=omega) only [RR,RB,e,R,P,List.length_set,Bool.and_eq_false_iff]
 refine⟨fun h=> ?_,fun h=>⟨rfl,k3,by dsimp only;omega,Nat.le_of_eq k5⟩⟩
 have oy:((c.ops).getD (k).toNat default).kind=3→0≤((c.ops).getD (k).toNat default).y∧((c.ops).getD (k).toNat default).y<k:=fun c3=>by have:=(ok.op k k1 (by omega)).y1 (Or.inl c3);exact⟨this.1,this.2.1⟩
 have S:∀(X:List IOp) v (j:Int),k+1≤j→(X.set k.toNat v).getD j.toNat default=X.getD j.toNat default:=fun X v j hj=>by
  simp only [List.getD,List.getElem?_set_ne (show k.toNat≠j.toNat by omega)]
 repeat' (first | (refine⟨?_,?_⟩) | intro _)
 all_goals first | omega | rfl | exact k6 _ (by omega) | (simp (disch:=omega) only [S];exact k6 _ (by omega))
end Go.TX.F
namespace Go.TX.F
open Go Go.AE Go.TX
theorem aiT {p1:Int×List Int×Int×Unit→Bool} {f1:Int×List Int×Int×Unit→Int×List Int×Int×Unit} (hp1:∀n b p,Bt b→0≤p→p<1000000000→p1 (n,b,p,())=true) (hf1:∀n b p,Bt b→0≤p→p<1000000000→Pk n b p (f1 (n,b,p,()))) {p2:Blk×Unit→Bool} {f2:Blk×Unit→Int×Int×Int×Int×Int×Int×List IOp×Unit} (hp2:∀b,b.ops.length<1000000→p2 (b,())=true) (hf2:∀b,b.ops.length<1000000→f2 (b,())=(b.pc,b.len,b.fin,b.x,b.y,b.k,b.ops,())) (c:Blk) (b:List Int) (p:Int) (hc:c.ops.length<1000000) (hb:Bt b) (h1:0≤p) (h2:p<900000000):Ky (std 0) p1 f1 p2 f2 (c,b,p,()) (fun y=>BkD 20 c.ops.length b p y):=by
 have R:=pkR hb hf1
 have P:=fun n p h1 h2=>hp1 n b p hb h1 h2
 by_cases z:(c.ops.length:Int)=0
 ·dsimp only [Ky,Alg.cl,Alg.cg,Alg.rb,Alg.bd,Alg.l1,Tup.q,Tup.o]
  simp (disch:=omega) only [RR,RB,hp2 c hc,hf2 c hc,z]
  exact⟨rfl,by dsimp only;omega,by dsimp only;omega,Nat.le_refl _⟩
 have B:=(hf1 c.ops.length b p hb h1 (by omega)).2.2
 have W:IntKind.i64.wrap ((f1 (c.ops.length,b,p,())).1-1)=(f1 (c.ops.length,b,p,())).1-1:=w64 (by omega) (by omega)
 dsimp only [Ky,Alg.cl,Alg.cg,Alg.rb,Alg.bd,Alg.l1,Tup.q,Tup.o]
 simp (disch:=omega) only [RR,RB,hp2 c hc,hf2 c hc,R,P,z,List.length_set,W]
 repeat' (first | (refine And.intro ?_ ?_) | intro _)
 all_goals first | omega | exact⟨rfl,by dsimp only;omega,by dsimp only;omega,by dsimp only [ZP];simp only [List.length_set,List.length_take,List.length_drop];omega⟩ | exact⟨rfl,by dsimp only;omega,by dsimp only;omega,by simp only [List.length_drop,List.length_take];omega⟩ | exact⟨rfl,by dsimp only;omega,by dsimp only;omega,Nat.le_refl _⟩
structure BoD (b:List Int) (p:Int) (y:Blk×List Int×Int×Unit):Prop where
 len:y.1.ops.length<100000
 b:y.2.1=b
 lo:p≤y.2.2.1
 hi:y.2.2.1≤p+5000
theorem aiU {p1:Int×List Int×Int×Unit→Bool} {f1:Int×List Int×Int×Unit→Bool×List Int×Int×Unit} (hp1:∀n b p,Bt b→0≤p→p<1000000000→p1 (n,b,p,())=true) (hf1:∀n b p,Bt b→0≤p→p<1000000000→(f1 (n,b,p,())).2.1=b∧(f1 (n,b,p,())).2.2.1=p+1) {p2:Int×List Int×Int×Unit→Bool} {f2:Int×List Int×Int×Unit→Int×List Int×Int×Unit} (hp2:∀n b p,Bt b→0≤p→p<1000000000→p2 (n,b,p,())=true) (hf2:∀n b p,Bt b→0≤p→p<1000000000→Pk n b p (f2 (n,b,p,()))) {p3:Blk×List Int×Int×Unit→Bool} {f3:Blk×List Int×Int×Unit→Int×Int×Int×Int×Int×Int×List Int×Int×List IOp×Unit} (hp3:∀c b p,c.ops.length<1000000→Bt b→0≤p→p<900000000→p3 (c,b,p,())=true) (hf3:∀c b p,c.ops.length<1000000→Bt b→0≤p→p<900000000→BkD 20 c.ops.length b p (f3 (c,b,p,()))) {p4:List Int×Int×Unit→Bool} {f4:List Int×Int×Unit→Int×Int×Int×Int×Int×Int×List Int×Int×List IOp×Unit} (hp4:∀b p,Bt b→0≤p→p<600000000→p4 (b,p,())=true) (hf4:∀b p,Bt b→0≤p→p<600000000→BkD 2000 5000 b p (f4 (b,p,()))) (n:Int) (b:List Int) (p:Int) (hb:Bt b) (h1:0≤p) (h2:p<500000000):RN (std 0) p1 f1 p2 f2 p3 f3 p4 f4 (n,b,p,()) (fun y=>BoD b p y):=by
 obtain⟨a1,a2,a3,a4⟩:=hf4 b p hb h1 (by omega)
 have H4:=hp4 b p hb h1 (by omega)
 have R:=pkR hb hf2
 have P:=fun n p h1 h2=>hp2 n b p hb h1 h2
 have R1:=fun n p h1 h2=>(hf1 n b p hb h1 h2).1
 have R2:=fun n p h1 h2=>(hf1 n b p hb h1 h2).2
 have P1:=fun n p h1 h2=>hp1 n b p hb h1 h2
 dsimp only [RN,Alg.cl,Alg.cg,Alg.rb,Alg.bd,Alg.l1,Tup.q,Tup.o]
 simp (disch:=omega) only [RR,RB,H4,a1,R,P,R1,R2,P1,List.length_cons,List.length_nil,List.length_append]
 repeat' (first | (refine And.intro ?_ ?_) | intro _)
 all_goals try omega
 all_goals try exact BoD.mk (show(f4 (b,p,())).2.2.2.2.2.2.2.2.1.length<100000 by omega) rfl (by dsimp only;omega) (by dsimp only;omega)
 all_goals try exact hp3 _ _ _ (show(f4 (b,p,())).2.2.2.2.2.2.2.2.1.length<1000000 by omega) hb (by omega) (by omega)
 all_goals try exact BoD.mk (show(_++ [_]).length<100000 by rw [List.length_append,List.length_singleton];omega) rfl (by dsimp only;omega) (by dsimp only;omega)
 all_goals try exact(fun h=>BoD.mk (Nat.lt_of_le_of_lt h.len (show(f4 (b,p,())).2.2.2.2.2.2.2.2.1.length<100000 by omega)) h.b (by have:=h.lo;dsimp only;omega) (by have:=h.hi;dsimp only;omega)) (hf3 _ _ _ (show(f4 (b,p,())).2.2.2.2.2.2.2.2.1.length<1000000 by omega) hb (by omega) (by omega))
 all_goals
  refine aA (fun(y:List Int×Int×Int×Int×Int×Int×Int×Int×Int×Int×Int×Int×Int×Int×List IOp×Unit)=>y.1=b∧p≤y.2.1∧y.2.1≤p+5000∧y.2.2.2.2.2.2.2.2.2.2.2.2.2.2.1.length<50000) (fun y=>50-y.2.2.2.2.2.2.2.2.2.2.2.2.2.2.1.length) ⟨rfl,by dsimp only;omega,by dsimp only;omega,by dsimp only;omega⟩ ?_
  rintro⟨(b':List Int),(q:Int),u1,u2,u3,u4,u5,u6,b1,b2,b3,b4,b5,b6,(ops:List IOp),⟨⟩⟩ hI
  dsimp only at hI ⊢
  obtain⟨rfl,h3,h4,h5⟩:=hI
  simp (disch:=omega) only [RR,List.length_append,List.length_cons,List.length_nil]
  refine⟨fun h=>⟨by omega,⟨by omega,by omega,by omega⟩,by omega⟩,fun h=>⟨show ops.length<100000 by omega,rfl,by dsimp only;omega,by dsimp only;omega⟩⟩
end Go.TX.F
namespace Go.TX.F
open Go Go.AE Go.TX
theorem aiV {p1:Blk×Unit→Bool} {f1:Blk×Unit→Bool×Unit} (hp1:∀b,b.ops.length<1000000000→p1 (b,())=true) (hf1:∀b,b.ops.length<1000000000→f1 (b,())=(bp (dB b),())) {p2:Blk×Unit→Bool} {f2:Blk×Unit→Int×Int×Int×Int×Int×Int×List IOp×Unit} (hp2:∀b,b.ops.length<1000000→p2 (b,())=true) (hf2:∀b,b.ops.length<1000000→f2 (b,())=bk7 (KT b)) {p3:Blk×Unit→Bool} {f3:Blk×Unit→Int×Int×Int×Int×Int×Int×List IOp×Unit} (hp3:∀b,b.ops.length<1000000→p3 (b,())=true) (hf3:∀b,b.ops.length<1000000→f3 (b,())=bk7 (bC b)) {p4:Int×List Int×Int×Unit→Bool} {f4:Int×List Int×Int×Unit→Int×List Int×Int×Unit} (hp4:∀n b p,Bt b→0≤p→p<1000000000→p4 (n,b,p,())=true) (hf4:∀n b p,Bt b→0≤p→p<1000000000→Pk n b p (f4 (n,b,p,()))) {p5:Blk×List Int×Int×Unit→Bool} {f5:Blk×List Int×Int×Unit→Int×Int×Int×Int×Int×Int×List Int×Int×List IOp×Unit} (hp5:∀c b p,c.ops.length<1000000→Bt b→0≤p→p<900000000→p5 (c,b,p,())=true) (hf5:∀c b p,c.ops.length<1000000→Bt b→0≤p→p<900000000→BkD 20 c.ops.length b p (f5 (c,b,p,()))) {p6:Int×List Int×Int×Unit→Bool} {f6:Int×List Int×Int×Unit→Blk×List Int×Int×Unit} (hp6:∀n b p,Bt b→0≤p→p<500000000→p6 (n,b,p,())=true) (hf6:∀n b p,Bt b→0≤p→p<500000000→BoD b p (f6 (n,b,p,()))) {p7:Blk×List Int×Int×Unit→Bool} {f7:Blk×List Int×Int×Unit→Int×Int×Int×Int×Int×Int×List Int×Int×List IOp×Unit} (hp7:∀c b p,dB c→c.ops.length<1000000→Bt b→0≤p→p<600000000→p7 (c,b,p,())=true) (hf7:∀c b p,dB c→c.ops.length<1000000→Bt b→0≤p→p<600000000→BkD 1000000 c.ops.length b p (f7 (c,b,p,()))) (n:Int) (b:List Int) (p:Int) (hb:Bt b) (h1:0≤p) (h2:p<400000000):Sq (std 0) p1 f1 p2 f2 p3 f3 p4 f4 p5 f5 p6 f6 p7 f7 (n,b,p,()) (fun(y:Blk×Blk×List Int×Int×Unit)=>y.1.ops.length<100000∧y.2.1.ops.length<100000∧y.2.2.1=b∧p≤y.2.2.2.1∧y.2.2.2.1≤p+10000000):=by
 replace hf2:=fun c h=>show(f2 (c,())).2.2.2.2.2.2.1.length≤c.ops.length by rw [hf2 c h];exact JD c
 replace hf3:=fun c h=>show(f3 (c,())).2.2.2.2.2.2.1.length≤c.ops.length by rw [hf3 c h];exact nS c
 have R:=pkR hb hf4
 have P:=fun n p h1 h2=>hp4 n b p hb h1 h2
 obtain⟨a1,a2,a3,a4⟩:=hf6 n b p hb h1 (by omega)
 have ne:=fun(m:Int) h1 h2=>hf6 n b m hb h1 h2
 generalize hz:(f6 (n,b,p,())).1=z at a1
 generalize hq:(f6 (n,b,p,())).2.2.1=q at a3 a4
 have D1:=hp2 z (by omega)
 have D2:=hf2 z (by omega)
 have D3:=hp3 z (by omega)
 have D4:=hf3 z (by omega)
 have B1:=fun c m (h:c.ops.length<1000000) h1 h2=>hp5 c b m h hb h1 h2
 have B2:=fun c m (h:c.ops.length<1000000) h1 h2=>hf5 c b m h hb h1 h2
 dsimp only [Sq,Alg.cl,Alg.cg,Alg.rb,Alg.bd,Alg.l1,Tup.q,Tup.o]
 simp (disch:=omega) only [RR,hp6 n b p hb h1 (by omega),hz,a2,hq,hp1 z (by omega),hf1 z (by omega),R,P,D1,D3]
 refine⟨fun _=>⟨a1,a1,by omega,by omega⟩,fun h=> ?_⟩
 have ok:=bR.1 h
 have c0:=hf7 z b (q+1) ok (by omega) hb (by omega) (by omega)
 have d0:=hp7 z b (q+1) ok (by omega) hb (by omega) (by omega)
 have l1:(f2 (z,())).2.2.2.2.2.2.1.length<1000000:=by omega
 have cl:=c0.len
 have ch:=c0.hi
 have cw:=c0.lo
 have cb:=c0.b
 refine⟨fun _=>⟨d0,a1,Nat.lt_of_le_of_lt cl a1,cb,by omega,by omega⟩,fun _=>⟨fun _=>⟨a1,Nat.lt_of_le_of_lt D2 a1,by omega,by omega⟩,fun _=>⟨fun _=>⟨d0,hp2 _ (Nat.lt_of_le_of_lt cl (by omega)),a1,Nat.lt_of_le_of_lt (hf2 _ (Nat.lt_of_le_of_lt cl (by omega))) (Nat.lt_of_le_of_lt cl a1),cb,by omega,by omega⟩,fun _=>⟨fun _=> ?_,fun _=>⟨fun _=> ?_,fun _=>⟨fun _=> ?_,fun _=>⟨fun _=> ?_,fun _=>⟨fun _=> ?_,fun _=> ?_⟩⟩⟩⟩⟩⟩⟩⟩
 ·have:=B2 z (q+1) (by omega) (by omega) (by omega)
  exact⟨B1 z (q+1) (by omega) (by omega) (by omega),a1,Nat.lt_of_le_of_lt this.len a1,this.b,by have:=this.lo;omega,by have:=this.hi;omega⟩
 ·have:=B2 (ao9 (f2 (z,()))) (q+1) l1 (by omega) (by omega)
  exact⟨B1 (ao9 (f2 (z,()))) (q+1) l1 (by omega) (by omega),a1,Nat.lt_of_le_of_lt this.len (Nat.lt_of_le_of_lt D2 a1),this.b,Int.le_trans (by omega) this.lo,Int.le_trans this.hi (by omega)⟩
 ·exact⟨Nat.lt_of_le_of_lt D2 a1,a1,by omega,by omega⟩
 ·obtain⟨g1,g2,g3,g4⟩:=hf6 n b (q+1) hb (by omega) (by omega)
  exact⟨hp6 n b (q+1) hb (by omega) (by omega),a1,g1,g2,by omega,by omega⟩
 ·exact⟨a1,Nat.lt_of_le_of_lt D4 a1,by omega,by omega⟩
 ·exact⟨a1,a1,by omega,by omega⟩
theorem aiW {p1:List Int×Unit→Bool} {f1:List Int×Unit→List Int×Int×Unit} (hp1:∀b,By b→b.length<1000000000→p1 (b,())=true) (hf1:∀b,By b→b.length<1000000000→Bt (f1 (b,())).1∧(f1 (b,())).2.1=0) {p2:Int×List Int×Int×Unit→Bool} {f2:Int×List Int×Int×Unit→Blk×Blk×List Int×Int×Unit} (hp2:∀n b p,Bt b→0≤p→p<400000000→p2 (n,b,p,())=true) (hf2:∀n b p,Bt b→0≤p→p<400000000→(f2 (n,b,p,())).1.ops.length<100000∧(f2 (n,b,p,())).2.1.ops.length<100000∧(f2 (n,b,p,())).2.2.1=b∧p≤(f2 (n,b,p,())).2.2.2.1∧(f2 (n,b,p,())).2.2.2.1≤p+10000000) (c:List Int) (hc:By c) (hl:c.length<1000000000):Sr (std 0) p1 f1 p2 f2 (c,()) (fun y=>y.1.ops.length<100000∧y.2.1.ops.length<100000):=by
 obtain⟨hb,e0⟩:=hf1 c hc hl
 generalize hbe:(f1 (c,())).1=b at hb
 obtain⟨a1,a2,a3,a4,a5⟩:=hf2 14 b 0 hb (by omega) (by omega)
 dsimp only [Sr,Alg.cl,Alg.cg,Alg.rb,Alg.bd,Alg.l1,Tup.q,Tup.o]
 simp (disch:=omega) only [RR,hp1 c hc hl,hbe,e0,hp2 14 b 0 hb (by omega) (by omega)]
 exact⟨a1,a2⟩
end Go.TX.F
namespace Go.TX.F
open Go Go.AE Go.TX
end Go.TX.F
namespace Go.TX.F
open Go Go.AE Go.TX
end Go.TX.F
namespace Go.TX.F
open Go Go.AE Go.TX
theorem apa (x y:IOp):ak3 .iop x y=decide (x=y):=rfl
theorem Ta {P:Prop} [Decidable P]:decide P=bp P:=by unfold bp;congr
theorem aaB (a b:List IOp) (ha:a.length<1000000000):RQ (std 0) (a,b,()) (fun y=>y=(bp (a=b),())):=by
 dsimp only [RQ,Alg.cl,Alg.cg,Alg.rb,Alg.bd,Alg.l1,Tup.q,Tup.o]
 simp (disch:=omega) only [RR]
 refine⟨fun h=> ?_,fun h=> ?_⟩
 ·rw [iB (fun e=>h (by rw [e]))]
 have hl:a.length=b.length:=by omega
 refine aA (fun(y:List IOp×List IOp×Int×Int×Unit)=>y.1=a∧y.2.1=b∧y.2.2.1=a.length∧0≤y.2.2.2.1∧y.2.2.2.1≤a.length∧All y.2.2.2.1 (fun i=>a.getD i.toNat default=b.getD i.toNat default)) (fun y=>(a.length-y.2.2.2.1).toNat) ⟨rfl,rfl,rfl,by simp,by simp,All.zero⟩ ?_
 rintro⟨(l1:List IOp),(l2:List IOp),(n:Int),(i:Int),⟨⟩⟩ hI
 dsimp only at hI ⊢
 obtain⟨rfl,rfl,rfl,h1,h2,h3⟩:=hI
 simp (disch:=omega) only [RR,apa]
 refine⟨fun h4=>⟨by omega,by omega,by omega,by omega,fun h5=> ?_,fun h5=>⟨⟨by omega,by omega,h3.snoc h5⟩,by omega⟩⟩,fun h4=> ?_⟩
 ·rw [iB]
  intro e;rw [e]at h5;exact h5 rfl
 ·rw [bO (KH hl (h3.le (by omega)))]
theorem apb {p1:List IOp×List IOp×Unit→Bool} {f1:List IOp×List IOp×Unit→Bool×Unit} (hp1:∀a b,a.length<1000000000→p1 (a,b,())=true) (hf1:∀a b,a.length<1000000000→f1 (a,b,())=(bp (a=b),())) (a b:Blk) (ha:a.ops.length<1000000000):Yt (std 0) p1 f1 (a,b,()) (fun y=>y=(bp (a=b),())):=by
 dsimp only [Yt,Alg.cl,Alg.cg,Alg.rb,Alg.bd,Alg.l1,Tup.q,Tup.o]
 simp (disch:=omega) only [RR,RB,hp1 _ _ ha,hf1 _ _ ha]
 simp only [Ta,←uV]
 refine Prod.ext (uW ?_) rfl
 cases a;cases b;simp only [Blk.mk.injEq]
 constructor<;>(intro h;simp only [h,and_self])
theorem apc {p1:List aj×List aj×Unit→Bool} {f1:List aj×List aj×Unit→Bool×Unit} (hp1:∀a b,Sh a→p1 (a,b,())=true) (hf1:∀a b,Sh a→f1 (a,b,())=(decide (dP a b=0),())) (a b:List aj) (ha:Sh a):ZB (std 0) p1 f1 (a,b,()) (fun y=>y=(decide (dP a b=0),())):=by
 dsimp only [ZB,Alg.cl,Alg.cg,Alg.rb,Alg.bd,Alg.l1,Tup.q,Tup.o]
 simp (disch:=omega) only [RR,hp1 _ _ ha,hf1 _ _ ha]
theorem aiX {p1:List aj×List aj×Unit→Bool} {f1:List aj×List aj×Unit→Bool×Unit} (hp1:∀a b,Sh a→p1 (a,b,())=true) (hf1:∀a b,Sh a→f1 (a,b,())=(decide (dP a b=0),())) (a b:List (List aj)) (ha:ShP a):Sk (std 0) p1 f1 (a,b,()) (fun y=>y=(bp (a=b),())):=by
 have hlen:=ha.1
 dsimp only [Sk,Alg.cl,Alg.cg,Alg.rb,Alg.bd,Alg.l1,Tup.q,Tup.o]
 simp (disch:=omega) only [RR]
 refine⟨fun h=> ?_,fun h=> ?_⟩
 ·rw [iB (fun e=>h (by rw [e]))]
 have hl:a.length=b.length:=by omega
 refine aA (fun(y:List (List aj)×List (List aj)×Int×Int×Unit)=>y.1=b∧y.2.1=a∧y.2.2.1=a.length∧0≤y.2.2.2.1∧y.2.2.2.1≤a.length∧All y.2.2.2.1 (fun i=>a.getD i.toNat default=b.getD i.toNat default)) (fun y=>(a.length-y.2.2.2.1).toNat) ⟨rfl,rfl,rfl,by simp,by simp,All.zero⟩ ?_
 rintro⟨(l1:List (List aj)),(l2:List (List aj)),(n:Int),(i:Int),⟨⟩⟩ hI
 dsimp only at hI ⊢
 obtain⟨rfl,rfl,rfl,h1,h2,h3⟩:=hI
 simp (disch:=omega) only [RR,hp1 _ _ (ha.at _),hf1 _ _ (ha.at _),gT]
 refine⟨fun h4=>⟨by omega,by omega,by omega,by omega,fun h5=> ?_,fun h5=>⟨⟨by omega,by omega,h3.snoc h5⟩,by omega⟩⟩,fun h4=> ?_⟩
 ·rw [iB]
  intro e;rw [e]at h5;exact h5 rfl
 ·rw [bO (KH hl (h3.le (by omega)))]
theorem apd {p1:List (List aj)×List (List aj)×Unit→Bool} {f1:List (List aj)×List (List aj)×Unit→Bool×Unit} (hp1:∀a b,ShP a→p1 (a,b,())=true) (hf1:∀a b,ShP a→f1 (a,b,())=(bp (a=b),())) (a b:List (List aj)) (ha:ShP a):ZE (std 0) p1 f1 (a,b,()) (fun y=>y=(bp (a=b),())):=by
 dsimp only [ZE,Alg.cl,Alg.cg,Alg.rb,Alg.bd,Alg.l1,Tup.q,Tup.o]
 simp (disch:=omega) only [RR,hp1 _ _ ha,hf1 _ _ ha]
theorem ape {p1:List aj×List aj×Unit→Bool} {f1:List aj×List aj×Unit→Bool×Unit} (hp1:∀a b,Sh a→p1 (a,b,())=true) (hf1:∀a b,Sh a→f1 (a,b,())=(decide (dP a b=0),())) {p2:List (List aj)×List (List aj)×Unit→Bool} {f2:List (List aj)×List (List aj)×Unit→Bool×Unit} (hp2:∀a b,ShP a→p2 (a,b,())=true) (hf2:∀a b,ShP a→f2 (a,b,())=(bp (a=b),())) (a b:Ev) (ha:ShE a):ZF (std 0) p1 f1 p2 f2 (a,b,()) (fun y=>y=(bp (a=b),())):=by
 dsimp only [ZF,Alg.cl,Alg.cg,Alg.rb,Alg.bd,Alg.l1,Tup.q,Tup.o]
 simp (disch:=omega) only [RR,RB,hp1 _ _ ha.1,hf1 _ _ ha.1,hp1 _ _ ha.2.1,hf1 _ _ ha.2.1,hp2 _ _ ha.2.2,hf2 _ _ ha.2.2,gT]
 simp only [Ta,←uV]
 refine Prod.ext (uW ?_) rfl
 cases a;cases b;simp only [Ev.mk.injEq]
 constructor<;>(intro h;simp only [h,and_self])
theorem aiY {p1:Ev×Ev×Unit→Bool} {f1:Ev×Ev×Unit→Bool×Unit} (hp1:∀a b,ShE a→p1 (a,b,())=true) (hf1:∀a b,ShE a→f1 (a,b,())=(bp (a=b),())) (a b:List Ev) (ha:WO a):Sl (std 0) p1 f1 (a,b,()) (fun y=>y=(bp (a=b),())):=by
 have hlen:=ha.1
 dsimp only [Sl,Alg.cl,Alg.cg,Alg.rb,Alg.bd,Alg.l1,Tup.q,Tup.o]
 simp (disch:=omega) only [RR]
 refine⟨fun h=> ?_,fun h=> ?_⟩
 ·rw [iB (fun e=>h (by rw [e]))]
 have hl:a.length=b.length:=by omega
 refine aA (fun(y:List Ev×List Ev×Int×Int×Unit)=>y.1=b∧y.2.1=a∧y.2.2.1=a.length∧0≤y.2.2.2.1∧y.2.2.2.1≤a.length∧All y.2.2.2.1 (fun i=>a.getD i.toNat default=b.getD i.toNat default)) (fun y=>(a.length-y.2.2.2.1).toNat) ⟨rfl,rfl,rfl,by simp,by simp,All.zero⟩ ?_
 rintro⟨(l1:List Ev),(l2:List Ev),(n:Int),(i:Int),⟨⟩⟩ hI
 dsimp only at hI ⊢
 obtain⟨rfl,rfl,rfl,h1,h2,h3⟩:=hI
 simp (disch:=omega) only [RR,hp1 _ _ (ha.at _),hf1 _ _ (ha.at _),bR,uU]
 refine⟨fun h4=>⟨by omega,by omega,by omega,by omega,fun h5=> ?_,fun h5=>⟨⟨by omega,by omega,h3.snoc h5⟩,by omega⟩⟩,fun h4=> ?_⟩
 ·rw [iB]
  intro e;rw [e]at h5;exact h5 rfl
 ·rw [bO (KH hl (h3.le (by omega)))]
theorem apf {p1:List aj×List aj×Unit→Bool} {f1:List aj×List aj×Unit→Bool×Unit} (hp1:∀a b,Sh a→p1 (a,b,())=true) (hf1:∀a b,Sh a→f1 (a,b,())=(decide (dP a b=0),())) {p2:List (List aj)×List (List aj)×Unit→Bool} {f2:List (List aj)×List (List aj)×Unit→Bool×Unit} (hp2:∀a b,ShP a→p2 (a,b,())=true) (hf2:∀a b,ShP a→f2 (a,b,())=(bp (a=b),())) {p3:List Ev×List Ev×Unit→Bool} {f3:List Ev×List Ev×Unit→Bool×Unit} (hp3:∀b a,WO b→p3 (b,a,())=true) (hf3:∀b a,WO b→f3 (b,a,())=(bp (b=a),())) (a b:Sym) (ha:ShY a):ZI (std 0) p1 f1 p2 f2 p3 f3 (a,b,()) (fun y=>y=(bp (a=b),())):=by
 dsimp only [ZI,Alg.cl,Alg.cg,Alg.rb,Alg.bd,Alg.l1,Tup.q,Tup.o]
 simp (disch:=omega) only [RR,RB,hp1 _ _ ha.x,hf1 _ _ ha.x,hp1 _ _ ha.y,hf1 _ _ ha.y,hp2 _ _ ha.r,hf2 _ _ ha.r,hp3 _ _ ha.e,hf3 _ _ ha.e,gT]
 simp only [Ta,←uV]
 refine Prod.ext (uW ?_) rfl
 cases a;cases b;simp only [Sym.mk.injEq]
 constructor<;>(intro h;simp only [h,and_self])
theorem apg {p1:Blk×Unit→Bool} {f1:Blk×Unit→Bool×Unit} (hp1:∀b,b.ops.length<1000000000→p1 (b,())=true) (hf1:∀b,b.ops.length<1000000000→f1 (b,())=(bp (dB b),())) {p2:Blk×Blk×Unit→Bool} {f2:Blk×Blk×Unit→Bool×Unit} (hp2:∀a b,a.ops.length<1000000000→p2 (a,b,())=true) (hf2:∀a b,a.ops.length<1000000000→f2 (a,b,())=(bp (a=b),())) {p3:Unit→Bool} {f3:Unit→List Atom×List (List aj)×Unit} (hp3:p3 ()=true) (hf3:(f3 ()).1=t4) {p4:List Atom×Blk×Unit→Bool} {f4:List Atom×Blk×Unit→List Atom×Sym×Unit} (hp4:∀t b,ShT t→b.ops.length<1000000000→p4 (t,b,())=true) (hf4:∀t b,ShT t→b.ops.length<1000000000→f4 (t,b,())=((bD t b).1,(bD t b).2,())) {p5:Sym×Sym×Unit→Bool} {f5:Sym×Sym×Unit→Bool×Unit} (hp5:∀a b,ShY a→p5 (a,b,())=true) (hf5:∀a b,ShY a→f5 (a,b,())=(bp (a=b),())) (b c:Blk) (hb:b.ops.length<1000000000) (hc:c.ops.length<1000000000):ZJ (std 0) p1 f1 p2 f2 p3 f3 p4 f4 p5 f5 (b,c,()) (fun y=>y=(chk b c,())):=by
 have s4:ShT t4:=Vp.1.sh
 have y1:=KR t4 b
 dsimp only [ZJ,Alg.cl,Alg.cg,Alg.rb,Alg.bd,Alg.l1,Tup.q,Tup.o]
 simp (disch:=omega) only [RR,RB,hp1 b hb,hf1 b hb,hp1 c hc,hf1 c hc,hp2 b c hb,hf2 b c hb,hp3,hf3,hp4 t4 b s4 hb,hf4 t4 b s4 hb,hp4 _ c y1.2 hc,hf4 _ c y1.2 hc,hp5 _ _ y1.1,hf5 _ _ y1.1,bR,uU]
 unfold chk
 refine⟨fun h=> ?_,fun h=>⟨fun e=> ?_,fun e=> ?_⟩⟩
 ·rw [iB];rintro⟨h1,h2,h3,h4,_⟩;simp_all
 ·rw [bO];exact⟨h.1.1.1,h.1.1.2,h.1.2,h.2,Or.inl e⟩
 ·refine Prod.ext (uW ?_) rfl
  exact⟨fun g=>⟨h.1.1.1,h.1.1.2,h.1.2,h.2,Or.inr g⟩,fun g=>g.2.2.2.2.resolve_left e⟩
end Go.TX.F
namespace Go.TX.F
open Go Go.AE Go.TX
theorem mkB (p l o f x y k):Co.mk .blk (p,l,o,f,x,y,k,())=Blk.mk p l o f x y k:=rfl
structure acX (nm:List Int) (fin x y:Int) (ops:List IOp):Prop where
 op:∀i:Int,0≤i→i<ops.length→(hX ((ops).getD (i).toNat default)→0≤(((ops).getD (i).toNat default)).x∧(((ops).getD (i).toNat default)).x<nm.length)∧(hY ((ops).getD (i).toNat default)→0≤(((ops).getD (i).toNat default)).y∧(((ops).getD (i).toNat default)).y<nm.length)
 x:fin≠1→0≤x∧x<nm.length
 y:3≤fin→0≤y∧y<nm.length
 l:ops.length<1000000000
theorem adN (b:Blk) (hb:b.ops.length<1000000000):Yo (std 0) (b,()) (fun y=>y=bk7 b):=by
 dsimp only [Yo,Alg.cl,Alg.cg,Alg.rb,Alg.bd,Alg.l1,Tup.q,Tup.o]
 simp (disch:=omega) only [RR,RB]
 omega
theorem aph {p1:Blk×Unit→Bool} {f1:Blk×Unit→Bool×Bool×Bool×Unit} (hp1:∀b,p1 (b,())=true) (hf1:∀b,f1 (b,())=(decide (b.fin≠1),decide (3≤b.fin),decide (b.fin≠2),())) {p2:IOp×Unit→Bool} {f2:IOp×Unit→Bool×Bool×Bool×Bool×Unit} (hp2:∀o,p2 (o,())=true) (hf2:∀o,f2 (o,())=(decide (hX o),decide (hY o),decide (hK o),decide (evO o),())) (nm:List Int) (pc len fin x y k:Int) (ops:List IOp) (h:acX nm fin x y ops):Yp (std 0) p1 f1 p2 f2 (nm,pc,len,fin,x,y,k,ops,()) (fun z=>z=(pc,len,fin,(if fin=1 then x else((nm).getD (x).toNat default)),(if 3≤fin then((nm).getD (y).toNat default)else y),k,ops.map (ren nm),())):=by
 have hl:=h.l
 dsimp only [Yp,Alg.cl,Alg.cg,Alg.rb,Alg.bd,Alg.l1,Tup.q,Tup.o]
 simp (disch:=omega) only [RR,RB]
 refine aA (fun(z:List Int×Int×Int×Int×Int×Int×Int×Int×Int×List IOp×Unit)=>z.1=nm∧z.2.1=ops.length∧0≤z.2.2.1∧z.2.2.1≤ops.length∧z.2.2.2=(pc,len,fin,x,y,k,(ops.take z.2.2.1.toNat).map (ren nm)++ops.drop z.2.2.1.toNat,())) (fun z=>((ops.length:Int)-z.2.2.1).toNat) ⟨rfl,rfl,by dsimp only;omega,by dsimp only;omega,rfl⟩ ?_
 rintro⟨(nm':List Int),(n:Int),(i:Int),(pc':Int),(len':Int),(fin':Int),(x':Int),(y':Int),(k':Int),(ops':List IOp),⟨⟩⟩ hI
 dsimp only at hI ⊢
 simp only [Prod.mk.injEq,and_true]at hI
 obtain⟨rfl,rfl,h1,h2,rfl,rfl,rfl,rfl,rfl,rfl,rfl⟩:=hI
 have fl:((ops.take i.toNat).map (ren nm')).length=i.toNat:=by rw [List.length_map,List.length_take];omega
 have ln:=CQ (l:=ops) fl (by omega)
 by_cases c:i<ops.length
 ·obtain⟨ox,oy⟩:=h.op i h1 c
  have ek:=S9 (d:=default) (l:=ops) fl (by omega)
  have ms:=fun q=>CP (x:=q) (l:=ops) fl (by omega)
  have mk:=O7 (d:=default) (f:=(ops.take i.toNat).map (ren nm')) (l:=ops) (k:=i.toNat) (by omega)
  have tk:=iR (d:=default) (l:=ops) h1 c rfl
  have m2:∀q:IOp,(((ops.take i.toNat).map (ren nm')++ [q])++ops.drop (i.toNat+1)).getD i.toNat default=q:=fun q=>by
   rw [getD_lt (by rw [List.length_append,List.length_append,fl];simp only [List.length_cons,List.length_nil];omega),List.getElem_append_left (by rw [List.length_append,fl];simp),List.getElem_append_right (by omega)];simp only [fl,Nat.sub_self,List.getElem_cons_zero]
  have m3:∀q r:IOp,(((ops.take i.toNat).map (ren nm')++ [q])++ops.drop (i.toNat+1)).set i.toNat r=((ops.take i.toNat).map (ren nm')++ [r])++ops.drop (i.toNat+1):=fun q r=>by
   rw [List.set_append_left _ _ (by rw [List.length_append,fl];simp),List.set_append_right _ _ (by omega),fl,Nat.sub_self];rfl
  have m4:∀q:IOp,(((ops.take i.toNat).map (ren nm')++ [q])++ops.drop (i.toNat+1)).length=ops.length:=fun q=>by
   rw [List.length_append,List.length_append,fl,List.length_drop];simp only [List.length_cons,List.length_nil];omega
  rw [mk]at ek ln ms ⊢
  generalize ((ops).getD (i).toNat default)=o at*
  simp (disch:=omega) only [RR,RB,hp2,hf2,m2,m3,m4,c]
  have G:∀q:IOp,q=ren nm' o→(pc',len',fin',x',y',k',(ops.take i.toNat).map (ren nm')++ [q]++ops.drop (i.toNat+1),())=(pc',len',fin',x',y',k',(ops.take (i+1).toNat).map (ren nm')++ops.drop (i+1).toNat,()):=fun q e=>by
   rw [e,←tk,List.map_append,show(i+1).toNat=i.toNat+1 by omega];rfl
  refine⟨h1,h1,fun d=>⟨(ox d).1,(ox d).2,h1,h1,fun e=>⟨(oy e).1,(oy e).2,h1,h1,⟨by omega,by omega,G _ ?_⟩,by omega⟩,fun e=>⟨⟨by omega,by omega,G _ ?_⟩,by omega⟩⟩,fun d=>⟨fun e=>⟨(oy e).1,(oy e).2,h1,h1,⟨by omega,by omega,G _ ?_⟩,by omega⟩,fun e=>⟨⟨by omega,by omega,G _ ?_⟩,by omega⟩⟩⟩
  all_goals unfold ren
  ·rw [if_pos d,if_pos e]
  ·rw [if_pos d,if_neg e]
  ·rw [if_neg d,if_pos e]
  ·rw [if_neg d,if_neg e]
 ·have hx:=h.x
  have hy:=h.y
  have z:(ops.take i.toNat).map (ren nm')++ops.drop i.toNat=ops.map (ren nm'):=by rw [List.take_of_length_le (by omega),List.drop_of_length_le (by omega),List.append_nil]
  rw [z]
  simp (disch:=omega) only [RR,RB,hp1,hf1,c,mkB]
  refine⟨fun d=>⟨(hx d).1,(hx d).2,fun e=>⟨(hy e).1,(hy e).2,?_⟩,fun e=> ?_⟩,fun d=>⟨fun e=>⟨(hy e).1,(hy e).2,?_⟩,fun e=> ?_⟩⟩
  ·rw [if_neg (show¬fin'=1 from d),if_pos (show 3≤fin' from e)]
  ·rw [if_neg (show¬fin'=1 from d),if_neg (show¬3≤fin' from e)]
  ·rw [if_pos (show fin'=1 from Classical.byContradiction d),if_pos (show 3≤fin' from e)]
  ·rw [if_pos (show fin'=1 from Classical.byContradiction d),if_neg (show¬3≤fin' from e)]
end Go.TX.F
namespace Go.TX.F
open Go Go.AE Go.TX
theorem apj {p1:Blk×Unit→Bool} {f1:Blk×Unit→Int×Int×Int×Int×Int×Int×List IOp×Unit} (hp1:∀b,b.ops.length<1000000000→p1 (b,())=true) (hf1:∀b,b.ops.length<1000000000→f1 (b,())=bk7 b) {p2:List Int×Int×Int×Int×Int×Int×Int×List IOp×Unit→Bool} {f2:List Int×Int×Int×Int×Int×Int×Int×List IOp×Unit→Int×Int×Int×Int×Int×Int×List IOp×Unit} (hp2:∀(nm:List Int) pc len fin x y k ops,acX nm fin x y ops→p2 (nm,pc,len,fin,x,y,k,ops,())=true) (hf2:∀(nm:List Int) pc len fin x y k ops,acX nm fin x y ops→f2 (nm,pc,len,fin,x,y,k,ops,())=(pc,len,fin,(if fin=1 then x else((nm).getD (x).toNat default)),(if 3≤fin then((nm).getD (y).toNat default)else y),k,ops.map (ren nm),())) {p3:Blk×Unit→Bool} {f3:Blk×Unit→Bool×Unit} (hp3:∀b,b.ops.length<1000000000→p3 (b,())=true) (hf3:∀b,b.ops.length<1000000000→f3 (b,())=(bp (dB b),())) (b:Blk) (hb:b.ops.length<1000000):Yq (std 0) p1 f1 p2 f2 p3 f3 (b,()) (fun y=>y=(bC b,())):=by
 dsimp only [Yq,Alg.cl,Alg.cg,Alg.rb,Alg.bd,Alg.l1,Tup.q,Tup.o]
 simp (disch:=omega) only [RR,RB,hp1 b (by omega),hf1 b (by omega),hp3 b (by omega),hf3 b (by omega),Hr]
 refine⟨fun h=>by unfold bC;rw [h,if_neg (by decide)];rfl,fun h=> ?_⟩
 have ok:=bR.1 h
 rw [OZ ok]
 have n48:=ok.sz
 refine⟨by omega,by omega,aA (fun(y:List IOp×Int×Int×Blk×Int×Int×Int×Int×Int×Int×List Int×List Int×Unit)=>y.1=b.ops∧y.2.1=b.ops.length∧0≤y.2.2.1∧y.2.2.1≤b.ops.length∧y.2.2.2.1=b∧y.2.2.2.2.2.2.2.2.2.2=((cpS b.ops y.2.2.1.toNat).1++(List.replicate b.ops.length (0:Int)).drop y.2.2.1.toNat,(cpS b.ops y.2.2.1.toNat).2,())) (fun y=>((b.ops.length:Int)-y.2.2.1).toNat) ⟨rfl,rfl,by dsimp only;omega,by dsimp only;omega,rfl,rfl⟩ ?_⟩
 rintro⟨(ops:List IOp),(n:Int),(k:Int),(b':Blk),u1,u2,u3,u4,u5,u6,(nm:List Int),(la:List Int),⟨⟩⟩ hI
 dsimp only at hI ⊢
 simp only [Prod.mk.injEq,and_true]at hI
 obtain⟨rfl,rfl,h1,h2,rfl,rfl,rfl⟩:=hI
 obtain⟨l1,l2⟩:=rT b'.ops k.toNat
 have rl:(List.replicate b'.ops.length (0:Int)).length=b'.ops.length:=List.length_replicate
 have ln:=CQ (l:=List.replicate b'.ops.length (0:Int)) l1 (by omega)
 by_cases c:k<b'.ops.length
 ·have o:=ok.op k h1 c
  have nx:cpS b'.ops (k+1).toNat=((cpS b'.ops k.toNat).1++ [cpN (cpS b'.ops k.toNat) k ((b'.ops).getD (k).toNat default)],cpL (cpS b'.ops k.toNat) k ((b'.ops).getD (k).toNat default)):=by
   rw [show(k+1).toNat=k.toNat+1 by omega,show k=((k.toNat:Nat):Int) by omega];rfl
  have ms:=fun(q:Int)=>CP (x:=q) (l:=List.replicate b'.ops.length (0:Int)) l1 (by omega)
  have m3:∀q r:Int,(((cpS b'.ops k.toNat).1++ [q])++(List.replicate b'.ops.length (0:Int)).drop (k.toNat+1)).set k.toNat r=((cpS b'.ops k.toNat).1++ [r])++(List.replicate b'.ops.length (0:Int)).drop (k.toNat+1):=fun q r=>by
   rw [List.set_append_left _ _ (by rw [List.length_append,l1];simp),List.set_append_right _ _ (by omega),l1,Nat.sub_self];rfl
  have m4:∀q:Int,(((cpS b'.ops k.toNat).1++ [q])++(List.replicate b'.ops.length (0:Int)).drop (k.toNat+1)).length=b'.ops.length:=fun q=>by
   rw [List.length_append,List.length_append,l1,List.length_drop,rl];simp only [List.length_cons,List.length_nil];omega
  have m5:∀(q x:Int),0≤x→x<k→(((((cpS b'.ops k.toNat).1++ [q])++(List.replicate b'.ops.length (0:Int)).drop (k.toNat+1))).getD (x).toNat default)=(((cpS b'.ops k.toNat).1).getD (x).toNat default):=fun q x x0 x1=>by
   rw [List.append_assoc,getD_lt (by rw [List.length_append];omega),getD_lt (by omega),List.getElem_append_left]
  have kd:=o.k2
  have ox:=fun c8:(((b'.ops).getD (k).toNat default)).kind=8=>o.x1 (by unfold hX;omega)
  generalize hq:((b'.ops).getD (k).toNat default)=q at*
  generalize hT:cpS b'.ops (k+1).toNat=T at*
  generalize cpS b'.ops k.toNat=S at*
  have ss:∀i:Int,0≤i→i<S.2.length→S.2.set i.toNat ((S.2).getD (i).toNat default)=S.2:=fun i i0 i1=>by rw [getD_lt (show i.toNat<S.2.length by omega),List.set_getElem_self]
  have G:∀v w,v=cpN S k q→w=cpL S k q→((S.1++ [v])++(List.replicate b'.ops.length (0:Int)).drop (k.toNat+1),w,())=(T.1++(List.replicate b'.ops.length (0:Int)).drop (k+1).toNat,T.2,()):=fun v w e1 e2=>by
   rw [nx,e1,e2,show(k+1).toNat=k.toNat+1 by omega]
  by_cases c2:q.kind=2
  ·have kk:=kd (Or.inl c2)
   by_cases c3:0≤((S.2).getD (q.k).toNat default)
   ·have g:=G (((S.2).getD (q.k).toNat default)) S.2 (by unfold cpN;rw [if_pos ⟨c2,c3⟩]) (by unfold cpL;rw [if_pos c2,if_pos c3])
    simp (disch:=omega) only [RR,RB,ln,ms,m3,m4,rl,c,hq,eq_true c2,eq_true c3,hT,g,decide_true,decide_false,Bool.true_and,Bool.and_true,Bool.and_false,Bool.false_and,false_and]
    omega
   ·have g:=G k (S.2.set q.k.toNat k) (by unfold cpN;rw [if_neg (fun q=>c3 q.2)]) (by unfold cpL;rw [if_pos c2,if_neg c3])
    simp (disch:=omega) only [RR,RB,ln,ms,m3,m4,rl,c,hq,eq_true c2,c3,hT,g,decide_true,decide_false,Bool.true_and,Bool.and_true,Bool.and_false,Bool.false_and,false_and]
    omega
  ·by_cases c8:q.kind=8
   ·have kk:=kd (Or.inr c8)
    have v:=ox c8
    have v0:=v.1
    have v1:=v.2.1
    have g:=G k (S.2.set q.k.toNat ((S.1).getD (q.x).toNat default)) (by unfold cpN;rw [if_neg (fun q=>c2 q.1)]) (by unfold cpL;rw [if_neg c2,if_pos c8])
    simp (disch:=omega) only [RR,RB,ln,ms,m3,m4,m5,rl,c,hq,c2,eq_true c8,hT,g,decide_true,decide_false,Bool.true_and,Bool.and_true,Bool.and_false,Bool.false_and,false_and]
    omega
   ·have g:=G k S.2 (by unfold cpN;rw [if_neg (fun q=>c2 q.1)]) (by unfold cpL;rw [if_neg c2,if_neg c8])
    simp (disch:=omega) only [RR,RB,ln,ms,m3,m4,rl,c,hq,c2,c8,hT,g,decide_true,decide_false,Bool.true_and,Bool.and_true,Bool.and_false,Bool.false_and,false_and]
    omega
 ·have z:(cpS b'.ops k.toNat).1++(List.replicate b'.ops.length (0:Int)).drop k.toNat=(cpS b'.ops b'.ops.length).1:=by
   rw [List.drop_of_length_le (by rw [rl];omega),List.append_nil,show k.toNat=b'.ops.length by omega]
  have en:=ok.en
  have R:acX (cpS b'.ops b'.ops.length).1 b'.fin b'.x b'.y b'.ops:=by
   obtain⟨q1,q2⟩:=rT b'.ops b'.ops.length
   refine⟨fun m m0 m1=> ?_,fun d=> ?_,fun d=> ?_,by omega⟩
   ·have o:=ok.op m m0 m1
    rw [q1]
    exact⟨fun d=>⟨(o.x1 d).1,by have:=(o.x1 d).2.1;omega⟩,fun d=>⟨(o.y1 d).1,by have:=(o.y1 d).2.1;omega⟩⟩
   ·rw [q1];exact⟨(en.x1 d).1,(en.x1 d).2.1⟩
   ·rw [q1];exact⟨(en.y1 d).1,(en.y1 d).2.1⟩
  rw [z]
  generalize (cpS b'.ops b'.ops.length).1=N at*
  simp (disch:=omega) only [RR,RB,c,hp1 b' (by omega),hf1 b' (by omega),hp2 N b'.pc b'.len b'.fin b'.x b'.y b'.k b'.ops R,hf2 N b'.pc b'.len b'.fin b'.x b'.y b'.k b'.ops R]
  rfl
end Go.TX.F
namespace Go.TX.F
open Go Go.AE Go.TX
end Go.TX.F
namespace Go.TX.F
open Go Go.AE Go.TX
end Go.TX.F
namespace Go.TX.F
open Go Go.AE Go.TX
def ShC (l:List Cer):Prop:=l.length<1000∧∀q∈l,q.base.ops.length<1000000∧q.made.ops.length<1000000
theorem ShC.at {l:List Cer} (h:ShC l) (i:Nat):(l.getD i default).base.ops.length<1000000∧(l.getD i default).made.ops.length<1000000:=by
 by_cases c:i<l.length
 ·rw [getD_lt c];exact h.2 _ (List.getElem_mem _)
 ·rw [List.getD_eq_getElem?_getD,List.getElem?_eq_none (by omega)];exact⟨by decide,by decide⟩
theorem ShC.add {l:List Cer} (h:ShC l) (n:l.length<999) {q:Cer} (h1:q.base.ops.length<1000000) (h2:q.made.ops.length<1000000):ShC (l++ [q]):=by
 refine⟨by rw [List.length_append,List.length_singleton];omega,fun c g=> ?_⟩
 rw [List.mem_append,List.mem_singleton]at g
 rcases g with g | rfl
 ·exact h.2 c g
 ·exact⟨h1,h2⟩
end Go.TX.F
namespace Go.TX.F
open Go Go.AE Go.TX
theorem jv (l:List Int):(dJ l).Perm l:=List.mergeSort_perm l _
theorem Ba (l:List Int):(dJ l).Pairwise (· ≤ ·):=by
 have:=List.pairwise_mergeSort (le:=fun x y:Int=>decide (x≤y)) (fun a b c h1 h2=>by simp only [decide_eq_true_eq]at*;omega) (fun a b=>by simp only [Bool.or_eq_true,decide_eq_true_eq];omega) l
 exact this.imp fun h=>by simpa using h
theorem vg {a b:List Int} (h:a.Perm b):dJ a=dJ b:=rO (Ba a) ((jv a).trans h)
theorem H9 {a:List Int} (h:a.Pairwise (· ≤ ·)):dJ a=a:=(rO h (List.Perm.refl a)).symm
structure Ren (s:Int→Int) (t:Int→Int) (n:Int):Prop where
 rng:∀k,0≤k→k<n→0≤s k∧s k≤199
 back:∀k,0≤k→k<n→t (s k)=k
def mapM (s:Int→Int) (m:aj):aj:=⟨m.fZ,dJ (m.atoms.map s)⟩
def AtN (n:Int) (l:List Int):Prop:=l.Pairwise (· ≤ ·)∧∀k∈l,0≤k∧k<n
theorem Ren.bk {s t:Int→Int} {n:Int} (h:Ren s t n) {l:List Int} (hl:AtN n l):dJ ((dJ (l.map s)).map t)=l:=by
 rw [vg ((jv _).map t),List.map_map]
 have e:l.map (t ∘ s)=l:=by
  conv=>rhs;rw [←List.map_id l]
  exact List.map_congr_left fun k hk=>h.back k (hl.2 k hk).1 (hl.2 k hk).2
 rw [e,H9 hl.1]
theorem KV {s t:Int→Int} {n:Int} (h:Ren s t n) (K:List Int):∀ {l:List aj},(∀m∈l,AtN n m.atoms)→cf (l.map (mapM s)) K=if dJ ((dJ (K.map t)).map s)=K then cf l (dJ (K.map t))else 0
 | [],_=>by simp [jo]
 | m::l,hl=>by
  have hm:=hl m List.mem_cons_self
  rw [List.map_cons,bE,KV h K (fun m' hm'=>hl m' (List.mem_cons_of_mem _ hm')),bE]
  show(if dJ (m.atoms.map s)=K then m.fZ else 0)+_=_
  by_cases c:dJ (m.atoms.map s)=K
  ·have e:=h.bk hm
   rw [c]at e
   rw [if_pos c,e,if_pos c,if_pos c,if_pos rfl]
  ·rw [if_neg c]
   by_cases d:dJ ((dJ (K.map t)).map s)=K
   ·rw [if_pos d,if_pos d,if_neg (fun x=>c (by rw [x,d]))]
   ·rw [if_neg d,if_neg d];rfl
noncomputable def aQ (s:Int→Int) (p:List aj):List aj:=nf (p.map (mapM s))
theorem acY {s t:Int→Int} {n:Int} (h:Ren s t n) {l l':List aj} (hl:∀m∈l,AtN n m.atoms) (hl':∀m∈l',AtN n m.atoms) (e:∀k,cf l k%65536=cf l' k%65536):nf (l.map (mapM s))=nf (l'.map (mapM s)):=
 OP fun K=>by
  rw [KV h K hl,KV h K hl']
  split
  ·exact e _
  ·rfl
structure Dis (l:List aj):Prop where
 ne:l.Pairwise fun a b=>a.atoms≠b.atoms
 co:∀m∈l,1≤m.fZ∧m.fZ≤65535
theorem Nf.dis {o:List aj} (h:Nf o):Dis o:=⟨h.ss.imp fun g=>g.ne,h.co⟩
theorem Dis.perm {a b:List aj} (h:Dis a) (p:a.Perm b):Dis b:=⟨(p.pairwise_iff (R:=fun a b:aj=>a.atoms≠b.atoms) (fun g=>g.symm)).1 h.ne,fun m hm=>h.co m (p.mem_iff.2 hm)⟩
theorem Dis.rng (k:List Int):∀ {l:List aj},Dis l→0≤cf l k∧cf l k≤65535
 | [],_=>by simp [jo]
 | m::l,h=>by
  have c:=h.co m List.mem_cons_self
  rw [bE]
  by_cases e:m.atoms=k
  ·rw [if_pos e,gJ fun m' hm'=>by rw [←e];exact(List.rel_of_pairwise_cons h.ne hm').symm];omega
  ·rw [if_neg e]
   have:=Dis.rng k (l:=l) ⟨h.ne.tail,fun m hm=>h.co m (List.mem_cons_of_mem _ hm)⟩
   omega
theorem Vv {a b:List aj} (p:a.Perm b) (k:List Int):cf a k=cf b k:=by
 induction p with
 | nil=>rfl
 | cons x _ ih=>rw [bE,bE,ih]
 | swap x y l=>rw [bE,bE,bE,bE];omega
 | trans _ _ h1 h2=>rw [h1,h2]
theorem acZ {a b c:List Int} (h1:dZ a b≤0) (h2:dZ b c≤0):dZ a c≤0:=by
 by_cases e:dZ b c=0
 ·rw [←iD.1 e];exact h1
 ·exact Int.le_of_lt (dA (x:=⟨0,a⟩) (y:=⟨0,b⟩) (z:=⟨0,c⟩) h1 (by dsimp only;omega))
theorem Dis.nf {l:List aj} (h:Dis l):(nf l).Perm l∧Nf (nf l):=by
 have p:(l.mergeSort fun a b=>decide (dZ a.atoms b.atoms≤0)).Perm l:=List.mergeSort_perm l _
 have g:=List.pairwise_mergeSort (le:=fun a b:aj=>decide (dZ a.atoms b.atoms≤0)) (fun a b c h1 h2=>by
  simp only [decide_eq_true_eq]at*;exact acZ h1 h2) (fun a b=>by
  simp only [Bool.or_eq_true,decide_eq_true_eq];rw [kM b.atoms a.atoms];omega) l
 have d:=h.perm p.symm
 have n:Nf (l.mergeSort fun a b=>decide (dZ a.atoms b.atoms≤0)):=by
  refine⟨(g.and d.ne).imp fun {a b} x=> ?_,d.co⟩
  have x1:dZ a.atoms b.atoms≤0:=by simpa using x.1
  have x2:dZ a.atoms b.atoms≠0:=fun e=>x.2 (iD.1 e)
  show dZ _ _<0
  omega
 have e:=Jr (l:=l) n fun k=>by
  rw [Vv p k];have:=h.rng k;omega
 rw [e];exact⟨p,n⟩
theorem Ia {s t:Int→Int} {n:Int} (h:Ren s t n) {p:List aj} (hp:Dis p) (ha:∀m∈p,AtN n m.atoms):(aQ s p).Perm (p.map (mapM s))∧Nf (aQ s p):=by
 refine Dis.nf ⟨?_,fun m hm=> ?_⟩
 ·rw [List.pairwise_map]
  refine hp.ne.imp_of_mem fun {a b} h1 h2 g e=>g ?_
  have e':dJ (a.atoms.map s)=dJ (b.atoms.map s):=e
  rw [←h.bk (ha a h1),e',h.bk (ha b h2)]
 ·obtain⟨m',h1,rfl⟩:=List.mem_map.1 hm
  exact hp.co m' h1
theorem aaC {s t:Int→Int} {n:Int} (h:Ren s t n) {p:List aj} (hp:aO p) (ha:∀m∈p,AtN n m.atoms):aO (aQ s p):=by
 obtain⟨h1,h2,h3⟩:=iE.1 hp
 obtain⟨g1,g2⟩:=Ia h h1.dis ha
 refine iE.2 ⟨g2,by rw [g1.length_eq,List.length_map];exact h2,fun m hm=> ?_⟩
 obtain⟨m',k1,rfl⟩:=List.mem_map.1 (g1.mem_iff.1 hm)
 refine⟨by show(dJ _).length≤4;rw [wD,List.length_map];exact(h3 m' k1).1,Ba _,fun k hk=> ?_⟩
 obtain⟨j,j1,rfl⟩:=List.mem_map.1 ((jv _).mem_iff.1 hk)
 exact h.rng j ((ha m' k1).2 j j1).1 ((ha m' k1).2 j j1).2
theorem aaD {l:List aj} {n:Int} (hl:∀m∈l,AtN n m.atoms):∀m∈nf l,AtN n m.atoms:=fun m hm=>by
 obtain⟨h1,h2⟩:=KL l
 obtain⟨m',g1,g2⟩:=h1.from h2 hm
 rw [←g2];exact hl m' g1
theorem aiZ {s t:Int→Int} {n:Int} (h:Ren s t n) {l:List aj} (hl:∀m∈l,AtN n m.atoms):nf (l.map (mapM s))=aQ s (nf l):=
 acY h hl (aaD hl) fun k=>by rw [(KL l).2];omega
theorem AtN.aok {n:Int} (hn:n≤200) {l:List Int} (h:AtN n l):aok l:=⟨h.1,fun k hk=>by have:=h.2 k hk;omega⟩
theorem ac0 {s t:Int→Int} {n:Int} (h:Ren s t n) (hn:n≤200) {p:List aj} (hp:Nf p) (ha:∀m∈p,AtN n m.atoms):aO (aQ s p)↔aO p:=by
 refine⟨fun g=> ?_,fun g=>aaC h g ha⟩
 obtain⟨h1,h2,h3⟩:=iE.1 g
 obtain⟨g1,_⟩:=Ia h hp.dis ha
 refine iE.2 ⟨hp,by rw [g1.length_eq,List.length_map]at h2;exact h2,fun m hm=>⟨?_,(ha m hm).aok hn⟩⟩
 have:=(h3 _ (g1.mem_iff.2 (List.mem_map.2 ⟨m,hm,rfl⟩))).1
 have e:(mapM s m).atoms.length=m.atoms.length:=by show(dJ _).length=_;rw [wD,List.length_map]
 omega
theorem O8 {s t:Int→Int} {n:Int} (h:Ren s t n) (hn:n≤200) {l:List aj} (hl:∀m∈l,AtN n m.atoms):jZ (l.map (mapM s))=((jZ l).1,aQ s (jZ l).2):=by
 unfold jZ
 rw [aiZ h hl]
 have e:=ac0 h hn (KL l).1 (aaD hl)
 by_cases c:aO (nf l)
 ·rw [bO c,bO (e.2 c)];rfl
 ·rw [iB c,iB (fun g=>c (e.1 g))]
  show(false,[])=(false,aQ s [])
  have:aQ s []=[]:=wE ⟨List.Pairwise.nil,fun m hm=>absurd hm (by simp)⟩
  rw [this]
theorem Vw {a b:List aj} (p:a.Perm b):nf a=nf b:=OP fun k=>by rw [Vv p]
theorem JF {a b:List aj} (p:a.Perm b):jZ a=jZ b:=by unfold jZ;rw [Vw p]
def RP (n:Int) (p:List aj):Prop:=aO p∧∀m∈p,AtN n m.atoms
theorem RP.perm {s t:Int→Int} {n:Int} (h:Ren s t n) {p:List aj} (hp:RP n p):(aQ s p).Perm (p.map (mapM s)):=(Ia h hp.1.nf.dis hp.2).1
theorem RP.ok {s t:Int→Int} {n:Int} (h:Ren s t n) {p:List aj} (hp:RP n p):aO (aQ s p):=aaC h hp.1 hp.2
theorem O9 {s t:Int→Int} {n:Int} (h:Ren s t n) (hn:n≤200) {a b:List aj} (ha:RP n a) (hb:RP n b):og (aQ s a) (aQ s b)=((og a b).1,aQ s (og a b).2):=by
 unfold og
 rw [bO (ha.ok h),bO (hb.ok h),bO ha.1,bO hb.1]
 show jZ _=_
 rw [JF ((ha.perm h).append (hb.perm h)),←List.map_append,O8 h hn fun m hm=> ?_]
 ·rfl
 ·rcases List.mem_append.1 hm with g | g
  ·exact ha.2 m g
  ·exact hb.2 m g
theorem aaE (s:Int→Int) (m k:aj):mulM (mapM s m) (mapM s k)=mapM s (mulM m k):=by
 show aj.mk _ (dJ (dJ (m.atoms.map s)++dJ (k.atoms.map s)))=aj.mk _ (dJ ((dJ (m.atoms++k.atoms)).map s))
 rw [vg ((jv _).append (jv _)),←List.map_append,vg ((jv (m.atoms++k.atoms)).map s)];rfl
theorem WS (s:Int→Int) (a b:List aj):prods (a.map (mapM s)) (b.map (mapM s))=(prods a b).map (mapM s):=by
 unfold prods
 rw [List.flatMap_map,List.map_flatMap]
 congr 1;funext m
 rw [List.map_map,List.map_map]
 congr 1;funext k
 exact aaE s m k
theorem Tc {a a' b b':List aj} (h1:a.Perm a') (h2:b.Perm b'):(prods a b).Perm (prods a' b'):=by
 unfold prods
 refine(h1.flatMap_right _).trans ?_
 clear h1
 induction a' with
 | nil=>exact List.Perm.refl _
 | cons m l ih=>rw [List.flatMap_cons,List.flatMap_cons];exact(h2.map _).append ih
theorem AtN.mul {n:Int} {m k:aj} (h1:AtN n m.atoms) (h2:AtN n k.atoms):AtN n (mulM m k).atoms:=⟨Ba _,fun j hj=>by
 rcases List.mem_append.1 ((jv _).mem_iff.1 hj)with g | g
 ·exact h1.2 j g
 ·exact h2.2 j g⟩
theorem Pb {n:Int} {a b:List aj} (ha:∀m∈a,AtN n m.atoms) (hb:∀m∈b,AtN n m.atoms):∀m∈prods a b,AtN n m.atoms:=fun m hm=>by
 obtain⟨x,hx,g⟩:=List.mem_flatMap.1 hm
 obtain⟨y,hy,rfl⟩:=List.mem_map.1 g
 exact(ha x hx).mul (hb y hy)
theorem Pf {s t:Int→Int} {n:Int} (h:Ren s t n) (hn:n≤200) {a b:List aj} (ha:RP n a) (hb:RP n b):lF (aQ s a) (aQ s b)=((lF a b).1,aQ s (lF a b).2):=by
 unfold lF
 rw [bO (ha.ok h),bO (hb.ok h),bO ha.1,bO hb.1]
 show jZ _=_
 rw [JF (Tc (ha.perm h) (hb.perm h)),WS,O8 h hn (Pb ha.2 hb.2)]
 rfl
theorem aaF {s t:Int→Int} {n:Int} (h:Ren s t n) {p:List aj} (hp:∀m∈p,AtN n m.atoms):(p.map (mapM s)).map (mapM t)=p:=by
 rw [List.map_map]
 conv=>rhs;rw [←List.map_id p]
 refine List.map_congr_left fun m hm=> ?_
 show aj.mk m.fZ (dJ ((dJ (m.atoms.map s)).map t))=m
 rw [h.bk (hp m hm)]
theorem jU {s t:Int→Int} {n:Int} (h:Ren s t n) {p q:List aj} (hp:RP n p) (hq:RP n q) (e:aQ s p=aQ s q):p=q:=by
 have g:(p.map (mapM s)).Perm (q.map (mapM s)):=(hp.perm h).symm.trans (e▸hq.perm h)
 have:=Vw (g.map (mapM t))
 rwa [aaF h hp.2,aaF h hq.2,wE hp.1.nf,wE hq.1.nf]at this
theorem jV (s:Int→Int):aQ s []=[]:=wE ⟨List.Pairwise.nil,fun m hm=>absurd hm (by simp)⟩
theorem RP.nil (n:Int):RP n []:=⟨bS,fun m hm=>absurd hm (by simp)⟩
theorem WT:dJ []=[]:=H9 List.Pairwise.nil
theorem RP.const (n k:Int):RP n (aP k):=by
 refine⟨bW k,fun m hm=> ?_⟩
 unfold aP at hm
 split at hm
 ·rw [List.mem_singleton]at hm;subst hm;exact⟨List.Pairwise.nil,fun j hj=>absurd hj (by simp)⟩
 ·exact absurd hm (by simp)
theorem wH {s:Int→Int} (k:Int):aQ s (aP k)=aP k:=by
 have e:(aP k).map (mapM s)=aP k:=by
  unfold aP
  split
  ·show [aj.mk k (dJ [])]=_;rw [WT]
  ·rfl
 unfold aQ;rw [e,wE (bW k).nf]
theorem RP.atom {n j:Int} (h1:0≤j) (h2:j<n):RP n (dz j):=by
 refine⟨kP j,fun m hm=> ?_⟩
 unfold dz at hm
 split at hm
 ·rw [List.mem_singleton]at hm;subst hm;exact⟨List.pairwise_singleton _ _,fun i hi=>by rw [List.mem_singleton]at hi;subst hi;exact⟨h1,h2⟩⟩
 ·exact absurd hm (by simp)
theorem aaG {s t:Int→Int} {n:Int} (h:Ren s t n) (hn:n≤200) {j:Int} (h1:0≤j) (h2:j<n):aQ s (dz j)=dz (s j):=by
 have r:=h.rng j h1 h2
 have e:(dz j).map (mapM s)=dz (s j):=by
  unfold dz
  rw [if_pos (by omega),if_pos (by omega)]
  show [aj.mk 1 (dJ [s j])]=_;rw [H9 (List.pairwise_singleton _ _)]
 unfold aQ;rw [e,wE (kP _).nf]
theorem ac1 {s t:Int→Int} {n:Int} (h:Ren s t n) {p:List aj} (hp:RP n p):(aQ s p).length=p.length:=by rw [(hp.perm h).length_eq,List.length_map]
theorem ac2 {s t:Int→Int} {n:Int} (h:Ren s t n) {m:aj} (hp:RP n [m]):aQ s [m]=[mapM s m]:=List.perm_singleton.1 (hp.perm h)
theorem zK {s t:Int→Int} {n:Int} (h:Ren s t n) {p:List aj} (hp:RP n p):dL (aQ s p)=dL p:=by
 have l:=ac1 h hp
 unfold dL
 rw [bO (hp.ok h),bO hp.1,l]
 match p,hp,l with
 | [],_,_=>rfl
 | [m],hp,_=>
  rw [ac2 h hp]
  have e:(mapM s m).atoms.length=m.atoms.length:=by show(dJ _).length=_;rw [wD,List.length_map]
  have e2:(mapM s m).fZ=m.fZ:=rfl
  have z:((mapM s m).atoms=[])↔(m.atoms=[]):=by rw [←List.length_eq_zero_iff,e,List.length_eq_zero_iff]
  simp [e2,z]
 | a::b::r,_,_=>simp
theorem RP.sum {n:Int} {l:List aj} (hl:∀m∈l,AtN n m.atoms):RP n (jZ l).2:=by
 unfold jZ
 by_cases c:aO (nf l)
 ·rw [bO c];exact⟨c,aaD hl⟩
 ·rw [iB c];exact RP.nil n
theorem RP.add {n:Int} {a b:List aj} (ha:RP n a) (hb:RP n b):RP n (og a b).2:=by
 unfold og
 rw [bO ha.1,bO hb.1]
 exact RP.sum fun m hm=>by
  rcases List.mem_append.1 hm with g | g
  ·exact ha.2 m g
  ·exact hb.2 m g
theorem RP.mul {n:Int} {a b:List aj} (ha:RP n a) (hb:RP n b):RP n (lF a b).2:=by
 unfold lF
 rw [bO ha.1,bO hb.1]
 exact RP.sum (Pb ha.2 hb.2)
theorem RP.scale {n:Int} {a:List aj} (ha:RP n a) (k:Int):RP n (iM a k):=by
 unfold iM
 split
 ·exact ha.mul (RP.const n k)
 ·exact RP.nil n
theorem Td {s t:Int→Int} {n:Int} (h:Ren s t n) (hn:n≤200) {a:List aj} (ha:RP n a) (k:Int):iM (aQ s a) k=aQ s (iM a k):=by
 unfold iM
 rw [bO (ha.ok h),bO ha.1]
 by_cases c:inB k 0 65535=true
 ·rw [c]
  show(lF (aQ s a) (aP k)).2=aQ s (lF a (aP k)).2
  rw [←wH (s:=s) k,Pf h hn ha (RP.const n k),wH]
 ·rw [Bool.not_eq_true]at c;rw [c];exact(jV s).symm
theorem Ib {s t:Int→Int} {n:Int} (h:Ren s t n) {x y:List aj} (hx:RP n x) (hy:RP n y):dP (aQ s x) (aQ s y)=0↔dP x y=0:=by
 rw [gT,gT]
 exact⟨fun e=>jU h hx hy e,fun e=>by rw [e]⟩
theorem aaH {s t:Int→Int} {n:Int} (h:Ren s t n) {x y:List aj} (hx:RP n x) (hy:RP n y) (op:Int):Cw op (aQ s x) (aQ s y)=(aQ s (Cw op x y).1,(Cw op x y).2):=by
 unfold Cw
 rw [zK h hx,zK h hy]
 simp only [Ib h hx hy]
 repeat' split
 all_goals simp only [wH,jV]
theorem RP.bit {n:Int} {x y:List aj} (hx:RP n x) (hy:RP n y) (op:Int):RP n (Cw op x y).1:=by
 unfold Cw
 repeat' split
 all_goals first | exact hx | exact hy | exact RP.nil n | exact RP.const n _
theorem WU {s t:Int→Int} {n:Int} (h:Ren s t n) (hn:n≤200) {x y:List aj} (hx:RP n x) (hy:RP n y) (op:Int):fP op (aQ s x) (aQ s y)=(aQ s (fP op x y).1,(fP op x y).2):=by
 unfold fP
 split; · rw [O9 h hn hx hy]
 split; · rw [Td h hn hy,O9 h hn hx (hy.scale _)]
 split; · rw [Pf h hn hx hy]
 exact aaH h hx hy op
theorem RP.simp {n:Int} {x y:List aj} (hx:RP n x) (hy:RP n y) (op:Int):RP n (fP op x y).1:=by
 unfold fP
 split; · exact hx.add hy
 split; · exact hx.add (hy.scale _)
 split; · exact hx.mul hy
 exact hx.bit hy op
end Go.TX.F
namespace Go.TX.F
open Go Go.AE Go.TX
theorem Bb {n:Int} {p:List aj}:RP n p↔aO p∧bg p n:=by
 constructor
 ·rintro⟨h1,h2⟩;exact⟨h1,bP.2 fun m hm k hk=>((h2 m hm).2 k hk).2⟩
 ·rintro⟨h1,h2⟩
  refine⟨h1,fun m hm=>⟨(h1.aok hm).2.1,fun k hk=>⟨((h1.aok hm).2.2 k hk).1,bP.1 h2 m hm k hk⟩⟩⟩
theorem iV {s s':Int→Int} {n:Int} (e:∀j,0≤j→j<n→s' j=s j) {p:List aj} (hp:RP n p):aQ s' p=aQ s p:=by
 unfold aQ
 congr 1
 refine List.map_congr_left fun m hm=> ?_
 unfold mapM
 congr 2
 exact List.map_congr_left fun k hk=>e k ((hp.2 m hm).2 k hk).1 ((hp.2 m hm).2 k hk).2
theorem RP.le {n m:Int} {p:List aj} (h:RP n p) (hn:n≤m):RP m p:=⟨h.1,fun a ha=>⟨(h.2 a ha).1,fun k hk=>by have:=(h.2 a ha).2 k hk;omega⟩⟩
noncomputable def zL (s:Int→Int) (a:Atom):Atom:=
 if a.kind=4∧a.k≠2∧0<dP (aQ s a.x) (aQ s a.y)then⟨a.kind,a.k,aQ s a.y,aQ s a.x⟩else⟨a.kind,a.k,aQ s a.x,aQ s a.y⟩
def Pg (a:Atom):Prop:=a.kind=4→a.k≠2→dP a.x a.y≤0
theorem aaI {s t:Int→Int} {n:Int} (h:Ren s t n) {a b:Atom} (ax:RP n a.x) (ay:RP n a.y) (bx:RP n b.x) (by_:RP n b.y) (oa:Pg a) (ob:Pg b) (e:zL s a=zL s b):a=b:=by
 have key:a.kind=b.kind→a.k=b.k→(a.kind=4∧a.k≠2)→aQ s a.x=aQ s b.y→aQ s a.y=aQ s b.x→a=b:=fun e1 e2 c e3 e4=>by
  have e3:=jU h ax by_ e3
  have e4:=jU h ay bx e4
  have o1:=oa c.1 c.2
  have o2:=ob (e1▸c.1) (e2▸c.2)
  rw [←e3,←e4,mI]at o2
  have:a.x=a.y:=gT.1 (by omega)
  cases a;cases b;dsimp only at*;subst e1;subst e2;subst e3;subst e4;subst this;rfl
 have same:a.kind=b.kind→a.k=b.k→aQ s a.x=aQ s b.x→aQ s a.y=aQ s b.y→a=b:=fun e1 e2 e3 e4=>by
  have e3:=jU h ax bx e3
  have e4:=jU h ay by_ e4
  cases a;cases b;dsimp only at*;subst e1;subst e2;subst e3;subst e4;rfl
 unfold zL at e
 by_cases c:a.kind=4∧a.k≠2∧0<dP (aQ s a.x) (aQ s a.y)
 ·rw [if_pos c]at e
  by_cases d:b.kind=4∧b.k≠2∧0<dP (aQ s b.x) (aQ s b.y)
  ·rw [if_pos d]at e;injection e with e1 e2 e3 e4;exact same e1 e2 e4 e3
  ·rw [if_neg d]at e;injection e with e1 e2 e3 e4;exact key e1 e2 ⟨c.1,c.2.1⟩ e4 e3
 ·rw [if_neg c]at e
  by_cases d:b.kind=4∧b.k≠2∧0<dP (aQ s b.x) (aQ s b.y)
  ·rw [if_pos d]at e;injection e with e1 e2 e3 e4;exact key e1 e2 ⟨e1▸d.1,e2▸d.2.1⟩ e3 e4
  ·rw [if_neg d]at e;injection e with e1 e2 e3 e4;exact same e1 e2 e3 e4
theorem Ic {s s':Int→Int} {n:Int} (e:∀j,0≤j→j<n→s' j=s j) {a:Atom} (ax:RP n a.x) (ay:RP n a.y):zL s' a=zL s a:=by
 unfold zL;rw [iV e ax,iV e ay]
theorem Ph {a:Atom} {n:Int} (h:gU a n):RP n a.x∧RP n a.y:=by
 unfold gU at h
 split at h
 ·exact⟨Bb.2 ⟨h.2.1,h.2.2.2.1⟩,Bb.2 ⟨h.2.2.1,h.2.2.2.2⟩⟩
 ·rw [h.1.1,h.1.2];exact⟨RP.nil n,RP.nil n⟩
theorem Vx {α:Type} [Inhabited α] (l:List α) (a:α) (i:Int) (h:0≤i):((l++ [a]).getD (i).toNat default)=if i=l.length then a else((l).getD (i).toNat default):=by
 by_cases c:i=l.length
 ·rw [if_pos c,c,List.getD_eq_getElem?_getD];simp
 ·rw [if_neg c,List.getD_eq_getElem?_getD,List.getD_eq_getElem?_getD]
  by_cases d:i.toNat<l.length
  ·rw [List.getElem?_append_left d]
  ·rw [List.getElem?_eq_none (by rw [List.length_append,List.length_singleton];omega),List.getElem?_eq_none (by omega)]
structure TR (s t:Int→Int) (u T:List Atom):Prop where
 r:Ren s t u.length
 tok:aG u
 im:∀i:Int,0≤i→i<u.length→s i<T.length∧((T).getD (s i).toNat default)=zL s ((u).getD (i).toNat default)
 ord:∀i:Int,0≤i→i<u.length→Pg ((u).getD (i).toNat default)
theorem TR.rp {s t:Int→Int} {u T:List Atom} (h:TR s t u T) {i:Int} (h1:0≤i) (h2:i<u.length):RP i ((u).getD (i).toNat default).x∧RP i ((u).getD (i).toNat default).y:=Ph ((jI.1 h.tok).1 i h1 h2).1
theorem TR.snoc {s t:Int→Int} {u T:List Atom} (h:TR s t u T) (hT:aG T) {a:Atom} (hu:aG (u++ [a])) (hn:∀i:Int,0≤i→i<u.length→((u).getD (i).toNat default)≠a) (ha:gU a u.length) (oa:Pg a) {k:Int} (k0:0≤k) (k1:k<T.length) (k2:((T).getD (k).toNat default)=zL s a):
  ∃s' t':Int→Int,TR s' t' (u++ [a]) T∧(∀j:Int,0≤j→j<u.length→s' j=s j)∧s' u.length=k:=by
 have hT2:=(jI.1 hT).2
 obtain⟨ax,ay⟩:=Ph ha
 have ag:∀j:Int,0≤j→j< (u.length:Int)→(fun j:Int=>if j=u.length then k else s j) j=s j:=fun j h1 h2=>if_neg (by omega)
 have nk:∀j:Int,0≤j→j< (u.length:Int)→s j≠k:=fun j h1 h2 e=>by
  have g:=(h.im j h1 h2).2
  rw [e,k2]at g
  have:=h.rp h1 h2
  exact hn j h1 h2 (aaI h.r (this.1.le (by omega)) (this.2.le (by omega)) ax ay (h.ord j h1 h2) oa g.symm)
 have ln:((u++ [a]).length:Int)=u.length+1:=by rw [List.length_append,List.length_singleton];omega
 refine⟨fun j:Int=>if j=u.length then k else s j,fun v:Int=>if v=k then u.length else t v,⟨⟨fun j h1 h2=> ?_,fun j h1 h2=> ?_⟩,hu,fun j h1 h2=> ?_,fun j h1 h2=> ?_⟩,ag,if_pos rfl⟩
 ·split
  ·omega
  ·exact h.r.rng j h1 (by omega)
 ·by_cases c:j=u.length
  ·rw [if_pos c,if_pos rfl,c]
  ·rw [if_neg c,if_neg (nk j h1 (by omega))];exact h.r.back j h1 (by omega)
 ·rw [Vx _ _ _ h1]
  by_cases c:j=u.length
  ·rw [if_pos c,if_pos c,Ic (s:=s) ag ax ay];exact⟨k1,k2⟩
  ·rw [if_neg c,if_neg c]
   have:=h.rp h1 (show j<u.length by omega)
   rw [Ic (s:=s) ag (this.1.le (by omega)) (this.2.le (by omega))]
   exact h.im j h1 (by omega)
 ·rw [Vx _ _ _ h1]
  split
  ·exact oa
  ·exact h.ord j h1 (by omega)
theorem ac3 {T:List Atom} (hT:aG T) {i j:Int} (i0:0≤i) (i1:i<T.length) (j0:0≤j) (j1:j<T.length) (e:((T).getD (i).toNat default)=((T).getD (j).toNat default)):i=j:=by
 have h:=(jI.1 hT).1
 rcases Int.lt_trichotomy i j with c | c | c
 ·exact absurd e.symm ((h j j0 j1).2 i i0 c)
 ·exact c
 ·exact absurd e ((h i i0 i1).2 j j0 c)
structure ar4 (s:Int→Int) (s' t':Int→Int) (u u' T:List Atom) (r k:Int):Prop where
 tr:TR s' t' u' T
 ag:∀j:Int,0≤j→j<u.length→s' j=s j
 r0:0≤r
 r1:r<u'.length
 sr:s' r=k
 le:u.length≤u'.length
theorem TR.put {s t:Int→Int} {u T:List Atom} (h:TR s t u T) (hT:aG T) {a:Atom} (ha:gU a u.length) (oa:Pg a) (hl:u.length<200) {k:Int} (k0:0≤k) (k1:k<T.length) (k2:((T).getD (k).toNat default)=zL s a):
  ∃s' t':Int→Int,ar4 s s' t' u (bf u a).1 T (bf u a).2 k:=by
 have ok:=zD (a:=a) h.tok hl
 rcases kN u a with⟨f1,f2⟩ | ⟨f1,f2,f3,_⟩
 ·have e:bf u a=(u++ [a],(u.length:Int)):=by
   unfold bf
   rw [if_neg (by omega),if_neg]
   rintro(g | g)
   ·exact g ha
   ·omega
  rw [e]at ok ⊢
  obtain⟨s',t',g1,g2,g3⟩:=h.snoc hT ok.1 (fun i i0 i1 g=>f2 i i0 i1 g.symm) ha oa k0 k1 k2
  exact⟨s',t',g1,g2,by dsimp only;omega,by dsimp only;rw [List.length_append,List.length_singleton];omega,g3,by dsimp only;rw [List.length_append];omega⟩
 ·have e:bf u a=(u,sH u a):=by unfold bf;rw [if_pos f1]
  rw [e]
  have g:=h.im _ f1 f2
  refine⟨s,t,h,fun _ _ _=>rfl,f1,f2,?_,Nat.le_refl _⟩
  have f3:a=((u).getD (sH u a).toNat default):=f3
  refine ac3 hT (h.r.rng _ f1 f2).1 g.1 k0 k1 ?_
  rw [g.2,←f3,k2]
noncomputable def atD (op:Int) (x y:List aj):Atom:=if op≠2∧0<dP x y then⟨4,op,y,x⟩else⟨4,op,x,y⟩
theorem KW (t:List Atom) (op:Int) (x y:List aj):tDo t op x y=if(fP op x y).2 then(t,(fP op x y).1)else if(bf t (atD op x y)).2<0 then([],[])else((bf t (atD op x y)).1,dz (bf t (atD op x y)).2):=by
 unfold tDo atD
 split
 ·rfl
 ·split<;>rfl
theorem ac4 (op:Int) (x y:List aj):Pg (atD op x y):=by
 unfold atD Pg
 split
 ·rename_i c;intro _ _;dsimp only;rw [mI];omega
 ·rename_i c;intro _ g;dsimp only at g ⊢;by_cases d:0<dP x y
  ·exact absurd ⟨g,d⟩ c
  ·omega
theorem ac5 {s t:Int→Int} {n:Int} (h:Ren s t n) {x y:List aj} (hx:RP n x) (hy:RP n y) (op:Int):zL s (atD op x y)=atD op (aQ s x) (aQ s y):=by
 have z:=Ib h hx hy
 have f:=mI (aQ s x) (aQ s y)
 have eq:dP (aQ s x) (aQ s y)=0→aQ s x=aQ s y:=gT.1
 unfold atD zL
 by_cases c:op≠2∧0<dP x y
 ·rw [if_pos c]
  dsimp only
  by_cases d:0<dP (aQ s x) (aQ s y)
  ·rw [if_neg (by omega),if_pos ⟨c.1,d⟩]
  ·rw [if_pos ⟨rfl,c.1,by omega⟩,if_neg (by omega)]
 ·rw [if_neg c]
  dsimp only
  by_cases d:op≠2∧0<dP (aQ s x) (aQ s y)
  ·rw [if_pos ⟨rfl,d.1,d.2⟩,if_pos d]
  ·rw [if_neg (by omega),if_neg d]
end Go.TX.F
namespace Go.TX.F
open Go Go.AE Go.TX
noncomputable def KY (s:Int→Int) (e:Ev):Ev:=⟨e.kind,e.at_,aQ s e.x,aQ s e.y,e.regs.map (aQ s)⟩
def RPs (n:Int) (l:List (List aj)):Prop:=∀p∈l,RP n p
def RPE (n:Int) (l:List Ev):Prop:=∀e∈l,RP n e.x∧RP n e.y∧RPs n e.regs
theorem RPs.le {n m:Int} {l:List (List aj)} (h:RPs n l) (hn:n≤m):RPs m l:=fun p hp=>(h p hp).le hn
theorem RPE.le {n m:Int} {l:List Ev} (h:RPE n l) (hn:n≤m):RPE m l:=fun e he=>⟨(h e he).1.le hn,(h e he).2.1.le hn,(h e he).2.2.le hn⟩
theorem nU {s s':Int→Int} {n:Int} (e:∀j,0≤j→j<n→s' j=s j) {l:List (List aj)} (h:RPs n l):l.map (aQ s')=l.map (aQ s):=List.map_congr_left fun p hp=>iV e (h p hp)
theorem Ce {s s':Int→Int} {n:Int} (e:∀j,0≤j→j<n→s' j=s j) {l:List Ev} (h:RPE n l):l.map (KY s')=l.map (KY s):=List.map_congr_left fun v hv=>by
 unfold KY;rw [iV e (h v hv).1,iV e (h v hv).2.1,nU e (h v hv).2.2]
theorem Ie (s:Int→Int) (l:List (List aj)) (i:Int):((l.map (aQ s)).getD (i).toNat default)=aQ s ((l).getD (i).toNat default):=by
 rw [List.getD_eq_getElem?_getD,List.getD_eq_getElem?_getD,List.getElem?_map]
 cases l[i.toNat]? with
 | none=>exact(jV s).symm
 | some p=>rfl
theorem RPs.at {n:Int} {l:List (List aj)} (h:RPs n l) (i:Int):RP n ((l).getD (i).toNat default):=Bb.2 (AY (fun p hp=>Bb.1 (h p hp)) i)
theorem ac6 {op n:Int} {x y:List aj} (hop:1≤op∧op≤5) (hx:RP n x) (hy:RP n y):gU (atD op x y) n:=by
 have hx:=Bb.1 hx
 have hy:=Bb.1 hy
 unfold atD
 split
 ·unfold gU;rw [if_pos rfl];exact⟨hop,hy.1,hx.1,hy.2,hx.2⟩
 ·unfold gU;rw [if_pos rfl];exact⟨hop,hx.1,hy.1,hx.2,hy.2⟩
theorem ai0 {t:List Atom} {op:Int} {x y:List aj} (h:tOk t op x y=true) (c:¬(fP op x y).2=true):0≤(bf t (atD op x y)).2:=by
 unfold tOk at h
 unfold atD
 by_cases c2:op≠2∧0<dP x y
 ·rw [if_pos c2,Bool.or_eq_true,Bool.not_eq_true',decide_eq_false_iff_not]at h;rw [if_pos c2];have:=h.resolve_left c;omega
 ·rw [if_neg c2,Bool.or_eq_true,Bool.not_eq_true',decide_eq_false_iff_not]at h;rw [if_neg c2];have:=h.resolve_left c;omega
structure St1 (s s' t':Int→Int) (u u' T:List Atom) (v V:List aj):Prop where
 tr:TR s' t' u' T
 ag:∀j:Int,0≤j→j<u.length→s' j=s j
 eq:V=aQ s' v
 rp:RP u'.length v
theorem TR.n200 {s t:Int→Int} {u T:List Atom} (h:TR s t u T):(u.length:Int)≤200:=by have:=(jI.1 h.tok).2;omega
theorem TR.ai1 {s t:Int→Int} {u T:List Atom} (h:TR s t u T) (hT:aG T) {a A:Atom} (ha:gU a u.length) (oa:Pg a) (hl:u.length<200) (k0:0≤(bf T A).2) (hc:(bf T A).1=T) (e:A=zL s a):
  ∃s' t':Int→Int,St1 s s' t' u (bf u a).1 T (dz (bf u a).2) (dz (bf T A).2)∧0≤(bf u a).2:=by
 obtain⟨k1,k2⟩:=rQ k0
 rw [hc]at k1 k2
 obtain⟨s',t',P⟩:=h.put hT ha oa hl k0 k1 (by rw [k2,e])
 exact⟨s',t',⟨P.tr,P.ag,by rw [aaG P.tr.r P.tr.n200 P.r0 P.r1,P.sr],RP.atom P.r0 P.r1⟩,P.r0⟩
theorem TR.do1 {s t:Int→Int} {u T:List Atom} (h:TR s t u T) (hT:aG T) {op:Int} {x y:List aj} (hop:1≤op∧op≤5) (hx:RP u.length x) (hy:RP u.length y) (hl:u.length<200) (ok:tOk T op (aQ s x) (aQ s y)=true) (hc:(tDo T op (aQ s x) (aQ s y)).1=T):
  ∃s' t':Int→Int,St1 s s' t' u (tDo u op x y).1 T (tDo u op x y).2 (tDo T op (aQ s x) (aQ s y)).2:=by
 have e:=WU h.r h.n200 hx hy op
 by_cases c:(fP op x y).2=true
 ·have e1:tDo u op x y=(u,(fP op x y).1):=by rw [KW,if_pos c]
  have e2:tDo T op (aQ s x) (aQ s y)=(T,aQ s (fP op x y).1):=by rw [KW,e,if_pos c]
  rw [e1,e2]
  exact⟨s,t,h,fun _ _ _=>rfl,rfl,hx.simp hy op⟩
 ·have k0:=ai0 ok (by rw [e];exact c)
  have e2:tDo T op (aQ s x) (aQ s y)=((bf T (atD op (aQ s x) (aQ s y))).1,dz (bf T (atD op (aQ s x) (aQ s y))).2):=by rw [KW,e,if_neg c,if_neg (by omega)]
  rw [e2]at hc ⊢
  obtain⟨s',t',P,r0⟩:=h.ai1 hT (ac6 hop hx hy) (ac4 op x y) hl k0 hc (ac5 h.r hx hy op).symm
  have e1:tDo u op x y=((bf u (atD op x y)).1,dz (bf u (atD op x y)).2):=by rw [KW,if_neg c,if_neg (by omega)]
  rw [e1]
  exact⟨s',t',P⟩
theorem Ig (s:Int→Int) {a:Atom} (h:a.kind≠4) (hx:a.x=[]) (hy:a.y=[]):zL s a=a:=by
 unfold zL;rw [if_neg (fun g=>h g.1),hx,hy,jV];cases a;dsimp only at*;rw [hx,hy]
structure LS (s t:Int→Int) (a A:SS):Prop where
 tr:TR s t a.t A.t
 regs:A.regs=a.regs.map (aQ s)
 rr:RPs a.t.length a.regs
 vals:A.vals=a.vals.map (aQ s)
 rv:RPs a.t.length a.vals
 ld:A.ld=a.ld
 inn:A.inn=a.inn
 evs:A.evs=a.evs.map (KY s)
 re:RPE a.t.length a.evs
theorem LS.x {s t:Int→Int} {a A:SS} (h:LS s t a A) (o:IOp):xOf A o=aQ s (xOf a o)∧RP a.t.length (xOf a o):=by
 unfold xOf;split
 ·rw [h.vals,Ie];exact⟨rfl,h.rv.at _⟩
 ·exact⟨(jV s).symm,RP.nil _⟩
theorem LS.y {s t:Int→Int} {a A:SS} (h:LS s t a A) (o:IOp):yOf A o=aQ s (yOf a o)∧RP a.t.length (yOf a o):=by
 unfold yOf;split
 ·rw [h.vals,Ie];exact⟨rfl,h.rv.at _⟩
 ·exact⟨(jV s).symm,RP.nil _⟩
theorem LS.val {s t:Int→Int} {a A:SS} (h:LS s t a A) (hT:aG A.t) {n:Int} {i:Nat} (si:SI n i a) (hn:n+i<200) (hi:i<200) {o:IOp} (hk:o.kind=3→1≤o.k∧o.k≤5) (sA:SOK A o) (hc:nT A o=A.t):
  ∃s' t':Int→Int,St1 s s' t' a.t (nT a o) A.t (nV a o) (nV A o):=by
 have hl:=si.tl
 have hl:a.t.length<200:=by omega
 have ea:aOf A o=aOf a o:=by unfold aOf;rw [h.ld,h.inn]
 have id:∀v V,V=aQ s v→RP a.t.length v→nT a o=a.t→nV a o=v→nV A o=V→∃s' t':Int→Int,St1 s s' t' a.t (nT a o) A.t (nV a o) (nV A o):=fun v V e r e1 e2 e3=>by
  rw [e1,e2,e3];exact⟨s,t,h.tr,fun _ _ _=>rfl,e,r⟩
 by_cases c3:o.kind=3
 ·have e1:∀w:SS,nT w o=(tDo w.t o.k (xOf w o) (yOf w o)).1:=fun w=>by unfold nT;rw [if_pos c3]
  have e2:∀w:SS,nV w o=(tDo w.t o.k (xOf w o) (yOf w o)).2:=fun w=>by unfold nV;rw [if_neg (by omega),if_neg (by omega),if_pos c3]
  have ok:=(sA.d c3).ok
  rw [e1]at hc
  rw [(h.x o).1,(h.y o).1]at ok hc
  rw [e1,e2,e2,(h.x o).1,(h.y o).1]
  exact h.tr.do1 hT (hk c3) (h.x o).2 (h.y o).2 hl ok hc
 ·by_cases c4:o.kind=4∨o.kind=6
  ·have e1:∀w:SS,nT w o=(bf w.t (aOf w o)).1:=fun w=>by unfold nT;rw [if_neg c3,if_pos c4]
   have e2:∀w:SS,nV w o=dz (bf w.t (aOf w o)).2:=fun w=>by unfold nV;rw [if_neg (by omega),if_neg (by omega),if_neg c3,if_pos c4]
   have k0:=sA.p c4
   rw [e1]at hc
   have f1:(aOf a o).kind≠4∧(aOf a o).x=[]∧(aOf a o).y=[]:=by unfold aOf;split<;>exact⟨by dsimp only;decide,rfl,rfl⟩
   obtain⟨s',t',P,_⟩:=h.tr.ai1 hT (Vk si hi o _) (fun g=>absurd g f1.1) hl k0 hc (by rw [ea,Ig s f1.1 f1.2.1 f1.2.2])
   rw [e1,e2,e2]
   exact⟨s',t',P⟩
  ·have eT:nT a o=a.t:=by unfold nT;rw [if_neg c3,if_neg c4]
   by_cases c1:o.kind=1
   ·exact id _ _ (wH o.k).symm (RP.const _ _) eT (by unfold nV;rw [if_pos c1]) (by unfold nV;rw [if_pos c1])
   ·by_cases c2:o.kind=2
    ·exact id _ _ rfl (h.rr.at o.k) eT (by unfold nV;rw [if_neg c1,if_pos c2]) (by unfold nV;rw [if_neg c1,if_pos c2,h.regs,Ie])
    ·exact id _ _ (jV s).symm (RP.nil _) eT (by unfold nV;rw [if_neg c1,if_neg c2,if_neg c3,if_neg c4]) (by unfold nV;rw [if_neg c1,if_neg c2,if_neg c3,if_neg c4])
theorem LS.step {s t:Int→Int} {a A:SS} (h:LS s t a A) (hT:aG A.t) {n:Int} {i:Nat} (si:SI n i a) (hn:n+i<200) (hi:i<200) {o:IOp} (hk:o.kind=3→1≤o.k∧o.k≤5) (sA:SOK A o) (hc:(stp A o).t=A.t):
  ∃s' t':Int→Int,LS s' t' (stp a o) (stp A o)∧∀j:Int,0≤j→j<a.t.length→s' j=s j:=by
 have hc:nT A o=A.t:=hc
 obtain⟨s',t',P⟩:=h.val hT si hn hi hk sA hc
 have le:(a.t.length:Int)≤(nT a o).length:=by have:=je (yH si hk hn hi).2.pre;exact Int.ofNat_le.2 this
 have ag:=P.ag
 obtain⟨x1,x2⟩:=h.x o
 obtain⟨y1,y2⟩:=h.y o
 have x1':xOf A o=aQ s' (xOf a o):=by rw [x1,iV ag x2]
 have y1':yOf A o=aQ s' (yOf a o):=by rw [y1,iV ag y2]
 have r1':A.regs=a.regs.map (aQ s'):=by rw [h.regs,nU ag h.rr]
 refine⟨s',t',⟨?_,?_,?_,?_,?_,?_,?_,?_,?_⟩,ag⟩
 ·show TR s' t' (nT a o) (nT A o);rw [hc];exact P.tr
 ·show nR A o=(nR a o).map (aQ s')
  unfold nR;split
  ·rw [List.map_set,←r1',x1']
  ·exact r1'
 ·show RPs _ (nR a o)
  unfold nR;split
  ·intro p hp
   rcases List.mem_or_eq_of_mem_set hp with hp | rfl
   ·exact(h.rr p hp).le le
   ·exact x2.le le
  ·exact h.rr.le le
 ·show A.vals++ [nV A o]=(a.vals++ [nV a o]).map (aQ s')
  rw [List.map_append,h.vals,nU ag h.rv,P.eq];rfl
 ·show RPs _ (a.vals++ [nV a o])
  intro p hp
  rw [List.mem_append,List.mem_singleton]at hp
  rcases hp with hp | rfl
  ·exact(h.rv p hp).le le
  ·exact P.rp
 ·show(if o.kind=4 then A.ld+1 else A.ld)=if o.kind=4 then a.ld+1 else a.ld;rw [h.ld]
 ·show(if o.kind=6 then A.inn+1 else A.inn)=if o.kind=6 then a.inn+1 else a.inn;rw [h.inn]
 ·show nE A o=(nE a o).map (KY s')
  unfold nE
  have e0:A.evs=a.evs.map (KY s'):=by rw [h.evs,Ce ag h.re]
  split
  ·rw [List.map_append,e0,x1',y1',r1']
   congr 1
   show [_]=[KY s' _]
   unfold KY
   dsimp only
   split<;>rfl
  ·exact e0
 ·show RPE _ (nE a o)
  unfold nE;split
  ·intro e he
   rw [List.mem_append,List.mem_singleton]at he
   rcases he with he | rfl
   ·exact h.re.le le e he
   ·refine⟨x2.le le,y2.le le,?_⟩
    dsimp only
    split
    ·exact h.rr.le le
    ·exact fun p hp=>absurd hp (by simp)
  ·exact h.re.le le
theorem aaJ {α:Type} {a b c:List α} (h:a<+:b) (g:b<+:c) (e:c=a):b=a:=by
 subst e;exact g.eq_of_length (Nat.le_antisymm (je g) (je h))
theorem LS.run {n N:Int}:∀(ops:List IOp) (i:Nat) (s t:Int→Int) (a A:SS),LS s t a A→SI n i a→SI N i A→(∀o∈ops,o.kind=3→1≤o.k∧o.k≤5)→n+i+ops.length≤200→N+i+ops.length≤200→i+ops.length≤200→(ops.foldl stp A).t=A.t→
  ∃s' t':Int→Int,LS s' t' (ops.foldl stp a) (ops.foldl stp A)∧∀j:Int,0≤j→j<a.t.length→s' j=s j
 | [],_,s,t,_,_,h,_,_,_,_,_,_,_=>⟨s,t,h,fun _ _ _=>rfl⟩
 | o::r,i,s,t,a,A,h,si,SI,hk,h1,h2,h3,hc=>by
  rw [List.length_cons]at h1 h2 h3
  have ko:=hk o List.mem_cons_self
  obtain⟨a1,a2⟩:=yH si ko (by omega) (by omega)
  obtain⟨A1,A2⟩:=yH SI ko (by omega) (by omega)
  have kr:∀o∈r,o.kind=3→1≤o.k∧o.k≤5:=fun o ho=>hk o (List.mem_cons_of_mem _ ho)
  rw [List.foldl_cons]at hc
  obtain⟨_,B2⟩:=yI r (i+1) (stp A o) A1 kr (by omega) (by omega)
  have e1:(stp A o).t=A.t:=aaJ A2.pre B2 hc
  obtain⟨s1,t1,g1,g2⟩:=h.step SI.tok si (by omega) (by omega) ko A2 e1
  obtain⟨s2,t2,g3,g4⟩:=LS.run r (i+1) s1 t1 _ _ g1 a1 A1 kr (by omega) (by omega) (by omega) (by rw [hc,e1])
  rw [List.foldl_cons,List.foldl_cons]
  exact⟨s2,t2,g3,fun j j0 j1=>by rw [g4 j j0 (by have:=je a2.pre;omega),g2 j j0 j1]⟩
theorem Te {s t:Int→Int} {u T:List Atom} (h:TR s t u T) (hT:aG T) (hTl:T.length≤196) (hul:u.length≤196) (hTn:∀n:Nat,n≤4→(rN T n).1=T):∀n:Nat,n≤4→
  ∃s' t':Int→Int,TR s' t' (rN u n).1 T∧(∀j:Int,0≤j→j<u.length→s' j=s j)∧(rN T n).2=(rN u n).2.map (aQ s')∧RPs (rN u n).1.length (rN u n).2
 | 0,_=>⟨s,t,h,fun _ _ _=>rfl,rfl,fun p hp=>absurd hp (by simp [rN])⟩
 | n+1,hn=>by
  obtain⟨s1,t1,g1,g2,g3,g4⟩:=Te h hT hTl hul hTn n (by omega)
  have ok:=BZ h.tok hul n (by omega)
  have l:=ok.tl
  have pl:=je ok.pre
  have k0:=H6 hT hTl (n:=n) (by omega)
  have hc:(bf (rN T n).1 ⟨1,n,[],[]⟩).1=T:=hTn (n+1) hn
  rw [hTn n (by omega)]at k0 hc
  obtain⟨s2,t2,P,_⟩:=g1.ai1 hT (a:=⟨1,n,[],[]⟩) (by unfold gU;rw [if_neg (by simp)];exact⟨⟨rfl,rfl⟩,Or.inl ⟨rfl,by dsimp only;omega,by dsimp only;omega⟩⟩) (fun g=>absurd g (by dsimp only;decide)) (by omega) k0 hc (Ig s1 (a:=⟨1,n,[],[]⟩) (by dsimp only;decide) rfl rfl).symm
  have le:(((rN u n).1.length:Nat):Int)≤(rN u (n+1)).1.length:=Int.ofNat_le.2 (je (nP (rN u n).1 ⟨1,n,[],[]⟩))
  refine⟨s2,t2,P.tr,fun j j0 j1=>by rw [P.ag j j0 (by omega),g2 j j0 j1],?_,?_⟩
  ·show(rN T n).2++ [dz (bf (rN T n).1 ⟨1,n,[],[]⟩).2]=((rN u n).2++ [dz (bf (rN u n).1 ⟨1,n,[],[]⟩).2]).map (aQ s2)
   rw [hTn n (by omega),List.map_append,nU P.ag g4,g3,P.eq];rfl
  ·show RPs _ ((rN u n).2++ [dz (bf (rN u n).1 ⟨1,n,[],[]⟩).2])
   intro p hp
   rw [List.mem_append,List.mem_singleton]at hp
   rcases hp with hp | rfl
   ·exact(g4 p hp).le le
   ·exact P.rp
theorem Pj {s t:Int→Int} {u T:List Atom} (h:TR s t u T) (hT:aG T) (hTl:T.length≤148) (hul:u.length≤100) (hTn:∀n:Nat,n≤4→(rN T n).1=T) {b:Blk} (hb:dB b) (hc:(cB T b).t=T):
  ∃s' t':Int→Int,LS s' t' (cB u b) (cB T b)∧∀j:Int,0≤j→j<u.length→s' j=s j:=by
 obtain⟨s1,t1,g1,g2,g3,g4⟩:=Te h hT (by omega) (by omega) hTn 4 (by omega)
 have sz:=hb.sz
 have eT:(s0 T).t=T:=hTn 4 (by omega)
 have L:LS s1 t1 (s0 u) (s0 T):=⟨by rw [eT];exact g1,g3,g4,rfl,fun p hp=>absurd hp (by simp [s0]),rfl,rfl,rfl,fun p hp=>absurd hp (by simp [s0])⟩
 obtain⟨s2,t2,k1,k2⟩:=LS.run b.ops 0 s1 t1 _ _ L (zI h.tok (by omega)) (zI hT (by omega)) hb.k3 (by omega) (by omega) (by omega) (by rw [eT];exact hc)
 exact⟨s2,t2,k1,fun j j0 j1=>by rw [k2 j j0 (by have:=je (BZ h.tok (show u.length≤196 by omega) 4 (by omega)).pre;show j< ((rN u 4).1.length:Int);omega),g2 j j0 j1]⟩
theorem yK {α β:Type} {f:α→β}:∀ {l l':List α},(∀a∈l,∀b∈l',f a=f b→a=b)→l.map f=l'.map f→l=l'
 | [],[],_,_=>rfl
 | [],_::_,_,e=>by cases e
 | _::_,[],_,e=>by cases e
 | a::l,b::l',h,e=>by
  rw [List.map_cons,List.map_cons]at e
  injection e with e1 e2
  rw [h a List.mem_cons_self b List.mem_cons_self e1,yK (fun a ha b hb=>h a (List.mem_cons_of_mem _ ha) b (List.mem_cons_of_mem _ hb)) e2]
theorem Pm {s t:Int→Int} {n:Int} (h:Ren s t n) {l l':List (List aj)} (hl:RPs n l) (hl':RPs n l') (e:l.map (aQ s)=l'.map (aQ s)):l=l':=yK (fun a ha b hb e=>jU h (hl a ha) (hl' b hb) e) e
structure YOK (n:Int) (y:Sym):Prop where
 e:RPE n y.events
 r:RPs n y.regs
 x:RP n y.x
 y:RP n y.y
noncomputable def zN (s:Int→Int) (y:Sym):Sym:=⟨y.events.map (KY s),y.regs.map (aQ s),y.fin,aQ s y.x,aQ s y.y,y.k⟩
theorem zO {s t:Int→Int} {n:Int} (h:Ren s t n) {y z:Sym} (hy:YOK n y) (hz:YOK n z) (e:zN s y=zN s z):y=z:=by
 injection e with e1 e2 e3 e4 e5 e6
 have e1:=yK (fun a ha b hb e=>by
  injection e with f1 f2 f3 f4 f5
  have f3:=jU h (hy.e a ha).1 (hz.e b hb).1 f3
  have f4:=jU h (hy.e a ha).2.1 (hz.e b hb).2.1 f4
  have f5:=Pm h (hy.e a ha).2.2 (hz.e b hb).2.2 f5
  exact Ev.ext f1 f2 f3 f4 f5) e1
 exact Sym.ext e1 (Pm h hy.r hz.r e2) e3 (jU h hy.x hz.x e4) (jU h hy.y hz.y e5) e6
def swY (y:Sym):Sym:=⟨y.events,y.regs,y.fin,y.y,y.x,y.k⟩
theorem Ih {s t:Int→Int} {n:Int} (h:Ren s t n) {y:Sym} (hy:YOK n y) (b:Int):(symEnd (zN s y) b=zN s (symEnd y b)∨(symEnd y b).fin=3∧symEnd (zN s y) b=zN s (swY (symEnd y b)))∧YOK n (symEnd y b)∧((symEnd y b).fin=3→dP (symEnd y b).x (symEnd y b).y≤0):=by
 obtain⟨ev,rg,fin,x,z,k⟩:=y
 have hx:RP n x:=hy.x
 have hz:RP n z:=hy.y
 have e1:=zK h hx
 have e2:=zK h hz
 have e3:aQ s x=aQ s z↔x=z:=⟨jU h hx hz,congrArg _⟩
 have N:=RP.nil n
 have f1:=mI z x
 have z1:=Ib h hx hz
 have f2:=mI (aQ s z) (aQ s x)
 unfold symEnd zN
 dsimp only
 rw [bO ⟨hx.ok h,hz.ok h⟩,bO ⟨hx.1,hz.1⟩,e1,e2]
 simp only [e3]
 rw [if_neg (show¬(true=false) by decide),if_neg (show¬(true=false) by decide)]
 by_cases c1:fin=2∧(dL x).2=true
 ·rw [if_pos c1,if_pos c1]
  exact⟨Or.inl (by rw [jV]),⟨hy.e,hy.r,N,N⟩,fun g=>absurd g (by dsimp only;decide)⟩
 ·rw [if_neg c1,if_neg c1]
  by_cases c2:fin≠3∧fin≠4
  ·rw [if_pos c2,if_pos c2]
   exact⟨Or.inl rfl,hy,fun g=>absurd g c2.1⟩
  ·rw [if_neg c2,if_neg c2]
   by_cases c3:x=z∨(dL x).2=true∧(dL z).2=true
   ·rw [if_pos c3,if_pos c3]
    exact⟨Or.inl (by rw [jV]),⟨hy.e,hy.r,N,N⟩,fun g=>absurd g (by dsimp only;decide)⟩
   ·rw [if_neg c3,if_neg c3]
    by_cases c4:fin=3∧0<dP x z
    ·rw [if_pos c4]
     refine⟨?_,⟨hy.e,hy.r,hz,hx⟩,fun _=>by dsimp only;omega⟩
     by_cases c5:fin=3∧0<dP (aQ s x) (aQ s z)
     ·rw [if_pos c5];exact Or.inl rfl
     ·rw [if_neg c5];exact Or.inr ⟨c4.1,rfl⟩
    ·rw [if_neg c4]
     refine⟨?_,hy,fun g=>by have:¬0<dP x z:=fun d=>c4 ⟨g,d⟩;dsimp only;omega⟩
     by_cases c5:fin=3∧0<dP (aQ s x) (aQ s z)
     ·rw [if_pos c5];exact Or.inr ⟨c5.1,rfl⟩
     ·rw [if_neg c5];exact Or.inl rfl
theorem Tf {s t:Int→Int} {n:Int} (h:Ren s t n) {y z:Sym} (hy:YOK n y) (hz:YOK n z) {b c:Int} (e:symEnd (zN s y) b=symEnd (zN s z) c):symEnd y b=symEnd z c:=by
 obtain⟨d1,o1,p1⟩:=Ih h hy b
 obtain⟨d2,o2,p2⟩:=Ih h hz c
 generalize symEnd y b=F at*
 generalize symEnd z c=G at*
 have key:∀ {F G:Sym},F=swY G→F.fin=3→(F.fin=3→dP F.x F.y≤0)→(G.fin=3→dP G.x G.y≤0)→F=G:=fun {F G} e f p q=>by
  subst e
  have p:dP G.y G.x≤0:=p f
  have q:=q f
  have fl:=mI G.y G.x
  have:G.x=G.y:=gT.1 (by omega)
  unfold swY
  exact Sym.ext rfl rfl rfl this.symm this rfl
 rcases d1 with d1 | ⟨f1,d1⟩<;>rcases d2 with d2 | ⟨f2,d2⟩<;>rw [d1,d2]at e
 ·exact zO h o1 o2 e
 ·have g:=zO h o1 (z:=swY G) ⟨o2.e,o2.r,o2.y,o2.x⟩ e
  exact key g (by rw [g];exact f2) p1 p2
 ·have g:=zO h (y:=swY F) ⟨o1.e,o1.r,o1.y,o1.x⟩ o2 e
  exact(key g.symm (by rw [←g];exact f1) p2 p1).symm
 ·have g:=zO h (y:=swY F) (z:=swY G) ⟨o1.e,o1.r,o1.y,o1.x⟩ ⟨o2.e,o2.r,o2.y,o2.x⟩ e
  injection g with g1 g2 g3 g4 g5 g6
  exact Sym.ext g1 g2 g3 g5 g4 g6
theorem Pn {s t:Int→Int} {a A:SS} (h:LS s t a A) (b:Blk):jq b A=zN s (jq b a)∧YOK a.t.length (jq b a):=by
 unfold jq
 constructor
 ·unfold zN
  dsimp only
  rw [h.evs,h.regs,h.vals,Ie,Ie]
  congr 1
  ·split
   ·exact(jV s).symm
   ·rfl
  ·split
   ·rfl
   ·exact(jV s).symm
 ·refine⟨h.re,h.rr,?_,?_⟩<;>dsimp only<;>split
  ·exact RP.nil _
  ·exact h.rv.at _
  ·exact h.rv.at _
  ·exact RP.nil _
theorem YOK.le {n m:Int} {y:Sym} (h:YOK n y) (hn:n≤m):YOK m y:=⟨h.e.le hn,h.r.le hn,h.x.le hn,h.y.le hn⟩
theorem Tg {s s':Int→Int} {n:Int} (e:∀j,0≤j→j<n→s' j=s j) {y:Sym} (h:YOK n y):zN s' y=zN s y:=by
 unfold zN;rw [Ce e h.e,nU e h.r,iV e h.x,iV e h.y]
theorem aaK (t:List Atom) (n:Nat):∀m:Nat,(rN t n).1<+:(rN t (n+m)).1
 | 0=>List.prefix_refl _
 | m+1=>(aaK t n m).trans (nP _ _)
theorem TR.nil (T:List Atom):TR id id [] T:=by
 refine⟨⟨fun k h1 h2=> ?_,fun k h1 h2=> ?_⟩,mJ,fun k h1 h2=> ?_,fun k h1 h2=> ?_⟩<;>exact absurd h2 (by simp;omega)
theorem aaL {b c:Blk} (hb:dB b) (hc:dB c) (e:(bD t4 b).2=(bD (bD t4 b).1 c).2):(bD t4 c).2=(bD (bD t4 c).1 b).2:=by
 have h4:=Vp
 have szb:=hb.sz
 have szc:=hc.sz
 obtain⟨b1,b2⟩:=rR h4.1 (by omega) hb
 have bl:=b1.tl
 have h5:=h4.2
 obtain⟨c1,c2⟩:=rR b1.tok (by omega) hc
 have cl:=c1.tl
 rw [jr h4.1 (by omega) hb]at e
 dsimp only at e
 rw [jr b1.tok (by omega) hc]at e
 dsimp only at e
 have Eb:=KM h4.1 (by omega) hb c1.tok c2
 have Ec:=KM b1.tok (by omega) hc c1.tok (List.prefix_refl _)
 have T4:t4<+:(cB (cB t4 b).t c).t:=b2.trans c2
 rw [←Vm b _ (cB (cB t4 b).t c).t,←Eb,←Vm c _ (cB (cB t4 b).t c).t,←Ec]at e
 have hTb:(cB (cB (cB t4 b).t c).t b).t=(cB (cB t4 b).t c).t:=by rw [Eb];rfl
 have hTc:(cB (cB (cB t4 b).t c).t c).t=(cB (cB t4 b).t c).t:=by rw [Ec];rfl
 have hT:=c1.tok
 have hTn:∀n:Nat,n≤4→(rN (cB (cB t4 b).t c).t n).1=(cB (cB t4 b).t c).t:=fun n hn=>by
  have p:(rN [] n).1<+:t4:=by
   have:=aaK [] n (4-n)
   rw [show n+(4-n)=4 by omega]at this;exact this
  rw [aan mJ (by simp) hT n hn (p.trans T4)]
 have tl:(cB (cB t4 b).t c).t.length≤148:=by omega
 generalize (cB (cB t4 b).t c).t=T at*
 obtain⟨s1,t1,g1,_⟩:=Te (TR.nil T) hT (by omega) (by simp) hTn 4 (by omega)
 have g1:TR s1 t1 t4 T:=g1
 obtain⟨s2,t2,g2,_⟩:=Pj g1 hT tl (by omega) hTn hc hTc
 obtain⟨d1,d2⟩:=rR h4.1 (by omega) hc
 have dl:=d1.tl
 have g2t:TR s2 t2 (cB t4 c).t T:=by have:=g2.tr;rw [hTc]at this;exact this
 obtain⟨s3,t3,g3,ag⟩:=Pj g2t hT tl (by omega) hTn hb hTb
 obtain⟨f1,f2⟩:=rR d1.tok (by omega) hb
 obtain⟨Y1,Y2⟩:=Pn g2 c
 obtain⟨Z1,Z2⟩:=Pn g3 b
 rw [Y1,Z1,←Tg ag Y2]at e
 have:=Tf g3.tr.r Z2 (Y2.le (by have:=je f2;omega)) e
 rw [jr h4.1 (by omega) hc]
 dsimp only
 rw [jr d1.tok (by omega) hb]
 exact this.symm
theorem aaM (b c:Blk):chk b c=chk c b:=by
 have key:∀ {b c:Blk},chk b c=true→chk c b=true:=fun {b c} h=>by
  obtain⟨h1,h2,h3,h4,h5⟩:=bR.1 h
  refine bO ⟨h2,h1,h3.symm,h4.symm,?_⟩
  rcases h5 with h5 | h5
  ·exact Or.inl h5.symm
  ·exact Or.inr (aaL h1 h2 h5)
 exact Bool.eq_iff_iff.2 ⟨key,key⟩
end Go.TX.F
namespace Go.TX.F
open Go Go.AE Go.TX
theorem aaN {b c:Blk} (h:chk b c=true):chk b (bC c)=true:=by
 obtain⟨h1,h2,h3,h4,h5⟩:=bR.1 h
 obtain⟨g1,_,g3⟩:=u7 h2
 rcases h5 with h5 | h5
 ·rw [h5];exact g1.chk
 ·obtain⟨k1,k2,_⟩:=Vq h1
  exact bO ⟨h1,g1.oc,h3.trans g1.pc,h4.trans g1.len,Or.inr (by rw [g3 _ k1 k2];exact h5)⟩
theorem apk {p1:Blk×Blk×Unit→Bool} {f1:Blk×Blk×Unit→Bool×Unit} (hp1:∀b c,b.ops.length<1000000000→c.ops.length<1000000000→p1 (b,c,())=true) (hf1:∀b c,b.ops.length<1000000000→c.ops.length<1000000000→f1 (b,c,())=(chk b c,())) {p2:Blk×Unit→Bool} {f2:Blk×Unit→Blk×Unit} (hp2:∀b,b.ops.length<1000000→p2 (b,())=true) (hf2:∀b,b.ops.length<1000000→f2 (b,())=(bC b,())) {p3:Unit→Bool} {f3:Unit→Bool×Unit} (hp3:p3 ()=true) (hf3:f3 ()=(true,())) {p4:List Int×Unit→Bool} {f4:List Int×Unit→Blk×Blk×Unit} (hp4:∀c,By c→c.length<1000000000→p4 (c,())=true) (hf4:∀c,By c→c.length<1000000000→(f4 (c,())).1.ops.length<100000∧(f4 (c,())).2.1.ops.length<100000) (c:List Int) (hc:By c):ZO (std 0) p1 f1 p2 f2 p3 f3 p4 f4 (c,()) (fun y=>y=(true,())):=by
 dsimp only [ZO,Alg.cl,Alg.cg,Alg.rb,Alg.bd,Alg.l1,Tup.q,Tup.o]
 simp (disch:=omega) only [RR]
 by_cases hl:1048576< (c.length:Int)
 ·simp (disch:=omega) only [RR,hl]
 ·obtain⟨D1,D2⟩:=hf4 c hc (by omega)
  have P:=hp4 c hc (by omega)
  generalize (f4 (c,())).1=b at D1 ⊢
  generalize (f4 (c,())).2.1=d at D2 ⊢
  have le:=nS d
  have mE:∀c:Blk,Co.mk .blk (c.pc,c.len,c.ops,c.fin,c.x,c.y,c.k,())=c:=fun _=>rfl
  have b1:d.ops.length<1000000:=by omega
  simp (disch:=omega) only [RR,hl,P,RB,mE,hp2 d b1,hf2 d b1,hp1 b d (by omega) (by omega),hf1 b d (by omega) (by omega),hp1 d (bC d) (by omega) (by omega),hf1 d (bC d) (by omega) (by omega),hp1 b (bC d) (by omega) (by omega),hf1 b (bC d) (by omega) (by omega),hp1 (bC d) b (by omega) (by omega),hf1 (bC d) b (by omega) (by omega),hp3,hf3,aaM (bC d) b]
  by_cases h:chk b d=true
  ·rw [aaN h];simp
  ·simp [h]
end Go.TX.F
namespace Go.TX
open Go Go.AE
theorem enters_of {P:Program} {f:FuncId} {fn:Func} {c:Code} (hf:P.funcs[f]? =some fn) (hname:(fn.name== "runtime.NumGoroutine")=false) (hb:fn.body=some c):Enters P f:=by
 intro args w
 have h1:fn.name≠ "runtime.NumGoroutine" :=by simpa using hname
 simp [callFunc,hf,h1,hb,mark]
def Vy (P:Program):Nat→List Field→Bool
 | _,[]=>true
 | k,f::fs=> !(f.name== "_")&&f.offset==k&& (match P.underlying f.type with | some (.int _)=>true | _=>false)&&Vy P (k+1) fs
theorem Vz {P:Program} (w:World) (d:Nat) (xs ys:List Int) (hl:xs.length=ys.length):∀(fs:List Field) (k:Nat),Vy P k fs=true→k+fs.length=xs.length→
  (Op.eqFields (d+1) (xs.map (Value.int .i64)).toArray (ys.map (Value.int .i64)).toArray fs).run P w= .ok (xs.drop k==ys.drop k) w
 | [],k,_,h2=>by
  rw [List.drop_eq_nil_of_le (show xs.length≤k by simp only [List.length_nil]at h2;omega),List.drop_eq_nil_of_le (show ys.length≤k by simp only [List.length_nil]at h2;omega)]
  simp [Op.eqFields]
 | f::fs,k,h1,h2=>by
  simp only [List.length_cons]at h2
  simp only [Vy,Bool.and_eq_true,Bool.not_eq_true',beq_eq_false_iff_ne,beq_iff_eq]at h1
  obtain⟨⟨⟨n1,n2⟩,n3⟩,n4⟩:=h1
  have hk:k<xs.length:=by omega
  have hk':k<ys.length:=by omega
  obtain⟨kd,hu⟩:∃kd,P.underlying f.type=some (.int kd):=by
   cases hu:P.underlying f.type with
   | none=>rw [hu]at n3;cases n3
   | some z=>cases z<;>(first | exact⟨_,rfl⟩ | (rw [hu]at n3;cases n3))
  have pk:P.plainKey f.type=true:=by unfold Program.plainKey;rw [hu]
  have p1:=run_part_plain w pk (xs:=(xs.map (Value.int .i64)).toArray) (off:=f.offset) (v:= .int .i64 xs[k]) (by rw [n2];simp [hk])
  have p2:=run_part_plain w pk (xs:=(ys.map (Value.int .i64)).toArray) (off:=f.offset) (v:= .int .i64 ys[k]) (by rw [n2];simp [hk'])
  have ih:=Vz w d xs ys hl fs (k+1) n4 (by omega)
  simp only [Op.eqFields,if_pos n1,Sem.run_bind,p1,p2,Result.andThen_ok,run_equalIn_int w d f.type .i64 kd _ _ hu]
  have e:(xs.drop k==ys.drop k)=((xs[k]==ys[k])&& (xs.drop (k+1)==ys.drop (k+1))):=by rw [List.drop_eq_getElem_cons hk,List.drop_eq_getElem_cons hk'];rfl
  rw [e]
  by_cases c:(xs[k]==ys[k])=true
  ·rw [c]
   simp only [Bool.not_true,Bool.false_eq_true,if_false,ih,Bool.true_and]
  ·have c2:(xs[k]==ys[k])=false:=by simpa using c
   rw [c2]
   simp only [Bool.not_false,if_true,Sem.run_pure,Bool.false_and]
theorem ai2 {P:Program} {t:TypeId} {n:Nat} (hu:P.underlying t=some (.struct (P.fieldsOf t))) (hs:P.stoodInHeld t=false) (hg:P.eqGuardType P.depth t=false) (hf:Vy P 0 (P.fieldsOf t).toList=true) (hn:(P.fieldsOf t).size=n) (xs ys:List Int) (hx:xs.length=n) (hy:ys.length=n) (w:World):
  (Op.equal t (.agg (xs.map (Value.int .i64)).toArray) (.agg (ys.map (Value.int .i64)).toArray)).run P w= .ok (xs==ys) w∧
  (eqGuard .eql t (.tmp 0) (.tmp 0) (.agg (xs.map (Value.int .i64)).toArray) (.agg (ys.map (Value.int .i64)).toArray)).run P w= .ok () w:=by
 refine⟨?_,run_eqGuard_agg w _ _ _ _ _ _ hg⟩
 show(Op.equalIn (9999+1) t _ _).run P w=_
 rw [run_equalIn_struct w 9999 t _ _ hu hs,Vz w 9998 xs ys (by omega) _ 0 hf (by rw [Array.length_toList];omega)]
 rfl
noncomputable def never (s:Sig):Ct aD s:={pre:=fun _=>false,fn:=fun _=>Classical.choice (uw _)}
theorem jW {E:Tab} {f:FuncId} {s:Sig} (h:Enters E.P f):dw E f (cO (never s)) where
 enters:=h
 calls:=by
  rintro args hh n K ⟨m,vs,h2,h3,h4,h5,cr,h6,h7,h8⟩
  exfalso
  unfold rC at h6
  split at h6
  ·split at h6
   ·split at h6
    ·split at h6
     ·cases h6
      have:=h7 false (List.mem_append_right _ (List.mem_singleton.2 rfl))
      cases this
     ·cases h6
    ·cases h6
   ·cases h6
  ·cases h6
abbrev ar5:Sig:={args:=[.c (.rows true .u8)],objs:=[],res:=[.c .bool],dS:=[]}
def entry (W:World):Ctx:={K:=fun _ b=>b<W.heap.size,μ:=fun _=>none,n:=0}
theorem Ti (W:World):bK (entry W) W []:=
 ⟨fun l o h=>(by cases h),fun l o l' o' b h=>(by cases h),fun f b ⟨l,o,h,_⟩=>(by cases h),fun f b h=>h,fun b h=>h⟩
theorem Po {W W':World} {c':Ctx} {h':Heap} (g:Grow (entry W) W [] c' W' h'):RowKit.Below W.heap.size W W':=
 ⟨g.os,g.tape,g.output,g.size,fun k hk=>g.kept k hk fun⟨l,o,h,_⟩=>by cases h⟩
theorem ac7 {c:Ctx} {w:World} {v:Value} {r:PV} {N:NM} {b:Bool} (h1:bJ c w v r) (h2:PVR N r (.c (.d true (.bool b)))):v= .bool b:=by
 cases h2 with
 | one h=>
  cases h with
  | c h=>
   cases h with
   | d h3 _=>
    subst h3
    cases h1 with
    | c _ _ h4=>cases h4 with
     | d _ _ _ h5=>cases h5;rfl
  | agg h=>cases h
theorem ar6 {E:Tab} {f:FuncId} {c:Ct aD ar5} (hc:dw E f (cO c)) {xs:List Int} {W:World} {v:Value} (hv:dQ (fun b=>b<W.heap.size) W v (.rows 1 (aL .u8 xs)))
  (hg:qU E (entry W) W) (hp:c.pre (xs,())=true):Go.Calls E.P f #[v] W fun e W'=>e= .returned (.bool (c.fn (xs,())).1)∧RowKit.Below W.heap.size W W':=by
 refine(hc.calls [.c (.d true (.rows 1 (aL .u8 xs)))] [] 0 (fun r _ _=>PVR (nmh []) r (.c (.d true (.bool (c.fn (xs,())).1)))) ?_ (entry W) W [v] rfl (.cons (.c _ _ (.d true _ _ hv)) .nil) (Ti W) hg).mono ?_
 ·refine⟨0,[.c (.d true (.rows .u8 xs))],[],.cons (.one (.c (.d rfl fun _=> .inl rfl))) .nil,⟨fun l o h=>(by cases h),fun _ _=>rfl⟩,rfl,_,rfl,?_,_,_,rfl,?_⟩
  ·intro b hb
   rcases List.mem_append.1 hb with h | h
   ·cases h
   ·rw [List.mem_singleton]at h;rw [h];exact hp
  ·intro r _ _ h _ _ _;exact h
 ·rintro e W' he
  cases e with
  | returned u=>
   obtain⟨c',r,h',j,g,_,_,h1,h2⟩:=he
   exact⟨by rw [ac7 h1 h2],Po g⟩
  | outgrown=>exact he.elim
  | panicked _=>exact he.elim
open Go.RowKit Go.ChangeShapes Go.WideShapes Go.ChangeAt in
theorem aaO {H:Type} {enc:TypeId×Value→H} {P:Program} {t e:TypeId} (ht:P.underlying t=some (.slice e)) (he:P.underlying e=some (.int .u8)) (hc:P.cellsOf e=1) {W:World} {base:Nat} {v:Value} {d:DataW H} {p:List MemPlace}
  (hval:Value.okWide P W .any base t v) (h:DataW.Trod enc P W 0 (fun _=>true) true t v d p) (hlt:∀x∈p,x.block<W.heap.size):
  ∃xs:List Int,dQ (fun b=>b<W.heap.size) W v (.rows 1 (aL .u8 xs))∧∀z∈xs,0≤z∧z≤255:=by
 obtain⟨a0,len,cap,rfl⟩:=okWide_slice ht hval
 obtain⟨fuel,hf⟩:=h
 rcases open_ints ht he hc hf with⟨hcs,hx⟩ | ⟨a,len',cap',zs,hcs,_,hl,hm,hz,hx,hcell,hwz⟩
 ·simp [Value.cells]at hcs
  obtain⟨rfl,rfl,rfl⟩:=hcs
  exact⟨[],.none _ _ _,fun _ h=>by cases h⟩
 ·simp [Value.cells]at hcs
  obtain⟨rfl,rfl,rfl⟩:=hcs
  simp only [Prod.mk.injEq]at hx
  obtain⟨rfl,rfl⟩:=hx
  simp only [if_true]at hz
  have rng:∀z∈zs,0≤z∧z≤255:=fun z hz=>by
   obtain⟨i,hi,rfl⟩:=List.getElem_of_mem hz
   have:=range_u8 hwz i
   rwa [List.getElem?_eq_getElem hi]at this
  refine⟨zs.take len,?_,fun z h=>rng z (List.mem_of_mem_take h)⟩
  by_cases h0:len=0
  ·subst h0;exact .none _ _ _
  ·obtain⟨b,off,spot⟩:=a
   have hspot:spot=none:=by simpa [Addr.add]using World.cell?_spot (hcell 0 (by omega))
   subst hspot
   have hbW:b<W.heap.size:=hlt (.cell b off) (MemPlace.mem_row.2 ⟨0,by omega,by simp⟩)
   have hlen:(aL .u8 (zs.take len)).length=len:=by simp only [aL,List.length_map,List.length_take];omega
   have hget:∀i,i<len→(aL .u8 (zs.take len)).getD i []=[.int .u8 (zs.getD i 0)]:=fun i hi=>by
    simp only [aL,List.getD,List.getElem?_map,List.getElem?_take_of_lt hi,List.getElem?_eq_getElem (show i<zs.length by omega)]
    rfl
   refine .rows b off cap 1 len _ (fun i j=> .int .u8 (zs.getD i 0)) hbW hlen.symm hl (fun i j hi hj=> ?_) (fun i hi=> ?_) (fun i j hi hj=> ?_)
   ·rw [hlen]at hi
    have:=hcell i (by omega)
    rw [add_plain]at this
    rw [show off+i*1+j=off+i by omega]
    exact this
   ·rw [hlen]at hi;rw [hget i hi];rfl
   ·rw [hlen]at hi
    have hj0:j=0:=by omega
    subst hj0
    unfold gd;rw [hget i hi];exact .int _ _
end Go.TX
namespace Go.TX.Seat
open Go Go.AE Go.TX Go.TX.F Go.Proofs
set_option maxRecDepth 100000
theorem ar7:∀t n,E.ieq t=some n→∀(xs ys:List Int),xs.length=n→ys.length=n→∀w,
  (Op.equal t (.agg (xs.map (Value.int .i64)).toArray) (.agg (ys.map (Value.int .i64)).toArray)).run E.P w= .ok (xs==ys) w∧
  (eqGuard .eql t (.tmp 0) (.tmp 0) (.agg (xs.map (Value.int .i64)).toArray) (.agg (ys.map (Value.int .i64)).toArray)).run E.P w= .ok () w:=by
 intro t n h
 obtain⟨c,hc,rfl⟩:∃c,ieq t=some c∧c.size=n:=by
  have h':(ieq t).map (fun c=>c.size)=some n:=h
  cases hi:ieq t with
  | none=>rw [hi]at h';cases h'
  | some c=>rw [hi]at h';cases h';exact⟨c,rfl,rfl⟩
 unfold ieq at hc
 split at hc
 all_goals first | (cases hc;exact ai2 (by kernel_rfl) (by kernel_rfl) (by kernel_rfl) (by kernel_rfl) (by kernel_rfl)) | cases hc
theorem hE:aG E:=⟨arS,ar7⟩
theorem ar8:∀t c,X.ieq t=some c→(c= .ins∧E.ieq t=some 4)∨(c= .iop∧E.ieq t=some 5):=by
 intro t c h
 have h:ieq t=some c:=h
 have e:E.ieq t=(ieq t).map fun c=>c.size:=rfl
 rw [e,h]
 unfold ieq at h
 split at h
 all_goals first | (cases h;first | exact Or.inl ⟨rfl,rfl⟩ | exact Or.inr ⟨rfl,rfl⟩) | cases h
theorem xok:XOK X E:=⟨rfl,fun g c h=>(by cases h),ar8⟩
theorem hm:E.P.follows .mixedOrders=true:=by kernel_rfl
theorem hlN:∀p∈([]:List (FuncId×Sigma (Ct aD))),dw E p.1 (cO p.2.2):=fun _ h=>by cases h
theorem hlC {f:FuncId} {s:Sig} {c:Ct aD s} {l:List (FuncId×Sigma (Ct aD))} (h:dw E f (cO c)) (r:∀p∈l,dw E p.1 (cO p.2.2)):∀p∈(f,⟨s,c⟩)::l,dw E p.1 (cO p.2.2):=fun p hp=>by
 rcases List.mem_cons.1 hp with rfl | hp
 ·exact h
 ·exact r p hp
@[reducible] def _root_.Go.TX.Fn.c {E : Tab} {f : FuncId} {s : Sig} {F : ig s.inp → (ig s.out → Prop) → Prop} {c : Ct aD s} (_ : Fn E f F c) : Ct aD s := c
theorem mk {lk:aH} {f:FuncId} {fn:Func} (hf:E.P.funcs[f]? =some fn) {l:List (FuncId×Sigma (Ct aD))} (hl:∀p∈l,dw E p.1 (cO p.2.2)) {ord:List (Nat×List fJ)} {s:Sig} {an:Ann}
 {F:ig s.inp→(ig s.out→Prop)→Prop} (h:Ru X E (std 0) ord an s fn l F) (hb:fn.body.isSome=true:=by rfl) (hn:(fn.name== "runtime.NumGoroutine")=false:=by kernel_rfl):Fn E f F (cn F):=aq7 hE xok hm hf hb (fun _=>enters_of hf hn) hl h
theorem aaP {E:Tab} {f:FuncId} {c:Ct aD {args:=[.c (.int .u64)],objs:=[],res:=[.c (.int .i64)],dS:=[]}} {g:Int→Int} (hent:Enters E.P f) (hg:(fun x:Int=>(c.fn (x,())).1)=g)
  (h:∀(x:Int) (w:World),c.pre (x,())=true→Go.Calls E.P f #[.int .u64 x] w fun e w'=>e= .returned (.int .i64 (g x))∧w'=w):dw E f (cO c) where
 enters:=hent
 calls:=by
  rintro args hh n K ⟨m,qs,hs,hargs,HR,hlen,cr,hcall,acr,v,kT,hvk,hK⟩ c1 w vs hcn qG Hh Gl
  have key:∀f0 (x:Int),qs=[.c (.d f0 (.int .u64 x))]→rC (std m) hs {args:=[.c (.int .u64)],objs:=[],res:=[.c (.int .i64)],dS:=[]} c qs=some {ck:=[c.pre (x,())],ts:=[.i],y:=c.fn (x,()),touched:=[],pure:=true,k:=fun y=>some (.c (.d true (.int .i64 y.1)),hs)}:=by
   intro f0 x e;subst e;rfl
  have hq:∃f0 x,qs=[.c (.d f0 (.int .u64 x))]:=by
   unfold rC at hcall
   cases qs with
   | nil=>simp [oC]at hcall
   | cons q r=>
    cases r with
    | cons q2 r2=>
     exfalso
     simp only [oC]at hcall
     cases hx:IC (std m) hs (.c (.int .u64)) q (es0 (std m) 0 [])with
     | none=>rw [hx]at hcall;simp at hcall
     | some s=>rw [hx]at hcall;simp [oC]at hcall
    | nil=>
     simp only [oC]at hcall
     cases q with
     | c y=>
      simp only [IC,extC]at hcall
      cases y with
      | d f0 y=>
       cases y with
       | int k x=>
        by_cases hk:IntKind.u64=k
        ·subst hk;exact⟨f0,x,rfl⟩
        ·simp [hk]at hcall
       | _=>simp at hcall
      | _=>simp at hcall
     | _=>simp [IC]at hcall
  obtain⟨f0,x,rfl⟩:=hq
  rw [key f0 x rfl]at hcall
  simp only [Option.some.injEq]at hcall
  subst hcall
  simp only [Option.some.injEq,Prod.mk.injEq]at hvk
  obtain⟨rfl,rfl⟩:=hvk
  have hpre:=acr _ (List.mem_singleton.2 rfl)
  have hv:vs=[.int .u64 x]:=by
   cases hargs with
   | cons h1 h2=>
    cases h2
    cases qG with
    | cons h3 h4=>
     cases h4
     cases h1 with
     | one h1=>
      cases h1 with
      | c h1=>
       cases h1 with
       | d h5 _=>
        subst h5
        cases h3 with
        | c _ _ h6=>cases h6 with
         | d _ _ _ h7=>cases h7;rfl
      | agg h1=>cases h1
  subst hv
  refine(h x w hpre).mono ?_
  rintro e w' ⟨rfl,rfl⟩
  refine⟨c1,.c (.d true (.int .i64 (g x))),hh,0,.refl _ _ _,Hh,hcn,.c _ _ (.d _ _ _ (.int _ _)),hK _ _ _ ?_ HR (.refl _ _ _) hlen⟩
  rw [←hg]
  exact .one (.c (.d rfl fun _=> .inl rfl))
end Go.TX.Seat
namespace Go.TX.F
open Go Go.AE Go.TX Go.TX.Seat Go.Proofs
set_option maxRecDepth 100000
def lU:=mk Tryz.func78 hlN (agF (std 0))
noncomputable def bF:=lU.c
def rV:=fun n b p hb h1 h2=>(lU.cs (aaf n b p hb h1 h2)).1
def rW:=fun n b p hb h1 h2=>(lU.cs (aaf n b p hb h1 h2)).2
def Tj:=mk Tryz.func91 (hlC lU.ok hlN) (agG (std 0) bF)
noncomputable def Gx:=Tj.c
def qM:=fun n b p hb h1 h2=>Tj.cs (aie rV rW n b p hb h1 h2)
def ai3:=fun n b p hb h1 h2=>(qM n b p hb h1 h2).1
def ai4:=fun n b p hb h1 h2=>(qM n b p hb h1 h2).2
def qd:=mk Tryz.func61 hlN (agH (std 0))
noncomputable def bV:=qd.c
def vk:=fun a b c=>(qd.cs (Z4 a b c)).1
def vo:=fun a b c=>(qd.cs (Z4 a b c)).2
def Bc:=mk Tryz.func115 hlN (agI (std 0))
noncomputable def jl:=Bc.c
def Tk:=fun a=>(Bc.cs (Z5 a)).1
def Tm:=fun a=>(Bc.cs (Z5 a)).2
def Tn:=mk Tryz.func156 (hlC qd.ok hlN) (agJ (std 0) bV)
noncomputable def F6:=Tn.c
def vw:=fun k=>Tn.cs (ain vk vo k)
def ai5:=fun k=>(vw k).1
def ai6:=fun k=>(vw k).2
def KZ:=mk Tryz.func116 (hlC Tn.ok hlN) (agK (std 0) F6)
noncomputable def pI:=KZ.c
def zP:=fun ops x n h1=>KZ.cs (aio ai5 ai6 ops x n h1)
def aaQ:=fun ops x n h1=>(zP ops x n h1).1
def aaR:=fun ops x n h1=>(zP ops x n h1).2
def Tp:=mk Tryz.func62 (hlC Bc.ok (hlC qd.ok (hlC KZ.ok hlN))) (agL (std 0) jl bV pI)
noncomputable def F8:=Tp.c
def Cg:=fun ops i len h0 h1 h3=>Tp.cs (aip Tk Tm vk vo aaQ aaR ops i len h0 h1 h3)
def ai7:=fun ops i len h0 h1 h3=>(Cg ops i len h0 h1 h3).1
def ai8:=fun ops i len h0 h1 h3=>(Cg ops i len h0 h1 h3).2
def Tq:=mk Tryz.func63 (hlC Bc.ok (hlC KZ.ok hlN)) (agM (std 0) jl pI)
noncomputable def F7:=Tq.c
def zQ:=fun b=>Tq.cs (aiq Tk Tm aaQ aaR b)
def ai9:=fun b=>(zQ b).1
def aja:=fun b=>(zQ b).2
def vB:=mk Tryz.func19 (hlC qd.ok (hlC Tq.ok (hlC Tp.ok hlN))) (agN (std 0) bV F7 F8)
noncomputable def dG:=vB.c
def Ch:=fun b h2=>vB.cs (air vk vo ai9 aja ai7 ai8 b h2)
def Bd:=fun b h2=>(Ch b h2).1
def Bf:=fun b h2=>(Ch b h2).2
def yL:=mk Tryz.func59 hlN (agO (std 0))
noncomputable def gP:=yL.c
def K4:=fun b hb=>(yL.cs (aav b hb)).1
def K6:=fun b hb=>(yL.cs (aav b hb)).2
def Ii:=mk Tryz.func60 (hlC qd.ok hlN) (agP (std 0) bV)
noncomputable def pJ:=Ii.c
def aaS:=fun o al hk hx hy=>(Ii.cs (aay vk vo o al hk hx hy)).1
def aaT:=fun o al hk hx hy=>(Ii.cs (aay vk vo o al hk hx hy)).2
def Ij:=mk Tryz.func18 (hlC vB.ok (hlC Ii.ok (hlC yL.ok hlN))) (agQ (std 0) dG pJ gP)
noncomputable def jm:=Ij.c
def vC:=fun b hb=>Ij.cs (aiQ Bd Bf aaS aaT K4 K6 b hb)
def Tt:=fun b hb=>(vC b hb).1
def Tv:=fun b hb=>(vC b hb).2
def K7:=mk Tryz.func130 (hlC Ii.ok hlN) (agR (std 0) pJ)
noncomputable def pK:=K7.c
def vD:=fun b kp ok hk=>K7.cs (aiM aaS aaT b kp ok hk)
def aaU:=fun b kp ok hk=>(vD b kp ok hk).1
def aaV:=fun b kp ok hk=>(vD b kp ok hk).2
def Tw:=mk Tryz.func131 (hlC vB.ok (hlC qd.ok hlN)) (agS (std 0) dG bV)
noncomputable def F9:=Tw.c
def vE:=fun b hb=>Tw.cs (aiL Bd Bf vk vo b hb)
def ajb:=fun b hb=>(vE b hb).1
def ajc:=fun b hb=>(vE b hb).2
def Tx:=mk Tryz.func70 (hlC vB.ok (hlC Tw.ok (hlC K7.ok hlN))) (agT (std 0) dG F9 pK)
noncomputable def Gh:=Tx.c
def vF:=fun b hb=>Tx.cs (aiN Bd Bf ajb ajc aaU aaV b hb)
def ajd:=fun b hb=>(vF b hb).1
def aje:=fun b hb=>(vF b hb).2
def K8:=mk Tryz.func132 hlN (agU (std 0))
noncomputable def Ga:=K8.c
def ajf:=fun ops k h0 h1 h2=>(K8.cs (aaz ops k h0 h1 h2)).1
def ajg:=fun ops k h0 h1 h2=>(K8.cs (aaz ops k h0 h1 h2)).2
def Tz:=mk Tryz.func71 (hlC vB.ok (hlC K7.ok (hlC K8.ok hlN))) (agV (std 0) dG pK Ga)
noncomputable def Gi:=Tz.c
def vG:=fun b hb=>Tz.cs (aiO Bd Bf aaU aaV ajf ajg b hb)
def ajh:=fun b hb=>(vG b hb).1
def aji:=fun b hb=>(vG b hb).2
def Ik:=mk Tryz.func133 hlN (agW (std 0))
noncomputable def pO:=Ik.c
def aaW:=fun ops k=>(Ik.cs (aaw ops k)).1
def aaX:=fun ops k=>(Ik.cs (aaw ops k)).2
def K9:=mk Tryz.func169 hlN (agX (std 0))
noncomputable def Gb:=K9.c
def ajj:=fun a=>(K9.cs (Z7 a)).1
def ajk:=fun a=>(K9.cs (Z7 a)).2
def TA:=mk Tryz.func134 (hlC K9.ok (hlC Bc.ok hlN)) (agY (std 0) Gb jl)
noncomputable def Gd:=TA.c
def zR:=fun op a b=>TA.cs (aib Tk Tm ajj ajk op a b)
def ajl:=fun op a b=>(zR op a b).1
def ajm:=fun op a b=>(zR op a b).2
def La:=mk Tryz.func170 hlN (agZ (std 0))
noncomputable def Gc:=La.c
def ajn:=fun b k=>(La.cs (aax b k)).1
def ajo:=fun b k=>(La.cs (aax b k)).2
def TB:=mk Tryz.func135 (hlC La.ok (hlC Ik.ok hlN)) (ag0 (std 0) Gc pO)
noncomputable def Gf:=TB.c
def vH:=fun b h=>TB.cs (aiH ajn ajo aaW aaX b h)
def ajp:=fun b h=>(vH b h).1
def ajq:=fun b h=>(vH b h).2
def TD:=mk Tryz.func72 (hlC vB.ok (hlC TA.ok (hlC TB.ok (hlC Ik.ok (hlC yL.ok hlN))))) (ag1 (std 0) dG Gd Gf pO gP)
noncomputable def Gg:=TD.c
def sI:=fun b hb=>TD.cs (aiK Bd Bf ajl ajm ajp ajq aaW aaX K4 K6 b hb)
def ajr:=fun b hb=>(sI b hb).1
def ajs:=fun b hb=>(sI b hb).2
def Lb:=mk Tryz.func25 (hlC TD.ok (hlC Ij.ok (hlC Tx.ok (hlC Tz.ok hlN)))) (ag2 (std 0) Gg jm Gh Gi)
noncomputable def pX:=Lb.c
def xE:=fun b hb=>Lb.cs (aiI ajr ajs Tt Tv ajd aje ajh aji b hb)
def aaY:=fun b hb=>(xE b hb).1
def aaZ:=fun b hb=>(xE b hb).2
def TF:=mk Tryz.func179 (hlC lU.ok hlN) (ag3 (std 0) bF)
noncomputable def Gm:=TF.c
def xG:=fun b p hb h1 h2=>TF.cs (aiE rV rW b p hb h1 h2)
def ajt:=fun b p hb h1 h2=>(xG b p hb h1 h2).1
def aju:=fun b p hb h1 h2=>(xG b p hb h1 h2).2
def TG:=mk Tryz.func237 hlN (ag4 (std 0))
noncomputable def Gj:=TG.c
def ajv:=fun i=>(TG.cs (ait i)).1
def Lc:=mk Tryz.func181 (hlC qd.ok (hlC TG.ok hlN)) (ag5 (std 0) bV Gj)
noncomputable def pR:=Lc.c
def Ld:=fun i=>Lc.cs (aiu vk vo ajv i)
def aa0:=fun i=>(Ld i).1
def Le:=mk Tryz.func182 hlN (ag6 (std 0))
noncomputable def pQ:=Le.c
def aa1:=fun i=>(Le.cs (aiv i)).1
def Lf:=mk Tryz.func180 (hlC Le.ok (hlC Lc.ok hlN)) (ag7 (std 0) pQ pR)
noncomputable def pU:=Lf.c
def Il:=fun i=>Lf.cs (aiw aa1 aa0 i)
def aa2:=fun i=>(Il i).1
def TH:=mk Tryz.func143 (hlC TF.ok (hlC lU.ok (hlC Lf.ok hlN))) (ag8 (std 0) Gm bF pU)
noncomputable def Gn:=TH.c
def vI:=fun b p hb h1 h2=>TH.cs (aiF ajt aju rV rW aa2 b p hb h1 h2)
def ajw:=fun b p hb h1 h2=>(vI b p hb h1 h2).1
def ajx:=fun b p hb h1 h2=>(vI b p hb h1 h2).2
def TI:=mk Tryz.func92 (hlC TH.ok (hlC lU.ok hlN)) (ag9 (std 0) Gn bF)
noncomputable def Gw:=TI.c
def vJ:=fun b p hb h1 h2=>TI.cs (aiG ajw ajx rV rW b p hb h1 h2)
def ajy:=fun b p hb h1 h2=>(vJ b p hb h1 h2).1
def ajz:=fun b p hb h1 h2=>(vJ b p hb h1 h2).2
def TJ:=mk Tryz.func145 (hlC Le.ok (hlC Lc.ok (hlC qd.ok (hlC Lf.ok hlN)))) (aha (std 0) pQ pR bV pU)
noncomputable def Gs:=TJ.c
def Lg:=fun pc l hl=>TJ.cs (aix aa1 aa0 vk vo aa2 pc l hl)
def ajA:=fun pc l hl=>(Lg pc l hl).1
def vK:=mk Tryz.func183 hlN (ahb (std 0))
noncomputable def eZ:=vK.c
def yM:=fun a1 a2 a3 a4 a5 a6 o ops hl=>(vK.cs (aar a1 a2 a3 a4 a5 a6 o ops hl)).1
def yN:=fun a1 a2 a3 a4 a5 a6 o ops hl=>(vK.cs (aar a1 a2 a3 a4 a5 a6 o ops hl)).2
def Im:=mk Tryz.func184 (hlC vK.ok hlN) (ahc (std 0) eZ)
noncomputable def pW:=Im.c
def aa3:=fun a1 a2 a3 a4 a5 a6 k x ops hl=>(Im.cs (aat yM yN a1 a2 a3 a4 a5 a6 k x ops hl)).1
def aa4:=fun a1 a2 a3 a4 a5 a6 k x ops hl=>(Im.cs (aat yM yN a1 a2 a3 a4 a5 a6 k x ops hl)).2
def yO:=mk Tryz.func185 (hlC vK.ok hlN) (ahd (std 0) eZ)
noncomputable def gQ:=yO.c
def Io:=fun a1 a2 a3 a4 a5 a6 k ops hl=>(yO.cs (aas yM yN a1 a2 a3 a4 a5 a6 k ops hl)).1
def Ip:=fun a1 a2 a3 a4 a5 a6 k ops hl=>(yO.cs (aas yM yN a1 a2 a3 a4 a5 a6 k ops hl)).2
def Lh:=mk Tryz.func186 (hlC yO.ok (hlC vK.ok hlN)) (ahe (std 0) gQ eZ)
noncomputable def pV:=Lh.c
def sJ:=fun a1 a2 a3 a4 a5 a6 k a o ops hl=>Lh.cs (aiy Io Ip yM yN a1 a2 a3 a4 a5 a6 k a o ops hl)
def aa5:=fun a1 a2 a3 a4 a5 a6 k a o ops hl=>(sJ a1 a2 a3 a4 a5 a6 k a o ops hl).1
def aa6:=fun a1 a2 a3 a4 a5 a6 k a o ops hl=>(sJ a1 a2 a3 a4 a5 a6 k a o ops hl).2
def TK:=mk Tryz.func187 hlN (ahf (std 0))
noncomputable def Gr:=TK.c
def ajB:=fun k hk=>(TK.cs (aiA k hk)).1
def TL:=mk Tryz.func188 (hlC yO.ok (hlC vK.ok (hlC Lh.ok (hlC Im.ok hlN)))) (ahg (std 0) gQ eZ pV pW)
noncomputable def Gq:=TL.c
def vL:=fun a1 a2 a3 a4 a5 a6 i k ops hl=>TL.cs (aiz Io Ip yM yN aa5 aa6 aa3 aa4 a1 a2 a3 a4 a5 a6 i k ops hl)
def ajC:=fun a1 a2 a3 a4 a5 a6 i k ops hl=>(vL a1 a2 a3 a4 a5 a6 i k ops hl).1
def ajD:=fun a1 a2 a3 a4 a5 a6 i k ops hl=>(vL a1 a2 a3 a4 a5 a6 i k ops hl).2
def Li:=mk Tryz.func189 (hlC yO.ok hlN) (ahh (std 0) gQ)
noncomputable def Gp:=Li.c
def ajE:=fun a1 a2 a3 a4 a5 a6 i ops hl=>(Li.cs (aau Io Ip a1 a2 a3 a4 a5 a6 i ops hl)).1
def ajF:=fun a1 a2 a3 a4 a5 a6 i ops hl=>(Li.cs (aau Io Ip a1 a2 a3 a4 a5 a6 i ops hl)).2
def TM:=mk Tryz.func146 (hlC yO.ok (hlC Li.ok (hlC vK.ok (hlC TL.ok (hlC Lh.ok (hlC Im.ok (hlC TK.ok hlN))))))) (ahi (std 0) gQ Gp eZ Gq pV pW Gr)
noncomputable def Gt:=TM.c
def zS:=fun a1 a2 a3 a4 a5 a6 i k ops hk hl=>TM.cs (aiB Io Ip ajE ajF yM yN ajC ajD aa5 aa6 aa3 aa4 ajB a1 a2 a3 a4 a5 a6 i k ops hk hl)
def ajG:=fun a1 a2 a3 a4 a5 a6 i k ops hk hl=>(zS a1 a2 a3 a4 a5 a6 i k ops hk hl).1
def ajH:=fun a1 a2 a3 a4 a5 a6 i k ops hk hl=>(zS a1 a2 a3 a4 a5 a6 i k ops hk hl).2
def TN:=mk Tryz.func94 (hlC TJ.ok (hlC TM.ok hlN)) (ahj (std 0) Gs Gt)
noncomputable def Gu:=TN.c
def sK:=fun pc l hl hk=>TN.cs (aiC ajA ajG ajH pc l hl hk)
def ajI:=fun pc l hl hk=>(sK pc l hl hk).1
def ajJ:=fun pc l hl hk=>(sK pc l hl hk).2
def TP:=mk Tryz.func111 (hlC TN.ok (hlC Lb.ok (hlC Ij.ok (hlC lU.ok (hlC TI.ok hlN))))) (ahk (std 0) Gu pX jm bF Gw)
noncomputable def Gy:=TP.c
def sM:=fun b p hb h1 h2=>TP.cs (aiR ajI ajJ aaY aaZ Tt Tv rV rW ajy ajz b p hb h1 h2)
def ajK:=fun b p hb h1 h2=>(sM b p hb h1 h2).1
def ajL:=fun b p hb h1 h2=>(sM b p hb h1 h2).2
end Go.TX.F
namespace Go.TX.F
open Go Go.AE Go.TX Go.TX.Seat Go.Proofs
set_option maxRecDepth 100000
def Lj:=mk Tryz.func112 (hlC lU.ok (hlC yL.ok hlN)) (ahl (std 0) bF gP)
noncomputable def pY:=Lj.c
def vM:=fun c b p hc hb h1 h2=>Lj.cs (aiT rV rW K4 K6 c b p hc hb h1 h2)
def aa7:=fun c b p hc hb h1 h2=>(vM c b p hc hb h1 h2).1
def aa8:=fun c b p hc hb h1 h2=>(vM c b p hc hb h1 h2).2
def TQ:=mk Tryz.func55 (hlC Tj.ok (hlC lU.ok (hlC Lj.ok (hlC TP.ok hlN)))) (ahm (std 0) Gx bF pY Gy)
noncomputable def G9:=TQ.c
def oK:=fun n b p hb h1 h2=>TQ.cs (aiU ai3 ai4 rV rW aa7 aa8 ajK ajL n b p hb h1 h2)
def ajM:=fun n b p hb h1 h2=>(oK n b p hb h1 h2).1
def ajN:=fun n b p hb h1 h2=>(oK n b p hb h1 h2).2
def Ll:=mk Tryz.func56 hlN (ahn (std 0))
noncomputable def Hl:=Ll.c
def ajO:=fun b hb hl=>(Ll.cs (aae b hb hl)).1
def ajP:=fun b hb hl=>(Ll.cs (aae b hb hl)).2
def lG:=mk Tryz.func73 hlN (am9 (std 0))
noncomputable def aZ:=lG.c
def lH:=fun a b c=>(lG.cs (adB a b c)).1
def lI:=fun a b c=>(lG.cs (adB a b c)).2
def zT:=mk Tryz.func64 (hlC lG.ok hlN) (ana (std 0) aZ)
noncomputable def fT:=zT.c
def JG:=fun a=>(zT.cs (adC lH lI a)).1
def JH:=fun a=>(zT.cs (adC lH lI a)).2
def Pp:=mk Tryz.func113 (hlC lG.ok hlN) (anb (std 0) aZ)
noncomputable def nD:=Pp.c
def sN:=fun o=>Pp.cs (aoQ lH lI o)
def aa9:=fun o=>(sN o).1
def abb:=fun o=>(sN o).2
def Pq:=mk Tryz.func136 (hlC lG.ok hlN) (ane (std 0) aZ)
noncomputable def wW:=Pq.c
def adO:=fun a=>(Pq.cs (adE lH lI a)).1
def adP:=fun a=>(Pq.cs (adE lH lI a)).2
def Pv:=mk Tryz.func137 (hlC lG.ok hlN) (anf (std 0) aZ)
noncomputable def wV:=Pv.c
def adQ:=fun a=>(Pv.cs (adD lH lI a)).1
def adR:=fun a=>(Pv.cs (adD lH lI a)).2
def abd:=mk Tryz.func171 (hlC lG.ok hlN) (ang (std 0) aZ)
noncomputable def N7:=abd.c
def lJ:=fun o=>abd.cs (aoR lH lI o)
def apl:=fun o=>(lJ o).1
def apm:=fun o=>(lJ o).2
def VA:=mk Tryz.func138 (hlC abd.ok (hlC lG.ok hlN)) (anh (std 0) N7 aZ)
noncomputable def wU:=VA.c
def lK:=fun b x n h0 h1 h2=>VA.cs (aoT apl apm lH lI b x n h0 h1 h2)
def adS:=fun b x n h0 h1 h2=>(lK b x n h0 h1 h2).1
def adT:=fun b x n h0 h1 h2=>(lK b x n h0 h1 h2).2
def abe:=mk Tryz.func74 (hlC VA.ok (hlC Pp.ok (hlC zT.ok (hlC lG.ok (hlC Pv.ok (hlC Pq.ok hlN)))))) (ani (std 0) wU nD fT aZ wV wW)
noncomputable def N9:=abe.c
def lZ:=fun b i h0 h1 h2 h3=>abe.cs (aoU adS adT aa9 abb JG JH lH lI adQ adR adO adP b i h0 h1 h2 h3)
def apn:=fun b i h0 h1 h2 h3=>(lZ b i h0 h1 h2 h3).1
def apo:=fun b i h0 h1 h2 h3=>(lZ b i h0 h1 h2 h3).2
def JI:=mk Tryz.func114 hlN (anj (std 0))
noncomputable def nG:=JI.c
def abf:=fun b=>(JI.cs (adM b)).1
def abg:=fun b=>(JI.cs (adM b)).2
def abh:=mk Tryz.func75 (hlC JI.ok (hlC VA.ok (hlC zT.ok (hlC lG.ok hlN)))) (ank (std 0) nG wU fT aZ)
noncomputable def N8:=abh.c
def lM:=fun b h2=>abh.cs (aoV abf abg adS adT JG JH lH lI b h2)
def apq:=fun b h2=>(lM b h2).1
def apr:=fun b h2=>(lM b h2).2
def Pw:=mk Tryz.func26 (hlC abh.ok (hlC abe.ok (hlC lG.ok hlN))) (anl (std 0) N8 N9 aZ)
noncomputable def nH:=Pw.c
def Ci:=fun b h2=>Pw.cs (aoW apq apr apn apo lH lI b h2)
def abj:=fun b h2=>(Ci b h2).1
def abk:=fun b h2=>(Ci b h2).2
def VB:=mk Tryz.func57 hlN (anm (std 0))
noncomputable def Oa:=VB.c
def aps:=fun b hb=>(VB.cs (adN b hb)).1
def apt:=fun b hb=>(VB.cs (adN b hb)).2
def abl:=mk Tryz.func58 (hlC JI.ok (hlC Pp.ok hlN)) (ano (std 0) nG nD)
noncomputable def Ob:=abl.c
def kg:=fun nm pc len fin x y k ops h=>abl.cs (aph abf abg aa9 abb nm pc len fin x y k ops h)
def apu:=fun nm pc len fin x y k ops h=>(kg nm pc len fin x y k ops h).1
def apv:=fun nm pc len fin x y k ops h=>(kg nm pc len fin x y k ops h).2
def abm:=mk Tryz.func16 (hlC VB.ok (hlC abl.ok (hlC Pw.ok hlN))) (anp (std 0) Oa Ob nH)
noncomputable def OL:=abm.c
def vN:=fun b hb=>abm.cs (apj aps apt apu apv abj abk b hb)
def apw:=fun b hb=>(vN b hb).1
def apx:=fun b hb=>(vN b hb).2
def abn:=mk Tryz.func20 (hlC zT.ok hlN) (anq (std 0) fT)
noncomputable def OM:=abn.c
def Cj:=abn.cs (aoM JG JH)
def apy:=(Cj).1
def apz:=(Cj).2
def Lm:=mk Tryz.func117 hlN (aho (std 0))
noncomputable def Gz:=Lm.c
def ajQ:=fun a b ha=>(Lm.cs (aaB a b ha)).1
def ajR:=fun a b ha=>(Lm.cs (aaB a b ha)).2
def abo:=mk Tryz.func66 (hlC Lm.ok hlN) (anr (std 0) Gz)
noncomputable def OE:=abo.c
def xH:=fun a b ha=>abo.cs (apb ajQ ajR a b ha)
def apA:=fun a b ha=>(xH a b ha).1
def apB:=fun a b ha=>(xH a b ha).2
def VD:=mk Tryz.func252 hlN (ant (std 0))
noncomputable def Oc:=VD.c
def apC:=fun a n=>(VD.cs (adF a n)).1
def apD:=fun a n=>(VD.cs (adF a n)).2
def TS:=mk Tryz.func275 (hlC VD.ok hlN) (ahp (std 0) Oc)
noncomputable def GA:=TS.c
def iN:=fun a n ha=>TS.cs (ahZ apC apD a n ha)
def ajS:=fun a n ha=>(iN a n ha).1
def ajT:=fun a n ha=>(iN a n ha).2
def TT:=mk Tryz.func251 (hlC TS.ok hlN) (ahq (std 0) GA)
noncomputable def GD:=TT.c
def gW:=fun a n ha=>TT.cs (ah0 ajS ajT a n ha)
def ajU:=fun a n ha=>(gW a n ha).1
def ajV:=fun a n ha=>(gW a n ha).2
def VE:=mk Tryz.func210 (hlC TT.ok hlN) (anu (std 0) GD)
noncomputable def wX:=VE.c
def sO:=fun a n ha=>VE.cs (aom ajU ajV a n ha)
def adU:=fun a n ha=>(sO a n ha).1
def adV:=fun a n ha=>(sO a n ha).2
def abp:=mk Tryz.func257 hlN (arT (std 0))
noncomputable def IE:=abp.c
def apE:=fun a=>(abp.cs (aoh a)).1
def apF:=fun a=>(abp.cs (aoh a)).2
def abq:=mk Tryz.func217 (hlC abp.ok hlN) (arU (std 0) IE)
noncomputable def yE:=abq.c
def oL:=fun a b=>abq.cs (arY apE apF a b)
def ajW:=fun a b=>(oL a b).1
def ajX:=fun a b=>(oL a b).2
def abr:=mk Tryz.func218 hlN (arV (std 0))
noncomputable def IG:=abr.c
def apG:=fun a b=>(abr.cs (aoi a b)).1
def apH:=fun a b=>(abr.cs (aoi a b)).2
def abt:=mk Tryz.func258 (hlC abq.ok hlN) (anv (std 0) yE)
noncomputable def Od:=abt.c
def jc:=fun a b ha=>abt.cs (aoj ajW ajX a b ha)
def apI:=fun a b ha=>(jc a b ha).1
def apJ:=fun a b ha=>(jc a b ha).2
def JJ:=mk Tryz.func219 (hlC abr.ok (hlC abq.ok (hlC abt.ok hlN))) (anw (std 0) IG yE Od)
noncomputable def jG:=JJ.c
def oM:=fun a b ha=>JJ.cs (aol ajW ajX apI apJ apG apH a b ha)
def VF:=fun a b ha=>(oM a b ha).1
def VG:=fun a b ha=>(oM a b ha).2
def abu:=mk Tryz.func259 (hlC abp.ok hlN) (arW (std 0) IE)
noncomputable def yF:=abu.c
def vO:=fun a b=>abu.cs (arZ apE apF a b)
def apK:=fun a b=>(vO a b).1
def apL:=fun a b=>(vO a b).2
def TU:=mk Tryz.func221 (hlC abu.ok hlN) (ahr (std 0) yF)
noncomputable def GI:=TU.c
def iY:=fun a ha=>TU.cs (ahY apK apL a ha)
def ajY:=fun a ha=>(iY a ha).1
def ajZ:=fun a ha=>(iY a ha).2
def VH:=mk Tryz.func223 hlN (anx (std 0))
noncomputable def Oe:=VH.c
def apM:=fun m=>(VH.cs (adG m)).1
def apN:=fun m=>(VH.cs (adG m)).2
def TW:=mk Tryz.func260 (hlC VH.ok hlN) (ahs (std 0) Oe)
noncomputable def GH:=TW.c
def dD:=fun a ha=>TW.cs (ah1 (G:=(fun m:aj=>0<m.atoms.length∧m.atoms.getD 0 default<0)) apM apN a ha)
def aj0:=fun a ha=>(dD a ha).1
def aj1:=fun a ha=>(dD a ha).2
def T9:=mk Tryz.func222 (hlC TW.ok hlN) (aht (std 0) GH)
noncomputable def GJ:=T9.c
def dh:=fun a ha=>T9.cs (ah2 (G:=(fun m:aj=>0<m.atoms.length∧m.atoms.getD 0 default<0)) aj0 aj1 a ha)
def aj2:=fun a ha=>(dh a ha).1
def aj3:=fun a ha=>(dh a ha).2
def zU:=mk Tryz.func164 (hlC lG.ok (hlC VE.ok (hlC TU.ok (hlC JJ.ok (hlC T9.ok hlN))))) (anz (std 0) aZ wX GI jG GJ)
noncomputable def eH:=zU.c
def zV:=fun a ha=>zU.cs (aon lH lI adU adV ajY ajZ VF VG aj2 aj3 a ha)
def Iq:=fun a ha=>(zV a ha).1
def Ir:=fun a ha=>(zV a ha).2
end Go.TX.F
namespace Go.TX.F
open Go Go.AE Go.TX Go.TX.Seat Go.Proofs
set_option maxRecDepth 100000
def VI:=mk Tryz.func158 (hlC lG.ok (hlC Pv.ok (hlC VE.ok (hlC zU.ok (hlC Pq.ok hlN))))) (anA (std 0) aZ wV wX eH wW)
noncomputable def wY:=VI.c
def jX:=fun a n ha=>VI.cs (aoB lH lI adQ adR adU adV Iq Ir adO adP a n ha)
def adW:=fun a n ha=>(jX a n ha).1
def adX:=fun a n ha=>(jX a n ha).2
def Px:=mk Tryz.func161 (hlC abr.ok (hlC abq.ok (hlC JJ.ok hlN))) (anB (std 0) IG yE jG)
noncomputable def nI:=Px.c
def sP:=fun a b ha=>Px.cs (aoo apG apH ajW ajX VF VG a b ha)
def abv:=fun a b ha=>(sP a b ha).1
def abw:=fun a b ha=>(sP a b ha).2
def Ck:=mk Tryz.func128 (hlC Px.ok hlN) (anC (std 0) nI)
noncomputable def fU:=Ck.c
def l5:=fun a b ha=>Ck.cs (aop abv abw a b ha)
def JK:=fun a b ha=>(l5 a b ha).1
def JL:=fun a b ha=>(l5 a b ha).2
def abx:=mk Tryz.func213 (hlC Ck.ok hlN) (anD (std 0) fU)
noncomputable def Og:=abx.c
def l6:=fun a b ha=>abx.cs (aoy JK JL a b ha)
def apO:=fun a b ha=>(l6 a b ha).1
def apP:=fun a b ha=>(l6 a b ha).2
def aby:=mk Tryz.func212 (hlC abx.ok hlN) (anE (std 0) Og)
noncomputable def Oh:=aby.c
def lN:=fun a b hb=>aby.cs (aoz apO apP a b hb)
def apQ:=fun a b hb=>(lN a b hb).1
def apR:=fun a b hb=>(lN a b hb).2
def Ua:=mk Tryz.func211 (hlC aby.ok hlN) (ahu (std 0) Oh)
noncomputable def GK:=Ua.c
def dF:=fun a b ha hb=>Ua.cs (ah3 apQ apR a b ha hb)
def aj4:=fun a b ha hb=>(dF a b ha hb).1
def aj5:=fun a b ha hb=>(dF a b ha hb).2
def VJ:=mk Tryz.func159 (hlC Ua.ok hlN) (anF (std 0) GK)
noncomputable def wZ:=VJ.c
def nW:=fun a b ha hb=>VJ.cs (aoA aj4 aj5 a b ha hb)
def adY:=fun a b ha hb=>(nW a b ha hb).1
def adZ:=fun a b ha hb=>(nW a b ha hb).2
def abz:=mk Tryz.func220 hlN (anG (std 0))
noncomputable def Oi:=abz.c
def eu:=fun a=>abz.cs (aox a)
def apS:=fun a=>(eu a).1
def apT:=fun a=>(eu a).2
def VK:=mk Tryz.func162 (hlC VI.ok (hlC VJ.ok (hlC abz.ok hlN))) (anH (std 0) wY wZ Oi)
noncomputable def xg:=VK.c
def oN:=fun t a ht ha=>VK.cs (aoD adW adX adY adZ apS apT t a ht ha)
def ad1:=fun t a ht ha=>(oN t a ht ha).1
def ad2:=fun t a ht ha=>(oN t a ht ha).2
def VL:=mk Tryz.func163 (hlC lG.ok hlN) (anI (std 0) aZ)
noncomputable def w9:=VL.c
def vP:=fun a=>VL.cs (aos lH lI a)
def ad3:=fun a=>(vP a).1
def ad4:=fun a=>(vP a).2
def VN:=mk Tryz.func124 (hlC VL.ok (hlC VK.ok hlN)) (anJ (std 0) w9 xg)
noncomputable def xk:=VN.c
def qN:=fun kd k t fl ht=>VN.cs (ao0 ad3 ad4 ad1 ad2 kd k t fl ht)
def ad5:=fun kd k t fl ht=>(qN kd k t fl ht).1
def ad6:=fun kd k t fl ht=>(qN kd k t fl ht).2
def VO:=mk Tryz.func118 (hlC VN.ok hlN) (anK (std 0) xk)
noncomputable def xw:=VO.c
def oO:=fun t fl ht hl=>VO.cs (ao1 ad5 ad6 t fl ht hl)
def ad7:=fun t fl ht hl=>(oO t fl ht hl).1
def ad8:=fun t fl ht hl=>(oO t fl ht hl).2
def Py:=mk Tryz.func190 hlN (anL (std 0))
noncomputable def xq:=Py.c
def ad9:=fun a ha=>(Py.cs (adI a ha)).1
def aea:=fun a ha=>(Py.cs (adI a ha)).2
def Pz:=mk Tryz.func157 (hlC Py.ok hlN) (anM (std 0) xq)
noncomputable def nJ:=Pz.c
def lQ:=fun a ha=>Pz.cs (aou ad9 aea a ha)
def abA:=fun a ha=>(lQ a ha).1
def abB:=fun a ha=>(lQ a ha).2
def VP:=mk Tryz.func119 (hlC Pz.ok hlN) (anN (std 0) nJ)
noncomputable def xu:=VP.c
def l7:=fun a ha=>VP.cs (aov abA abB a ha)
def aeb:=fun a ha=>(l7 a ha).1
def aec:=fun a ha=>(l7 a ha).2
def abC:=mk Tryz.func67 (hlC VP.ok (hlC VO.ok hlN)) (anO (std 0) xu xw)
noncomputable def OG:=abC.c
def xI:=abC.cs (ao3 aeb aec ad7 ad8)
def apU:=(xI).1
def apV:=(xI).2
def abD:=mk Tryz.func76 (hlC lG.ok hlN) (anP (std 0) aZ)
noncomputable def Ox:=abD.c
def oP:=fun o=>abD.cs (aoS lH lI o)
def apW:=fun o=>(oP o).1
def apX:=fun o=>(oP o).2
def abE:=mk Tryz.func120 (hlC VI.ok (hlC VJ.ok hlN)) (anQ (std 0) wY wZ)
noncomputable def Oz:=abE.c
def zW:=fun a ha=>abE.cs (aoC adW adX adY adZ a ha)
def apY:=fun a ha=>(zW a ha).1
def apZ:=fun a ha=>(zW a ha).2
def abF:=mk Tryz.func121 hlN (anR (std 0))
noncomputable def OB:=abF.c
def dV:=fun a h0 h1=>abF.cs (ao2 a h0 h1)
def ap0:=fun a h0 h1=>(dV a h0 h1).1
def ap1:=fun a h0 h1=>(dV a h0 h1).2
def PD:=mk Tryz.func122 (hlC lG.ok hlN) (anS (std 0) aZ)
noncomputable def nL:=PD.c
def sQ:=fun a=>PD.cs (aor lH lI a)
def abG:=fun a=>(sQ a).1
def abH:=fun a=>(sQ a).2
def JM:=mk Tryz.func141 hlN (anT (std 0))
noncomputable def nK:=JM.c
def abI:=fun a=>(JM.cs (adH a)).1
def abJ:=fun a=>(JM.cs (adH a)).2
def abK:=mk Tryz.func86 (hlC zT.ok (hlC JM.ok hlN)) (anU (std 0) fT nK)
noncomputable def Ol:=abK.c
def zY:=fun op a b=>abK.cs (aoq JG JH abI abJ op a b)
def ap2:=fun op a b=>(zY op a b).1
def ap3:=fun op a b=>(zY op a b).2
def VQ:=mk Tryz.func166 (hlC zU.ok hlN) (anV (std 0) eH)
noncomputable def xC:=VQ.c
def xJ:=fun a ha=>VQ.cs (aot Iq Ir a ha)
def aed:=fun a ha=>(xJ a ha).1
def aee:=fun a ha=>(xJ a ha).2
def VR:=mk Tryz.func277 (hlC JJ.ok hlN) (anW (std 0) jG)
noncomputable def oI:=VR.c
def zZ:=fun a b ha=>VR.cs (aow VF VG a b ha)
def aef:=fun a b ha=>(zZ a b ha).1
def aeg:=fun a b ha=>(zZ a b ha).2
def Ub:=mk Tryz.func309 (hlC VR.ok hlN) (ahv (std 0) oI)
noncomputable def GN:=Ub.c
def dM:=fun a b d hd h1 h2 h3=>Ub.cs (ah5 aef aeg a b d hd h1 h2 h3)
def aj6:=fun a b d hd h1 h2 h3=>(dM a b d hd h1 h2 h3).1
def aj7:=fun a b d hd h1 h2 h3=>(dM a b d hd h1 h2 h3).2
def Lp:=mk Tryz.func319 hlN (ahw (std 0))
noncomputable def GL:=Lp.c
def aj8:=fun a b n d hl h1 h2 h3 h4=>(Lp.cs (ZW a b n d hl h1 h2 h3 h4)).1
def aj9:=fun a b n d hl h1 h2 h3 h4=>(Lp.cs (ZW a b n d hl h1 h2 h3 h4)).2
def Uc:=mk Tryz.func317 (hlC Lp.ok hlN) (ahx (std 0) GL)
noncomputable def rJ:=Uc.c
def fG:=fun a m b d hl h1 h2 h3 h4=>Uc.cs (ah4 aj8 aj9 a m b d hl h1 h2 h3 h4)
def akb:=fun a m b d hl h1 h2 h3 h4=>(fG a m b d hl h1 h2 h3 h4).1
def akc:=fun a m b d hl h1 h2 h3 h4=>(fG a m b d hl h1 h2 h3 h4).2
noncomputable def cK:Nat→Ct aD nu
 | 0=>never nu
 | k+1=>cn (F3 (std 0) oI.pre oI.fn rJ.pre rJ.fn (cK k).pre (cK k).fn)
theorem kK:∀k:Nat,dw E 310 (cO (cK k))∧∀(a m b:Int) (d:List aj),AU a m b d→b-a<k→(cK k).pre (a,m,b,d,())=true∧Mrg d ((cK k).fn (a,m,b,d,())).1 a b
 | 0=>⟨jW (enters_of Tryz.func310 (by kernel_rfl) rfl),fun a m b d h1 h2=>(by have g1:=h1.h2;have g2:=h1.h3;omega)⟩
 | k+1=>by
  have ih:=kK k
  have t:Fn E 310 (F3 (std 0) oI.pre oI.fn rJ.pre rJ.fn (cK k).pre (cK k).fn) (cK (k+1)):=mk Tryz.func310 (hlC VR.ok (hlC Uc.ok (hlC ih.1 hlN))) (ahy (std 0) oI rJ (cK k))
  exact⟨t.ok,fun a m b d h1 h2=>t.cs (ah6 aef aeg akb akc (k:Int) (fun a m b d h1 h2=>(ih.2 a m b d h1 h2).1) (fun a m b d h1 h2=>(ih.2 a m b d h1 h2).2) a m b d h1 (by omega))⟩
noncomputable def qb:Ct aD nu:=cK 1000000000
theorem akd:dw E 310 (cO qb):=(kK 1000000000).1
theorem aeh {a m b:Int} {d:List aj} (h:AU a m b d):b-a< ((1000000000:Nat):Int):=by have g0:=h.sh.1;have g1:=h.h1;have g2:=h.h4;omega
def ake:=fun a m b d h=>((kK 1000000000).2 a m b d h (aeh h)).1
def akf:=fun a m b d h=>((kK 1000000000).2 a m b d h (aeh h)).2
def Ud:=mk Tryz.func291 (hlC Ub.ok (hlC akd hlN)) (ahz (std 0) GN qb)
noncomputable def GQ:=Ud.c
def fH:=fun n d hd hn=>Ud.cs (ah7 aj6 aj7 ake akf n d hd hn)
def akg:=fun n d hd hn=>(fH n d hd hn).1
def akh:=fun n d hd hn=>(fH n d hd hn).2
def Ue:=mk Tryz.func276 (hlC Ud.ok hlN) (ahA (std 0) GQ)
noncomputable def GU:=Ue.c
def bZ:=fun d hd=>Ue.cs (ah8 akg akh d hd)
def aki:=fun d hd=>(bZ d hd).1
def akj:=fun d hd=>(bZ d hd).2
def VT:=mk Tryz.func253 (hlC JJ.ok (hlC zU.ok (hlC JM.ok (hlC Py.ok (hlC Ue.ok hlN))))) (anX (std 0) jG eH nK xq GU)
noncomputable def xA:=VT.c
def Iu:=fun l hl hc=>VT.cs (aoF VF VG Iq Ir abI abJ ad9 aea aki akj l hl hc)
def aei:=fun l hl hc=>(Iu l hl hc).1
def aej:=fun l hl hc=>(Iu l hl hc).2
end Go.TX.F
namespace Go.TX.F
open Go Go.AE Go.TX Go.TX.Seat Go.Proofs
set_option maxRecDepth 100000
def Uf:=mk Tryz.func278 hlN (ahB (std 0))
noncomputable def GV:=Uf.c
def eB:=fun n h1 h2=>Uf.cs (ah9 n h1 h2)
def akk:=fun n h1 h2=>(eB n h1 h2).1
def akl:=fun n h1 h2=>(eB n h1 h2).2
def abL:=mk Tryz.func254 (hlC Uf.ok hlN) (anY (std 0) GV)
noncomputable def Oj:=abL.c
def dO:=fun a b ha hb=>abL.cs (aoG akk akl a b ha hb)
def ap4:=fun a b ha hb=>(dO a b ha hb).1
def ap5:=fun a b ha hb=>(dO a b ha hb).2
def abM:=mk Tryz.func214 (hlC zU.ok (hlC VT.ok (hlC abL.ok hlN))) (anZ (std 0) eH xA Oj)
noncomputable def Om:=abM.c
def xK:=fun a b ha hb=>abM.cs (aoH Iq Ir aei aej ap4 ap5 a b ha hb)
def ap6:=fun a b ha hb=>(xK a b ha hb).1
def ap7:=fun a b ha hb=>(xK a b ha hb).2
def Lr:=mk Tryz.func279 hlN (ahC (std 0))
noncomputable def GX:=Lr.c
def akm:=fun n h1 h2=>(Lr.cs (ZX n h1 h2)).1
def akn:=fun n h1 h2=>(Lr.cs (ZX n h1 h2)).2
def Ug:=mk Tryz.func255 (hlC Lr.ok hlN) (ahD (std 0) GX)
noncomputable def G5:=Ug.c
def jJ:=fun a b ha hb=>Ug.cs (aia akm akn a b ha hb)
def ako:=fun a b ha hb=>(jJ a b ha hb).1
def akp:=fun a b ha hb=>(jJ a b ha hb).2
def Uh:=mk Tryz.func292 (hlC abu.ok hlN) (ahE (std 0) yF)
noncomputable def GY:=Uh.c
def fV:=fun a b d hd h1 h2=>Uh.cs (aif apK apL a b d hd h1 h2)
def akq:=fun a b d hd h1 h2=>(fV a b d hd h1 h2).1
def akr:=fun a b d hd h1 h2=>(fV a b d hd h1 h2).2
noncomputable def AA:Ct aD Fx:=never Fx
theorem aks:dw E 293 (cO AA):=jW (enters_of Tryz.func293 (by kernel_rfl) rfl)
noncomputable def AB:Ct aD Fy:=never Fy
theorem akt:dw E 294 (cO AB):=jW (enters_of Tryz.func294 (by kernel_rfl) rfl)
noncomputable def AJ:Ct aD Fz:=never Fz
theorem aku:dw E 295 (cO AJ):=jW (enters_of Tryz.func295 (by kernel_rfl) rfl)
noncomputable def AL:Ct aD FB:=never FB
theorem akv:dw E 296 (cO AL):=jW (enters_of Tryz.func296 (by kernel_rfl) rfl)
noncomputable def AO:Ct aD FC:=never FC
theorem akw:dw E 297 (cO AO):=jW (enters_of Tryz.func297 (by kernel_rfl) rfl)
noncomputable def AP:Ct aD FD:=never FD
theorem akx:dw E 298 (cO AP):=jW (enters_of Tryz.func298 (by kernel_rfl) rfl)
noncomputable def AQ:Ct aD FH:=never FH
theorem aky:dw E 299 (cO AQ):=jW (enters_of Tryz.func299 (by kernel_rfl) rfl)
noncomputable def iC:Ct aD pq:=never pq
theorem lV:dw E 280 (cO iC):=jW (enters_of Tryz.func280 (by kernel_rfl) rfl)
def Ui:=mk Tryz.func280 (hlC abu.ok (hlC Uh.ok (hlC aks (hlC akt (hlC aku (hlC akv (hlC akw (hlC akx (hlC aky (hlC lV hlN)))))))))) (ahF (std 0) yF GY AA AB AJ AL AO AP AQ iC)
noncomputable def rM:=Ui.c
def iH:=fun a b k d hd h1 h2=>Ui.cs (aii akq akr _ _ _ _ _ _ _ _ _ _ _ _ _ _ _ _ a b k d hd h1 h2)
def akz:=fun a b k d hd h1 h2=>(iH a b k d hd h1 h2).1
def akA:=fun a b k d hd h1 h2=>(iH a b k d hd h1 h2).2
noncomputable def GZ:Ct aD U3:={pre:=fun x=>decide ((0:Int)≤x.1)&&decide ((x.1:Int)≤18446744073709551615),fn:=fun x=>((Lib.bitLen (x.1:Int).toNat:Int),())}
theorem ap8 (n:Int) (h1:0≤n) (h2:n≤18446744073709551615):GZ.pre (n,())=true:=by
 show(decide _&&decide _)=true;simp only [Bool.and_eq_true,decide_eq_true_eq];exact⟨h1,h2⟩
theorem ap9:dw E 281 (cO GZ):=
 aaP (enters_of Tryz.func281 (by kernel_rfl) rfl) rfl fun x w h=>by
  have h':(decide ((0:Int)≤x)&&decide (x≤18446744073709551615))=true:=h
  simp only [Bool.and_eq_true,decide_eq_true_eq]at h'
  exact bits_Len x w h'.1 h'.2
def Uj:=mk Tryz.func256 (hlC Ui.ok (hlC ap9 hlN)) (ahG (std 0) rM GZ)
noncomputable def G6:=Uj.c
def ku:=fun a ha=>Uj.cs (aij akz akA ap8 a ha)
def akB:=fun a ha=>(ku a ha).1
def akC:=fun a ha=>(ku a ha).2
def VU:=mk Tryz.func216 (hlC zU.ok (hlC JM.ok (hlC VT.ok (hlC Ug.ok (hlC Uj.ok hlN))))) (an0 (std 0) eH nK xA G5 G6)
noncomputable def xB:=VU.c
def xL:=fun a b ha hb=>VU.cs (aoI Iq Ir abI abJ aei aej ako akp akB akC a b ha hb)
def aek:=fun a b ha hb=>(xL a b ha hb).1
def ael:=fun a b ha hb=>(xL a b ha hb).2
def abN:=mk Tryz.func215 (hlC zU.ok (hlC PD.ok (hlC zT.ok (hlC VU.ok hlN)))) (an1 (std 0) eH nL fT xB)
noncomputable def Oo:=abN.c
def sS:=fun a n ha=>abN.cs (aoJ Iq Ir abG abH JG JH aek ael a n ha)
def aqa:=fun a n ha=>(sS a n ha).1
def aqb:=fun a n ha=>(sS a n ha).2
def abO:=mk Tryz.func160 (hlC Ck.ok (hlC PD.ok (hlC abK.ok (hlC abM.ok (hlC VU.ok (hlC abN.ok (hlC VQ.ok hlN))))))) (an2 (std 0) fU nL Ol Om xB Oo xC)
noncomputable def Oq:=abO.c
def xM:=fun op x y hx hy=>abO.cs (aoK JK JL abG abH ap2 ap3 ap6 ap7 aek ael aqa aqb aed aee op x y hx hy)
def aqc:=fun op x y hx hy=>(xM op x y hx hy).1
def aqd:=fun op x y hx hy=>(xM op x y hx hy).2
def abP:=mk Tryz.func123 (hlC Px.ok (hlC abO.ok (hlC VK.ok (hlC VL.ok hlN)))) (an3 (std 0) nI Oq xg w9)
noncomputable def OA:=abP.c
def qO:=fun t op x y ht hx hy=>abP.cs (aoL abv abw aqc aqd ad1 ad2 ad3 ad4 t op x y ht hx hy)
def aqe:=fun t op x y ht hx hy=>(qO t op x y ht hx hy).1
def aqf:=fun t op x y ht hx hy=>(qO t op x y ht hx hy).2
def abQ:=mk Tryz.func87 (hlC zT.ok hlN) (an4 (std 0) fT)
noncomputable def Ow:=abQ.c
def xO:=fun r a b=>abQ.cs (aoX JG JH r a b)
def aqg:=fun r a b=>(xO r a b).1
def aqh:=fun r a b=>(xO r a b).2
def abR:=mk Tryz.func224 (hlC Pz.ok hlN) (an5 (std 0) nJ)
noncomputable def Ou:=abR.c
def oQ:=fun a ha=>abR.cs (aoY abA abB a ha)
def aqi:=fun a ha=>(oQ a ha).1
def aqj:=fun a ha=>(oQ a ha).2
def abS:=mk Tryz.func165 (hlC Pz.ok (hlC abR.ok hlN)) (an6 (std 0) nJ Ou)
noncomputable def Ov:=abS.c
def l8:=fun s hs=>abS.cs (aoZ abA abB aqi aqj s hs)
def aqk:=fun s hs=>(l8 s hs).1
def aql:=fun s hs=>(l8 s hs).2
def abT:=mk Tryz.func125 (hlC VQ.ok (hlC zU.ok (hlC Px.ok (hlC abS.ok (hlC Ck.ok (hlC abQ.ok hlN)))))) (an7 (std 0) xC eH nI Ov fU Ow)
noncomputable def Oy:=abT.c
def xP:=fun s n hs h0 h1=>abT.cs (ao4 aed aee Iq Ir abv abw aqk aql JK JL aqg aqh s n hs h0 h1)
def aqm:=fun s n hs h0 h1=>(xP s n hs h0 h1).1
def aqn:=fun s n hs h0 h1=>(xP s n hs h0 h1).2
def abU:=mk Tryz.func68 (hlC JI.ok (hlC Pw.ok (hlC abD.ok (hlC Pp.ok (hlC PD.ok (hlC abT.ok (hlC abE.ok (hlC VP.ok (hlC abP.ok (hlC VN.ok (hlC VO.ok (hlC abF.ok hlN)))))))))))) (an8 (std 0) nG nH Ox nD nL Oy Oz xu OA xk xw OB)
noncomputable def OH:=abU.c
def xQ:=fun t b ht hb=>abU.cs (ao5 abf abg abj abk apW apX aa9 abb abG abH aqm aqn apY apZ aeb aec aqe aqf ad5 ad6 ad7 ad8 ap0 ap1 t b ht hb)
def aqo:=fun t b ht hb=>(xQ t b ht hb).1
def aqp:=fun t b ht hb=>(xQ t b ht hb).2
def abV:=mk Tryz.func168 (hlC Ck.ok hlN) (an9 (std 0) fU)
noncomputable def OC:=abV.c
def nX:=fun a b ha=>abV.cs (apc JK JL a b ha)
def aqr:=fun a b ha=>(nX a b ha).1
def aqs:=fun a b ha=>(nX a b ha).2
def Uk:=mk Tryz.func167 (hlC abV.ok hlN) (ahH (std 0) OC)
noncomputable def G7:=Uk.c
def bq:=fun a b ha=>Uk.cs (aiX aqr aqs a b ha)
def akD:=fun a b ha=>(bq a b ha).1
def akE:=fun a b ha=>(bq a b ha).2
def VW:=mk Tryz.func129 (hlC Uk.ok hlN) (aoa (std 0) G7)
noncomputable def xD:=VW.c
def qP:=fun a b ha=>VW.cs (apd akD akE a b ha)
def aem:=fun a b ha=>(qP a b ha).1
def aen:=fun a b ha=>(qP a b ha).2
def abW:=mk Tryz.func127 (hlC Ck.ok (hlC VW.ok hlN)) (aob (std 0) fU xD)
noncomputable def OD:=abW.c
def qQ:=fun a b ha=>abW.cs (ape JK JL aem aen a b ha)
def aqt:=fun a b ha=>(qQ a b ha).1
def aqu:=fun a b ha=>(qQ a b ha).2
def Ul:=mk Tryz.func126 (hlC abW.ok hlN) (ahI (std 0) OD)
noncomputable def G8:=Ul.c
def aX:=fun a b ha=>Ul.cs (aiY aqt aqu a b ha)
def akF:=fun a b ha=>(aX a b ha).1
def akG:=fun a b ha=>(aX a b ha).2
end Go.TX.F
namespace Go.TX.F
open Go Go.AE Go.TX Go.TX.Seat Go.Proofs
set_option maxRecDepth 100000
def abX:=mk Tryz.func69 (hlC Ck.ok (hlC VW.ok (hlC Ul.ok hlN))) (aoc (std 0) fU xD G8)
noncomputable def OI:=abX.c
def vQ:=fun a b ha=>abX.cs (apf JK JL aem aen akF akG a b ha)
def aqv:=fun a b ha=>(vQ a b ha).1
def aqw:=fun a b ha=>(vQ a b ha).2
def abY:=mk Tryz.func22 (hlC Pw.ok (hlC abo.ok (hlC abC.ok (hlC abU.ok (hlC abX.ok hlN))))) (aod (std 0) nH OE OG OH OI)
noncomputable def OJ:=abY.c
def vR:=fun b c hb hc=>abY.cs (apg abj abk apA apB apU apV aqo aqp aqv aqw b c hb hc)
def aqx:=fun b c hb hc=>(vR b c hb hc).1
def aqy:=fun b c hb hc=>(vR b c hb hc).2
def Um:=mk Tryz.func139 (hlC lU.ok (hlC yL.ok hlN)) (ahJ (std 0) bF gP)
noncomputable def Hg:=Um.c
def qR:=fun c b p ok hc hb h1 h2=>Um.cs (aiS rV rW K4 K6 c b p ok hc hb h1 h2)
def akH:=fun c b p ok hc hb h1 h2=>(qR c b p ok hc hb h1 h2).1
def akI:=fun c b p ok hc hb h1 h2=>(qR c b p ok hc hb h1 h2).2
def Un:=mk Tryz.func79 (hlC vB.ok (hlC Lb.ok (hlC Ij.ok (hlC lU.ok (hlC Lj.ok (hlC TQ.ok (hlC Um.ok hlN))))))) (ahK (std 0) dG pX jm bF pY G9 Hg)
noncomputable def Ho:=Un.c
def vS:=fun n b p hb h1 h2=>Un.cs (aiV Bd Bf aaY aaZ Tt Tv rV rW aa7 aa8 ajM ajN akH akI n b p hb h1 h2)
def akJ:=fun n b p hb h1 h2=>(vS n b p hb h1 h2).1
def akK:=fun n b p hb h1 h2=>(vS n b p hb h1 h2).2
end Go.TX.F
namespace Go.TX.F
open Go Go.AE Go.TX Go.TX.Seat Go.Proofs
set_option maxRecDepth 100000
def Uo:=mk Tryz.func36 (hlC Ll.ok (hlC Un.ok hlN)) (ahL (std 0) Hl Ho)
noncomputable def Hq:=Uo.c
def nY:=fun c hc hl=>Uo.cs (aiW ajO ajP akJ akK c hc hl)
def akL:=fun c hc hl=>(nY c hc hl).1
def akM:=fun c hc hl=>(nY c hc hl).2
def aeo:=mk Tryz.func8 (hlC abY.ok (hlC abm.ok (hlC abn.ok (hlC Uo.ok hlN)))) (aoe (std 0) OJ OL OM Hq)
def vT:=fun c hc=>aeo.cs (apk aqx aqy apw apx apy apz akL akM c hc)
def aqz:=fun c hc=>(vT c hc).1
def aqA:=fun c hc=>(vT c hc).2
end Go.TX.F
namespace Go.Proofs.YtkecklmejhogoaaGreat
open Go.ChangeShapes Go.WideShapes Go.ChangeAt Go.RowKit
theorem ar9:ownKnob Tryz.prog.godebug=Option.none:=by kernel_rfl
theorem aqB:laidOutB Tryz.prog=true:=by kernel_rfl
theorem akN:Tryz.prog.cellsOf 5=1:=by kernel_rfl
set_option maxRecDepth 100000 in
theorem lifted (os:Os) (started:os.Started) (H:Type) (enc:TypeId×Value→H):
  ReturnsInHanded {} Tryz.checked os 8 .any (Rows.fnChkOnSpec.pre6 enc Tryz.prog Tryz.f8 Rows.fnChkOnRow.domain false) (Rows.fnChkOnSpec.post enc Tryz.prog Tryz.f8 false true false false):=by
 refine returnsInHanded_of_change (C:=Tryz.checked) ar9 started (by kernel_rfl) Tryz.func8
  (ChangeSpec.witness6 (enc:=enc) (C:=Tryz.checked) false ⟨#[], #[.slice none 0 0],[]⟩ 8 (by kernel_rfl) (by kernel_rfl) (by kernel_rfl) (by kernel_rfl)) ?_
 intro W base args ds gs before hval0 hW _ _
 have hval:∀(j:Nat) t v,Tryz.f8.params[j]? =some t→args[j]? =some v→Value.okWide Tryz.prog W .any base t v:=hval0
 have hW':=hW
 obtain⟨p,q,hA0,hV,rfl,_,_⟩:=hW
 have hA:DataW.TrodAll enc Tryz.prog W 0 (fun _=>true) true Tryz.f8.params.toList args.toList ds p:=hA0
 rw [Tryz.params8]at hA hval
 obtain⟨v0,d0,rfl,rfl,h0⟩:=trodAll_one hA
 obtain⟨rfl,rfl⟩:=trodVars_none hV
 clear hA0 hval0
 simp only [List.append_nil]at hW'
 have hlt:∀x∈p,x.block<W.heap.size:=fun x hx=>by simpa using hW'.lt x hx
 obtain⟨xs,hr,hb⟩:=Go.TX.aaO Tryz.underlying22 Tryz.underlying5 akN (hval 0 22 v0 rfl rfl) h0 hlt
 have hp:=Go.TX.F.aqz xs hb
 have hq:=Go.TX.F.aqA xs hb
 refine(Go.TX.ar6 Go.TX.F.aeo.ok hr (fun g d h=>by cases h) hp).mono fun e W' ⟨he,hw⟩=> ?_
 have he:e= .returned (.bool true):=he.trans (congrArg (fun z:Bool×Unit=>Ending.returned (.bool z.1)) hq)
 refine⟨_,he,[d0],[],p,[],p,[],hW',trodAll_mk1 (shut_bool Tryz.underlying4 true),?_,rfl,hw.frame _,fun h=>by cases h⟩
 exact trodAll_mk1 (Below.trod aqB (by kernel_rfl) (of_decide_eq_true (by kernel_rfl)) h0 hw hlt)
theorem y1:Tryz.pinned.checked.prog.funcNamed Rows.fnChkOnRow.func=some 8:=by kernel_rfl
theorem aS {a b:Bool} (h:a=true) (k:b=true):(a&&b)=true:=by rw [h,k];rfl
set_option maxHeartbeats 4000000 in
theorem y2:joinedFacts Tryz.pinned.checked.prog 8 Tryz.f8 Rows.fnChkOnSpec Rows.fnChkOnRow=true:=by
 unfold joinedFacts
 repeat' with_reducible apply aS
 all_goals (as_aux_lemma=>kernel_rfl)
theorem y3:Func.isWrapper Tryz.prog Tryz.f8 Rows.fnChkOnRow.wrapper Rows.fnChkOnRow.mainSum:=(by unfold Func.isWrapper;first | (rw [if_pos (by decide+kernel)];kernel_rfl) | (rw [if_neg (by decide+kernel)];exact⟨rfl,rfl⟩))
theorem x_holds:Rows.FnChkOnSaid:=
 OpenClaim.holds_of_wide 8 Tryz.f8 rfl rfl rfl rfl rfl rfl rfl ⟨rfl,rfl,rfl,rfl,rfl⟩ rfl rfl rfl rfl rfl y1 Tryz.func8 y2
  (of_decide_eq_true (by kernel_rfl)) y3
  (fun os started H enc _=>lifted os started H enc)
end Go.Proofs.YtkecklmejhogoaaGreat
