/- For every input the law returns true, and the input reads as it did. No condition. -/
import Derived.Test.YtkecklmejhogoaaGreatZe
import Derived.ChangeSlices
import Derived.ChangeSame
import Derived.JoinedOf
import Derived.JoinedAt
import Derived.Handed
import Derived.Below
import Derived.Carry
import Derived.OpenShut
import Derived.ChangeKeysEq
import Derived.Test.YtkecklmejhogoaaGreatY
import Derived.Test.YtkecklmejhogoaaGreatRows
set_option linter.all false
set_option linter.unusedSectionVars false
set_option linter.unusedVariables false
set_option linter.unusedSimpArgs false
namespace Go.TX.F
open Go Go.AE Go.TX
theorem ah9 {p1:Int×Int×Int×Unit→Bool} {f1:Int×Int×Int×Unit→Bool×Unit} (hp1:∀a b c,p1 (a,b,c,())=true) (hf1:∀a b c,f1 (a,b,c,())=(inB a b c,())) (k:Int):
  P6 (std 0) p1 f1 (k,()) (fun y=>y=(decide ((1≤k∧k≤4)∨k=6),())):=by
 dsimp only [P6,Alg.cl,Alg.cg,Alg.rb,Alg.bd,Alg.l1,Tup.q,Tup.o]
 simp (disch:=omega) only [RR,hp1,hf1]
 refine Prod.ext ?_ rfl
 rw [Bool.eq_iff_iff];simp [inB]
theorem aia {p1:Int×Unit→Bool} {f1:Int×Unit→Bool×Unit} (hp1:∀k,p1 (k,())=true) (hf1:∀k,f1 (k,())=(decide ((1≤k∧k≤4)∨k=6),())) (ops:List IOp) (x n:Int) (h1:n≤ops.length):
  P7 (std 0) p1 f1 (ops,x,n,()) (fun y=>y=(bp (Vl ops x n),())):=by
 dsimp only [P7,Alg.cl,Alg.cg,Alg.rb,Alg.bd,Alg.l1,Tup.q,Tup.o]
 simp (disch:=omega) only [RR,RB,hp1,hf1]
 refine⟨by simp only [Bool.and_eq_false_iff,decide_eq_false_iff_not];omega,by simp only [Bool.and_eq_false_iff,decide_eq_false_iff_not];omega,?_⟩
 refine Prod.ext ?_ rfl
 dsimp only
 rw [Bool.eq_iff_iff,bL,Bool.and_eq_true,Bool.and_eq_true,decide_eq_true_eq,decide_eq_true_eq,decide_eq_true_eq,and_assoc]
 rfl
theorem aib {p4:Int×Unit→Bool} {f4:Int×Unit→Bool×Unit} (hp4:∀a,p4 (a,())=true) (hf4:∀a,f4 (a,())=(inB a 0 65535,()))
  {p1:Int×Int×Int×Unit→Bool} {f1:Int×Int×Int×Unit→Bool×Unit} (hp1:∀a b c,p1 (a,b,c,())=true) (hf1:∀a b c,f1 (a,b,c,())=(inB a b c,()))
  {p3:List IOp×Int×Int×Unit→Bool} {f3:List IOp×Int×Int×Unit→Bool×Unit} (hp3:∀(ops:List IOp) (x n:Int),n≤ops.length→p3 (ops,x,n,())=true) (hf3:∀(ops:List IOp) (x n:Int),n≤ops.length→f3 (ops,x,n,())=(bp (Vl ops x n),()))
  (ops:List IOp) (i len:Int) (h0:0≤i) (h1:i<ops.length) (h3:1≤len∧len≤8):P8 (std 0) p4 f4 p1 f1 p3 f3 (ops,i,len,()) (fun y=>y=(bp (Ch ops len i ((ops).getD (i).toNat default)),())):=by
 have R9:=fun x=>hp3 ops x i (by omega)
 have Sb:=fun x=>hf3 ops x i (by omega)
 have e:∀ {a:Int},(0≤a∧a≤len-1)↔(0≤a∧a<len):=fun {a}=>by omega
 dsimp only [P8,Alg.cl,Alg.cg,Alg.rb,Alg.bd,Alg.l1,Tup.q,Tup.o]
 simp (disch:=omega) only [RR,RB,hp1,hf1,R9,Sb,hp4,hf4]
 refine⟨by omega,by omega,?_⟩
 rw [show bp (Ch ops len i ((ops).getD (i).toNat default))=bp (_)from lg Ox]
 generalize ((ops).getD (i).toNat default)=o
 have go:∀ {c:Bool} {P:Prop},(c=true↔P)→(c,())=(bp P,()):=fun {c P} h=>Prod.ext (by dsimp only;rw [Bool.eq_iff_iff,bL];exact h) rfl
 refine⟨fun c=> ?_,fun c1=>⟨fun c=> ?_,fun c2=>⟨fun c=> ?_,fun c3=> ?_⟩⟩⟩
 ·refine go ?_
  simp only [Bool.and_eq_true,decide_eq_true_eq,bL,fC,c,hX,hY,hK,evO,e]
  simp [and_assoc]
 ·refine go ?_
  simp only [Bool.and_eq_true,decide_eq_true_eq,bL,fC,c,hX,hY,hK,evO,e]
  simp [and_assoc]
 ·refine go ?_
  simp only [Bool.and_eq_true,decide_eq_true_eq,bL,fC,c,hX,hY,hK,evO,e]
  simp [and_assoc]
 ·by_cases c4:o.kind=4∨o.kind=7
  ·have c5:o.kind≠8:=by omega
   rcases c4 with c | c<;>simp (disch:=omega) only [RR,c,Int.reduceEq]<;>(refine go ?_)<;>simp only [Bool.and_eq_true,decide_eq_true_eq,bL,fC,c,hX,hY,hK,evO,e]<;>simp [and_assoc]
  ·by_cases c:o.kind=5
   ·simp (disch:=omega) only [RR,c,Int.reduceEq]
    refine go ?_
    simp only [Bool.and_eq_true,decide_eq_true_eq,bL,fC,c,hX,hY,hK,evO,e]
    simp [and_assoc]
   ·by_cases c':o.kind=6
    ·simp (disch:=omega) only [RR,c',Int.reduceEq]
     refine go ?_
     simp only [Bool.and_eq_true,decide_eq_true_eq,bL,fC,c',hX,hY,hK,evO,e]
     simp [and_assoc]
    ·by_cases c8:o.kind=8
     ·simp (disch:=omega) only [RR,c8,Int.reduceEq]
      refine go ?_
      simp only [Bool.and_eq_true,decide_eq_true_eq,bL,fC,c8,hX,hY,hK,evO,e]
      simp [and_assoc]
     ·have n4:¬o.kind=4:=fun h=>c4 (Or.inl h)
      have n7:¬o.kind=7:=fun h=>c4 (Or.inr h)
      simp (disch:=omega) only [RR,n4,n7,c,c',c8]
      rw [fM (fun h=>by have:=h.1;omega)]
theorem aic {p4:Int×Unit→Bool} {f4:Int×Unit→Bool×Unit} (hp4:∀a,p4 (a,())=true) (hf4:∀a,f4 (a,())=(inB a 0 65535,()))
  {p3:List IOp×Int×Int×Unit→Bool} {f3:List IOp×Int×Int×Unit→Bool×Unit} (hp3:∀(ops:List IOp) (x n:Int),n≤ops.length→p3 (ops,x,n,())=true) (hf3:∀(ops:List IOp) (x n:Int),n≤ops.length→f3 (ops,x,n,())=(bp (Vl ops x n),()))
  (b:Blk):P9 (std 0) p4 f4 p3 f3 (b,()) (fun y=>y=(bp (zm b),())):=by
 have R9:=fun x=>hp3 b.ops x b.ops.length (Int.le_refl _)
 have Sb:=fun x=>hf3 b.ops x b.ops.length (Int.le_refl _)
 dsimp only [P9,Alg.cl,Alg.cg,Alg.rb,Alg.bd,Alg.l1,Tup.q,Tup.o]
 simp (disch:=omega) only [RR,RB,R9,Sb,hp4,hf4]
 rw [show bp (zm b)=bp (_)from lg Jw]
 have go:∀ {c:Bool} {P:Prop},(c=true↔P)→(c,())=(bp P,()):=fun {c P} h=>Prod.ext (by dsimp only;rw [Bool.eq_iff_iff,bL];exact h) rfl
 refine⟨fun c=> ?_,fun c1=>⟨fun c=> ?_,fun c2=> ?_⟩⟩
 ·refine go ?_
  simp only [Bool.and_eq_true,decide_eq_true_eq,bL,fC,c]
  simp [and_assoc]
 ·refine go ?_
  simp only [Bool.and_eq_true,decide_eq_true_eq,bL,fC,c]
  simp [and_assoc]
 ·by_cases c:b.fin=3
  ·simp (disch:=omega) only [RR,c,Int.reduceEq]
   refine go ?_
   simp only [Bool.and_eq_true,decide_eq_true_eq,bL,fC,c]
   simp [and_assoc]
  ·by_cases c4:b.fin=4
   ·simp (disch:=omega) only [RR,c4,Int.reduceEq]
    refine go ?_
    simp only [Bool.and_eq_true,decide_eq_true_eq,bL,fC,c4]
    simp [and_assoc]
   ·simp (disch:=omega) only [RR,c,c4]
    rw [fM (fun h=>by have:=h.1;omega)]
theorem aie {p1:Int×Int×Int×Unit→Bool} {f1:Int×Int×Int×Unit→Bool×Unit} (hp1:∀a b c,p1 (a,b,c,())=true) (hf1:∀a b c,f1 (a,b,c,())=(inB a b c,()))
  {p2:Blk×Unit→Bool} {f2:Blk×Unit→Bool×Unit} (hp2:∀b,p2 (b,())=true) (hf2:∀b,f2 (b,())=(bp (zm b),()))
  {p3:List IOp×Int×Int×Unit→Bool} {f3:List IOp×Int×Int×Unit→Bool×Unit} (hp3:∀(ops:List IOp) (i len:Int),0≤i→i<ops.length→1≤len∧len≤8→p3 (ops,i,len,())=true) (hf3:∀(ops:List IOp) (i len:Int),0≤i→i<ops.length→1≤len∧len≤8→f3 (ops,i,len,())=(bp (Ch ops len i ((ops).getD (i).toNat default)),())) (b:Blk) (h2:b.ops.length<1000000000):
  Qa (std 0) p1 f1 p2 f2 p3 f3 (b,()) (fun y=>y=(bp (dL b),())):=by
 dsimp only [Qa,Alg.cl,Alg.cg,Alg.rb,Alg.bd,Alg.l1,Tup.q,Tup.o]
 simp (disch:=omega) only [RR,RB,hp1,hf1]
 by_cases hl:1≤b.len∧b.len≤8
 ·have hl':=fC.2 hl
  simp (disch:=omega) only [RR,hl',fC,rO]
  refine⟨fun h=> ?_,fun h=> ?_⟩
  ·rw [fM (fun g=> ?_)]
   have g1:=g.pc
   have g2:=g.sz
   omega
  ·refine au (fun(y:Int×Blk×Unit)=>y.2.1=b∧0≤y.1∧y.1≤b.ops.length∧All y.1 (fun i=>Ch b.ops b.len i ((b.ops).getD (i).toNat default))) (fun y=>(b.ops.length-y.1).toNat) ⟨rfl,by simp,by simp,All.zero⟩ ?_
   rintro⟨(i:Int),(b':Blk),⟨⟩⟩ hI
   dsimp only at hI ⊢
   obtain⟨rfl,h3,h4,h5⟩:=hI
   simp (disch:=omega) only [RR,hp2 b',hf2 b']
   refine⟨fun h6=>⟨hp3 b'.ops i b'.len h3 h6 hl,?_⟩,fun h6=> ?_⟩
   ·rw [hf3 b'.ops i b'.len h3 h6 hl]
    dsimp only
    refine⟨fun h7=> ?_,fun h7=>⟨⟨by omega,by omega,h5.snoc (bL.1 h7)⟩,by omega⟩⟩
    rw [fM (fun g=>mY.1 h7 (g.op i h3 h6))]
   ·by_cases he:zm b'
    ·rw [dD he,dD (show dL b' from⟨hl,by omega,by omega,fun j j1 j2=>h5 j j1 (by omega),he⟩)]
    ·rw [fM he,fM (fun g=>he g.en)]
 ·have hl':=rO.2 hl
  simp (disch:=omega) only [RR,hl']
  rw [fM (fun g=>hl g.ln)]
  exact⟨rfl,fun h=>h.1.1.elim⟩
theorem aoU {p4:Int×Unit→Bool} {f4:Int×Unit→Bool×Unit} (hp4:∀a,p4 (a,())=true) (hf4:∀a,f4 (a,())=(inB a 0 65535,())) (r a b:Int):
  Y9 (std 0) p4 f4 (r,a,b,()) (fun y=>y=(inB a 0 65535&&inB b 0 65535&& (decide (r=1∧a=b∨r=2∧a<b)),())):=by
 dsimp only [Y9,Alg.cl,Alg.cg,Alg.rb,Alg.bd,Alg.l1,Tup.q,Tup.o]
 simp (disch:=omega) only [RR,hp4,hf4]
 refine Prod.ext ?_ rfl
 rw [Bool.eq_iff_iff];simp
theorem aoV {p1:List aj×Unit→Bool} {f1:List aj×Unit→List aj×Unit} (hp1:∀a,Sh a→p1 (a,())=true) (hf1:∀a,Sh a→f1 (a,())=(a,())) (a:List (List aj)) (ha:ShP a):
  Za (std 0) p1 f1 (a,()) (fun y=>y=(a,())):=by
 have hlen:=ha.1
 dsimp only [Za,Alg.cl,Alg.cg,Alg.rb,Alg.bd,Alg.l1,Tup.q,Tup.o]
 refine au (fun(y:List (List aj)×Int×Int×List (List aj)×Unit)=>y.1=a∧y.2.1=a.length∧y.2.2.2.1=a.take y.2.2.1.toNat∧0≤y.2.2.1∧y.2.2.1≤a.length) (fun y=>(a.length-y.2.2.1).toNat) ⟨rfl,rfl,by simp,by simp,by simp⟩ ?_
 rintro⟨(l:List (List aj)),(m:Int),(i:Int),(o:List (List aj)),⟨⟩⟩ hI
 dsimp only at hI ⊢
 obtain⟨rfl,rfl,rfl,h1,h2⟩:=hI
 simp (disch:=omega) only [RR,hp1 _ (ha.at _),hf1 _ (ha.at _)]
 refine⟨fun h4=>⟨by omega,by omega,?_,⟨jy h1 h4 rfl,by omega,by omega⟩,by omega⟩,fun h4=>by rw [List.take_of_length_le (by omega)]⟩
 have:=List.length_take_le' i.toNat l
 simp only [List.length_cons,List.length_nil];omega
theorem aoW {p1:List aj×Unit→Bool} {f1:List aj×Unit→List aj×Unit} (hp1:∀a,Sh a→p1 (a,())=true) (hf1:∀a,Sh a→f1 (a,())=(a,()))
  {p2:List (List aj)×Unit→Bool} {f2:List (List aj)×Unit→List (List aj)×Unit} (hp2:∀a,ShP a→p2 (a,())=true) (hf2:∀a,ShP a→f2 (a,())=(a,())) (s:Sym) (hs:ShY s):
  Zb (std 0) p1 f1 p2 f2 (s,()) (fun y=>y=(s.fin,s.k,s.events,s.regs,s.x,s.y,())):=by
 have hlen:=hs.e.1
 dsimp only [Zb,Alg.cl,Alg.cg,Alg.rb,Alg.bd,Alg.l1,Tup.q,Tup.o]
 simp (disch:=omega) only [RR,RB,hp1 _ hs.x,hf1 _ hs.x,hp1 _ hs.y,hf1 _ hs.y,hp2 _ hs.r,hf2 _ hs.r]
 refine au (fun(y:List Ev×Int×Int×Int×Int×Int×Int×List Ev×List (List aj)×List aj×List aj×Unit)=>y.1=s.events∧y.2.1=s.events.length∧y.2.2.2.2.2.1=s.fin∧y.2.2.2.2.2.2.1=s.k∧y.2.2.2.2.2.2.2.1=s.events.take y.2.2.1.toNat∧y.2.2.2.2.2.2.2.2.1=s.regs∧y.2.2.2.2.2.2.2.2.2.1=s.x∧y.2.2.2.2.2.2.2.2.2.2.1=s.y∧0≤y.2.2.1∧y.2.2.1≤s.events.length) (fun y=>(s.events.length-y.2.2.1).toNat) ⟨rfl,rfl,rfl,rfl,by simp,rfl,rfl,rfl,by simp,by simp⟩ ?_
 rintro⟨(l:List Ev),(m:Int),(i:Int),(q1:Int),(q2:Int),(q3:Int),(q4:Int),(o:List Ev),(r:List (List aj)),(u:List aj),(v:List aj),⟨⟩⟩ hI
 dsimp only at hI ⊢
 obtain⟨rfl,rfl,rfl,rfl,rfl,rfl,rfl,rfl,h1,h2⟩:=hI
 have he:=hs.e.at i.toNat
 simp (disch:=omega) only [RR,RB,hp1 _ he.1,hf1 _ he.1,hp1 _ he.2.1,hf1 _ he.2.1,hp2 _ he.2.2,hf2 _ he.2.2]
 refine⟨fun h4=>⟨by omega,by omega,?_,⟨jy h1 h4 rfl,by omega,by omega⟩,by omega⟩,fun h4=>by rw [List.take_of_length_le (by omega)]⟩
 have:=List.length_take_le' i.toNat s.events
 simp only [List.length_cons,List.length_nil];omega
end Go.TX.F
namespace Go.TX.F
open Go Go.AE Go.TX
theorem aoX {p1:Int×Unit→Bool} {f1:Int×Unit→List aj×Unit} (hp1:∀n,p1 (n,())=true) (hf1:∀n,f1 (n,())=(iq n,()))
  {p2:List Atom×Atom×Unit→Bool} {f2:List Atom×Atom×Unit→List Atom×Int×Unit} (hp2:∀(t:List Atom) a,t.length<1000000000→ShA a→p2 (t,a,())=true) (hf2:∀(t:List Atom) a,t.length<1000000000→ShA a→f2 (t,a,())=((bJ t a).1,(bJ t a).2,()))
  (kd k:Int) (t:List Atom) (fl:Bool) (ht:t.length<1000000000):
  Yx (std 0) p1 f1 p2 f2 (kd,k,t,fl,()) (fun y=>y=if(bJ t ⟨kd,k,[],[]⟩).2<0 then([],t,true,())else(iq (bJ t ⟨kd,k,[],[]⟩).2,(bJ t ⟨kd,k,[],[]⟩).1,fl,())):=by
 have sa:ShA ⟨kd,k,[],[]⟩:=⟨nu,nu⟩
 dsimp only [Yx,Alg.cl,Alg.cg,Alg.rb,Alg.bd,Alg.l1,Tup.q,Tup.o]
 simp (disch:=omega) only [RR,hp1,hf1,hp2 _ _ ht sa,hf2 _ _ ht sa]
 exact⟨fun h=>by rw [if_pos h],fun h=>by rw [if_neg h]⟩
theorem UZ (t:List Atom) (n:Nat):rN t (n+1)=((bJ (rN t n).1 ⟨1,n,[],[]⟩).1,(rN t n).2++ [iq (bJ (rN t n).1 ⟨1,n,[],[]⟩).2]):=rfl
theorem aoY {p1:Int×Int×List Atom×Bool×Unit→Bool} {f1:Int×Int×List Atom×Bool×Unit→List aj×List Atom×Bool×Unit} (hp1:∀kd k (t:List Atom) fl,t.length<1000000000→p1 (kd,k,t,fl,())=true)
  (hf1:∀kd k (t:List Atom) fl,t.length<1000000000→f1 (kd,k,t,fl,())=if(bJ t ⟨kd,k,[],[]⟩).2<0 then([],t,true,())else(iq (bJ t ⟨kd,k,[],[]⟩).2,(bJ t ⟨kd,k,[],[]⟩).1,fl,()))
  (t:List Atom) (fl:Bool) (ht:aH t) (hl:t.length≤196):YC (std 0) p1 f1 (t,fl,()) (fun y=>y=((rN t 4).1,fl,(rN t 4).2,())):=by
 dsimp only [YC,Alg.cl,Alg.cg,Alg.rb,Alg.bd,Alg.l1,Tup.q,Tup.o]
 refine au (fun(y:Int×List Atom×Bool×List (List aj)×Unit)=>0≤y.1∧y.1≤4∧y.2.2.1=fl∧y.2.1=(rN t y.1.toNat).1∧y.2.2.2.1=(rN t y.1.toNat).2) (fun y=>(4-y.1).toNat) ⟨by simp,by simp,rfl,rfl,rfl⟩ ?_
 rintro⟨(i:Int),(u:List Atom),(g:Bool),(r:List (List aj)),⟨⟩⟩ hI
 dsimp only at hI ⊢
 obtain⟨h1,h2,rfl,rfl,rfl⟩:=hI
 have ok:=Ju ht hl i.toNat (by omega)
 have l1:=ok.tl
 have l2:=ok.r4
 simp (disch:=omega) only [RR,hp1 _ _ (rN t i.toNat).1 _ (by omega),hf1 _ _ (rN t i.toNat).1 _ (by omega),List.length_cons,List.length_nil]
 refine⟨fun h3=> ?_,fun h3=> ?_⟩
 ·have hp:=KA ht hl (n:=i.toNat) (by omega)
  rw [show((i.toNat:Nat):Int)=i by omega]at hp
  rw [if_neg (by omega)]
  have e:(i+1).toNat=i.toNat+1:=by omega
  have e2:((i.toNat:Nat):Int)=i:=by omega
  refine⟨by omega,⟨by omega,by omega,rfl,?_,?_⟩,by omega⟩
  ·rw [e,UZ,e2]
  ·rw [e,UZ,e2]
 ·rw [show i.toNat=4 by omega]
theorem aoZ (a:List (List aj)) (h0:0<a.length) (h1:a.length<1000000000):YP (std 0) (a,()) (fun y=>y=(a,a,())):=by
 dsimp only [YP,Alg.cl,Alg.cg,Alg.rb,Alg.bd,Alg.l1,Tup.q,Tup.o]
 simp (disch:=omega) only [RR,List.length_nil]
 exact⟨by omega,by omega,rfl⟩
theorem ao0 {p2:List Atom×Unit→Bool} {f2:List Atom×Unit→List Atom×Unit} (hp2:∀a,ShT a→p2 (a,())=true) (hf2:∀a,ShT a→f2 (a,())=(a,()))
  {p1:List Atom×Bool×Unit→Bool} {f1:List Atom×Bool×Unit→List Atom×Bool×List (List aj)×Unit} (hp1:∀(t:List Atom) fl,aH t→t.length≤196→p1 (t,fl,())=true) (hf1:∀(t:List Atom) fl,aH t→t.length≤196→f1 (t,fl,())=((rN t 4).1,fl,(rN t 4).2,())):
  YI (std 0) p2 f2 p1 f1 () (fun y=>y.1=t4):=by
 have s4:ShT t4:=Z6.1.sh
 unfold t4 at s4 ⊢
 dsimp only [YI,Alg.cl,Alg.cg,Alg.rb,Alg.bd,Alg.l1,Tup.q,Tup.o]
 simp (disch:=omega) only [RR,hp1 [] false vP (by simp),hf1 [] false vP (by simp),hp2 _ s4,hf2 _ s4]
theorem ao1 {p1:List aj×Unit→Bool} {f1:List aj×Unit→Int×Bool×Unit} (hp1:∀a,Sh a→p1 (a,())=true) (hf1:∀a,Sh a→f1 (a,())=((eu a).1,(eu a).2,()))
  {p2:List aj×Unit→Bool} {f2:List aj×Unit→Bool×Unit} (hp2:∀a,Sh a→p2 (a,())=true) (hf2:∀a,Sh a→f2 (a,())=(bp (aU a),()))
  {p3:List aj×List aj×Unit→Bool} {f3:List aj×List aj×Unit→Int×Unit} (hp3:∀a b,Sh a→p3 (a,b,())=true) (hf3:∀a b,Sh a→f3 (a,b,())=(iT a b,()))
  {p4:Sym×Unit→Bool} {f4:Sym×Unit→Int×Int×List Ev×List (List aj)×List aj×List aj×Unit} (hp4:∀s,ShY s→p4 (s,())=true) (hf4:∀s,ShY s→f4 (s,())=(s.fin,s.k,s.events,s.regs,s.x,s.y,()))
  {p5:List aj×List aj×Unit→Bool} {f5:List aj×List aj×Unit→Bool×Unit} (hp5:∀a b,Sh a→p5 (a,b,())=true) (hf5:∀a b,Sh a→f5 (a,b,())=(decide (iT a b=0),()))
  {p6:Int×Int×Int×Unit→Bool} {f6:Int×Int×Int×Unit→Bool×Unit} (hp6:∀r a b,p6 (r,a,b,())=true) (hf6:∀r a b,f6 (r,a,b,())=(inB a 0 65535&&inB b 0 65535&& (decide (r=1∧a=b∨r=2∧a<b)),()))
  (s:Sym) (n:Int) (hs:ShY s) (h0:0≤s.fin) (h1:s.fin≤4):Zc (std 0) p1 f1 p2 f2 p3 f3 p4 f4 p5 f5 p6 f6 (s,n,()) (fun y=>y=(symEnd s n,())):=by
 dsimp only [Zc,Alg.cl,Alg.cg,Alg.rb,Alg.bd,Alg.l1,Tup.q,Tup.o]
 simp (disch:=omega) only [RR,RB,hp1 _ hs.x,hf1 _ hs.x,hp1 _ hs.y,hf1 _ hs.y,hp2 _ hs.x,hf2 _ hs.x,hp2 _ hs.y,hf2 _ hs.y,hp3 _ _ hs.x,hf3 _ _ hs.x,hp4 s hs,hf4 s hs,hp5 _ _ hs.x,hf5 _ _ hs.x,hp6,hf6]
 have xy:iT s.x s.y=0↔s.x=s.y:=l5
 have rx:(eu s.x).2=true→inB (eu s.x).1 0 65535=true:=fun h=>fC.2 (Hz h).2.2
 have ry:(eu s.y).2=true→inB (eu s.y).1 0 65535=true:=fun h=>fC.2 (Hz h).2.2
 unfold symEnd
 refine⟨fun h=> ?_,fun h=>⟨fun g=> ?_,fun g=>⟨fun k=> ?_,fun k=>⟨fun l=>⟨fun m=> ?_,fun m=> ?_⟩,fun l=>⟨fun m=> ?_,fun m=> ?_⟩⟩⟩⟩⟩
 ·rw [if_pos (by rw [kZ,Bool.and_eq_false_iff];exact h)];rfl
 all_goals rw [if_neg (by rw [kZ,h.1,h.2];simp)]
 ·rw [if_pos g]
 all_goals rw [if_neg (show¬(s.fin=2∧(eu s.x).2=true) by
  rintro⟨a,b⟩;rw [decide_eq_true a,b]at g;cases g)]
 ·rw [if_pos k]
 all_goals rw [if_neg (show¬(s.fin≠3∧s.fin≠4) by
  rintro⟨a,b⟩;rw [decide_eq_false a,decide_eq_false b]at k;cases k)]
 ·rw [if_pos (by rw [←xy];exact l),if_neg]
  rintro(⟨q1,q2⟩ | ⟨⟨q1,q2⟩,q3⟩)
  ·have:=m.1;rw [decide_eq_true (xy.2 q1),decide_eq_true q2]at this;cases this
  ·have:=m.2
   rw [q1,q2,rx q1,ry q2,decide_eq_true (by omega)]at this;cases this
 ·rw [if_pos (by rw [←xy];exact l),if_pos]
  rcases m with⟨q1,q2⟩ | ⟨q1,_,q3⟩
  ·exact Or.inl ⟨xy.1 q1,q2⟩
  ·exact Or.inr ⟨q1,by omega⟩
 all_goals rw [if_neg (show¬(s.x=s.y∨(eu s.x).2=true∧(eu s.y).2=true) by
  rintro(q | ⟨q1,q2⟩)
  ·exact l.1 (xy.2 q)
  ·have:=l.2;rw [q1,q2]at this;cases this)]
 ·rw [if_pos m]
 ·rw [if_neg]
  rintro⟨a,b⟩;rw [decide_eq_true a,decide_eq_true b]at m;cases m
end Go.TX.F
namespace Go.TX.F
open Go Go.AE Go.TX
noncomputable def SW (t:List Atom) (b:Blk) (i:Nat):SS:=(b.ops.take i).foldl stp (s0 t)
structure At (t:List Atom) (b:Blk) (i:Nat) (ld inn:Int) (tb:List Atom) (V:List (List aj)) (ev:List Ev) (rg:List (List aj)):Prop where
 ld:ld=(SW t b i).ld
 inn:inn=(SW t b i).inn
 tb:tb=(SW t b i).t
 V:V=(SW t b i).vals++List.replicate (b.ops.length-i) []
 ev:ev=(SW t b i).evs
 rg:rg=(SW t b i).regs
theorem At.arY {t:List Atom} {b:Blk} {i:Nat} {ld inn:Int} {tb:List Atom} {V:List (List aj)} {ev:List Ev} {rg:List (List aj)} (h:At t b i ld inn tb V ev rg) (hv:(SW t b i).vals.length=i) (hi:i≤b.ops.length):V.length=b.ops.length:=by
 rw [h.V,List.length_append,List.length_replicate,hv];omega
theorem U0 (t:List Atom):∀(l:List IOp) (s:SS),(l.foldl stp s).evs.length≤s.evs.length+l.length
 | [],s=>Nat.le_refl _
 | o::r,s=>by
  rw [List.foldl_cons,List.length_cons]
  have h1:=U0 t r (stp s o)
  have h2:(stp s o).evs.length≤s.evs.length+1:=by
   show(nE s o).length≤_
   unfold nE;split
   ·rw [List.length_append];exact Nat.le_refl _
   ·omega
  omega
theorem aif {t:List Atom} {b:Blk} (i:Nat) (hi:i≤b.ops.length):(SW t b i).evs.length≤i:=by
 have:=U0 t (b.ops.take i) (s0 t)
 rw [List.length_take,Nat.min_eq_left hi]at this
 show((b.ops.take i).foldl stp (s0 t)).evs.length≤i
 have e:(s0 t).evs.length=0:=rfl
 omega
theorem acn {t:List Atom} {b:Blk} {i:Nat} (hi:i<b.ops.length):SW t b (i+1)=stp (SW t b i) (b.ops.getD i default):=by
 unfold SW;rw [nD _ _ hi,getD_lt hi]
theorem At.next {t:List Atom} {b:Blk} {i:Nat} {ld inn:Int} {tb:List Atom} {V:List (List aj)} {ev:List Ev} {rg:List (List aj)} (h:At t b i ld inn tb V ev rg) (hv:(SW t b i).vals.length=i) (hi:i<b.ops.length) {o:IOp} (ho:b.ops.getD i default=o)
  {ld' Z9:Int} {tb':List Atom} {V':List (List aj)} {ev':List Ev} {rg':List (List aj)} (h1:ld'=if o.kind=4 then ld+1 else ld) (h2:Z9=if o.kind=6 then inn+1 else inn) (h3:tb'=nT (SW t b i) o) (h4:V'=V.set i (nV (SW t b i) o)) (h5:ev'=nE (SW t b i) o) (h6:rg'=nR (SW t b i) o):At t b (i+1) ld' Z9 tb' V' ev' rg':=by
 have e:=acn (t:=t) hi
 rw [ho]at e
 refine⟨?_,?_,?_,?_,?_,?_⟩<;>rw [e]
 ·rw [h1,h.ld];rfl
 ·rw [h2,h.inn];rfl
 ·exact h3
 ·rw [h4,h.V]
  show _=((SW t b i).vals++ [nV (SW t b i) o])++_
  rw [List.set_append_right _ _ (by omega),hv,Nat.sub_self,show b.ops.length-i=(b.ops.length- (i+1))+1 by omega,List.replicate_succ,List.set_cons_zero,List.append_assoc];rfl
 ·exact h5
 ·exact h6
set_option maxHeartbeats 1000000 in
theorem ao2 {p1:Blk×Unit→Bool} {f1:Blk×Unit→Bool×Bool×Bool×Unit} (hp1:∀b,p1 (b,())=true) (hf1:∀b,f1 (b,())=(decide (b.fin≠1),decide (3≤b.fin),decide (b.fin≠2),()))
  {p2:Blk×Unit→Bool} {f2:Blk×Unit→Bool×Unit} (hp2:∀b,b.ops.length<1000000000→p2 (b,())=true) (hf2:∀b,b.ops.length<1000000000→f2 (b,())=(bp (dL b),()))
  {p3:IOp×Unit→Bool} {f3:IOp×Unit→Bool×Unit} (hp3:∀o,p3 (o,())=true) (hf3:∀o,f3 (o,())=(decide (evO o),()))
  {p4:IOp×Unit→Bool} {f4:IOp×Unit→Bool×Bool×Bool×Bool×Unit} (hp4:∀o,p4 (o,())=true) (hf4:∀o,f4 (o,())=(decide (hX o),decide (hY o),decide (hK o),decide (evO o),()))
  {p5:Int×Unit→Bool} {f5:Int×Unit→List aj×Unit} (hp5:∀n,p5 (n,())=true) (hf5:∀n,f5 (n,())=(aY n,()))
  {p6:Sym×Int×Unit→Bool} {f6:Sym×Int×Unit→Sym×Unit} (hp6:∀s n,ShY s→0≤s.fin→s.fin≤4→p6 (s,n,())=true) (hf6:∀s n,ShY s→0≤s.fin→s.fin≤4→f6 (s,n,())=(symEnd s n,()))
  {p7:List Atom×Unit→Bool} {f7:List Atom×Unit→Bool×Unit} (hp7:∀a,ShT a→p7 (a,())=true) (hf7:∀a,ShT a→f7 (a,())=(bp (aH a),()))
  {p8:List Atom×Unit→Bool} {f8:List Atom×Unit→List Atom×Unit} (hp8:∀a,ShT a→p8 (a,())=true) (hf8:∀a,ShT a→f8 (a,())=(a,()))
  {p9:List Atom×Int×List aj×List aj×Unit→Bool} {f9:List Atom×Int×List aj×List aj×Unit→List Atom×List aj×Bool×Unit} (hp9:∀(t:List Atom) op x y,t.length<1000000000→Sh x→Sh y→p9 (t,op,x,y,())=true)
  (hf9:∀(t:List Atom) op x y,t.length<1000000000→Sh x→Sh y→(f9 (t,op,x,y,())).1=(tDo t op x y).1∧(f9 (t,op,x,y,())).2.1=(tDo t op x y).2∧(f9 (t,op,x,y,())).2.2.1=tOk t op x y)
  {p10:Int×Int×List Atom×Bool×Unit→Bool} {f10:Int×Int×List Atom×Bool×Unit→List aj×List Atom×Bool×Unit} (ao3:∀kd k (t:List Atom) fl,t.length<1000000000→p10 (kd,k,t,fl,())=true)
  (arZ:∀kd k (t:List Atom) fl,t.length<1000000000→f10 (kd,k,t,fl,())=if(bJ t ⟨kd,k,[],[]⟩).2<0 then([],t,true,())else(iq (bJ t ⟨kd,k,[],[]⟩).2,(bJ t ⟨kd,k,[],[]⟩).1,fl,()))
  {p11:List Atom×Bool×Unit→Bool} {f11:List Atom×Bool×Unit→List Atom×Bool×List (List aj)×Unit} (ar0:∀(t:List Atom) fl,aH t→t.length≤196→p11 (t,fl,())=true) (ar1:∀(t:List Atom) fl,aH t→t.length≤196→f11 (t,fl,())=((rN t 4).1,fl,(rN t 4).2,()))
  {p12:List (List aj)×Unit→Bool} {f12:List (List aj)×Unit→List (List aj)×List (List aj)×Unit} (ao4:∀a:List (List aj),0<a.length→a.length<1000000000→p12 (a,())=true) (ao5:∀a:List (List aj),0<a.length→a.length<1000000000→f12 (a,())=(a,a,()))
  (t:List Atom) (b:Blk) (ht:ShT t) (hb:b.ops.length<1000000000):Zd (std 0) p1 f1 p2 f2 p3 f3 p4 f4 p5 f5 p6 f6 p7 f7 p8 f8 p9 f9 p10 f10 p11 f11 p12 f12 (t,b,()) (fun y=>y=((bI t b).1,(bI t b).2,())):=by
 have hlt:=ht.1
 dsimp only [Zd,Alg.cl,Alg.cg,Alg.rb,Alg.bd,Alg.l1,Tup.q,Tup.o]
 simp (disch:=omega) only [RR,RB,hp7 t ht,hf7 t ht,hp2 b hb,hf2 b hb]
 by_cases c:aH t∧t.length≤100∧dL b
 case neg=>
  refine⟨fun _=> ?_,fun h=> ?_⟩
  ·unfold bI;rw [fM c];rfl
  ·exact absurd ⟨bL.1 h.1.1,by omega,bL.1 h.2⟩ c
 obtain⟨c1,c2,c3⟩:=c
 simp (disch:=omega) only [RR,dD c1,dD c3,ar0 t false c1 (by omega),ar1 t false c1 (by omega)]
 have sz:=c3.sz
 have hop:=c3.op
 have hk3:=c3.k3
 have i0:=HZ c1 (by omega)
 have siw:∀j:Nat,j≤b.ops.length→SI (t.length+4) j (SW t b j):=fun j hj=>by
  have:=(Au (b.ops.take j) 0 (s0 t) i0 (fun o ho=>hk3 o (List.mem_of_mem_take ho)) (by rw [List.length_take];omega) (by rw [List.length_take];omega)).1
  rw [List.length_take,Nat.min_eq_left hj,Nat.zero_add]at this;exact this
 refine⟨fun h=>absurd h (by omega),fun _=>⟨by omega,by omega,?_⟩⟩
 refine au (fun(y:Int×Int×List IOp×Int×Int×Blk×Int×Int×List Atom×Bool×Int×Int×List (List aj)×List Ev×List (List aj)×Unit)=>y.2.2.2.2.2.1=b∧y.2.2.1=b.ops∧y.2.2.2.1=b.ops.length∧y.2.2.2.2.2.2.2.2.2.1=false∧y.2.2.2.2.2.2.2.2.2.2.1=b.fin∧y.2.2.2.2.2.2.2.2.2.2.2.1=b.k∧
   0≤y.2.2.2.2.1∧y.2.2.2.2.1≤b.ops.length∧At t b y.2.2.2.2.1.toNat y.1 y.2.1 y.2.2.2.2.2.2.2.2.1 y.2.2.2.2.2.2.2.2.2.2.2.2.1 y.2.2.2.2.2.2.2.2.2.2.2.2.2.1 y.2.2.2.2.2.2.2.2.2.2.2.2.2.2.1) (fun y=>(b.ops.length-y.2.2.2.2.1).toNat)
  ⟨rfl,rfl,rfl,rfl,rfl,rfl,by simp,by simp,⟨rfl,rfl,rfl,rfl,rfl,rfl⟩⟩ ?_
 rintro⟨(ld:Int),(inn:Int),(ops:List IOp),(n:Int),(i:Int),(b':Blk),(z1:Int),(z2:Int),(tb:List Atom),(fl:Bool),(fin:Int),(kk:Int),(V:List (List aj)),(ev:List Ev),(rg:List (List aj)),⟨⟩⟩ hI
 dsimp only at hI ⊢
 obtain⟨e1,e2,e3,e4,e5,e6,h1,h2,hA⟩:=hI
 subst e1 e2 e3 e4 e5 e6
 have hl:V.length=b'.ops.length:=hA.arY (siw i.toNat (by omega)).vl (by omega)
 have si:=siw i.toNat (by omega)
 obtain⟨a1,a2,a3,a4,a5,a6⟩:=hA
 have tl:tb.length<1000000000:=by rw [a3];have:=si.tl;omega
 have r4:rg.length=4:=by rw [a6];exact si.r4
 have evl:ev.length≤i.toNat:=by rw [a5];exact aif i.toNat (by omega)
 by_cases h7:i<b'.ops.length
 case neg=>
  have en:=c3.en
  have hf:=en.f
  have hpc:=c3.pc
  have hln:=c3.ln
  have ein:i.toNat=b'.ops.length:=by omega
  have eS:SW t b' i.toNat=gN t b':=by unfold SW gN;rw [ein,List.take_of_length_le (Nat.le_refl _)]
  rw [eS]at a1 a2 a3 a4 a5 a6 si
  have eV:V=(gN t b').vals:=by rw [a4,ein,Nat.sub_self];simp
  clear a4
  have pk:=KE (b:=b') si
  have eR:=yx c1 c2 c3
  have sh:ShY (lD b' (gN t b')):=by
   have i0:=HZ c1 (by omega)
   have hs:=RY b'.ops 0 (s0 t) i0 hk3 (by omega) (by omega) ⟨by simp [s0],fun e he=>absurd he (by simp [s0])⟩
   exact⟨⟨by have:=hs.1;show(b'.ops.foldl stp (s0 t)).evs.length<_;omega,hs.2⟩,si.regs,pk.1.sh,pk.2.sh⟩
  have st:=si.tok.sh
  have q6:=hp6 (lD b' (gN t b')) (b'.pc+b'.len) sh (by show 0≤b'.fin;omega) hf.2
  have r6:=hf6 (lD b' (gN t b')) (b'.pc+b'.len) sh (by show 0≤b'.fin;omega) hf.2
  subst a1 a2 a3 a5 a6 eV
  have x1:=en.x1
  have y1:=en.y1
  have sl:=si.vl
  have E:lD b' (gN t b')=⟨(gN t b').evs,(gN t b').regs,b'.fin,if b'.fin=1 then []else(((gN t b').vals).getD (b'.x).toNat default),if 3≤b'.fin then(((gN t b').vals).getD (b'.y).toNat default)else [],b'.k⟩:=rfl
  rw [E]at q6 r6
  rcases(by omega:b'.fin=1∨b'.fin=2∨3≤b'.fin)with c | c | c
  ·have n2:¬3≤b'.fin:=by omega
   rw [if_pos c,if_neg n2]at q6 r6
   simp (disch:=omega) only [RR,RB,h7,hp1,hf1,decide_eq_false n2,c,ne_eq,not_true_eq_false,decide_false,hp8 _ st,hf8 _ st]
   rw [c]at q6 r6
   rw [eR,E,if_pos c,if_neg n2,c]
   exact⟨fun h=>absurd h (by omega),fun _=>⟨q6,by rw [r6]⟩⟩
  ·have n1:b'.fin≠1:=by omega
   have n2:¬3≤b'.fin:=by omega
   obtain⟨v1,v2,_⟩:=x1 n1
   rw [if_neg n1,if_neg n2]at q6 r6
   simp (disch:=omega) only [RR,RB,h7,hp1,hf1,decide_eq_true n1,decide_eq_false n2,hp8 _ st,hf8 _ st]
   rw [eR,E,if_neg n1,if_neg n2]
   exact⟨v1,by omega,v1,by omega,q6,by rw [r6]⟩
  ·have n1:b'.fin≠1:=by omega
   obtain⟨v1,v2,_⟩:=x1 n1
   obtain⟨w1,w2,_⟩:=y1 c
   rw [if_neg n1,if_pos c]at q6 r6
   simp (disch:=omega) only [RR,RB,h7,hp1,hf1,decide_eq_true n1,decide_eq_true c,hp8 _ st,hf8 _ st]
   rw [eR,E,if_neg n1,if_pos c]
   exact⟨v1,by omega,v1,by omega,w1,by omega,w1,by omega,q6,by rw [r6]⟩
 have hok:=hop i h1 h7
 have nxt:=fun {ld' Z9:Int} {tb':List Atom} {V':List (List aj)} {ev':List Ev} {rg':List (List aj)}=>At.next (t:=t) (b:=b') (i:=i.toNat) (o:=((b'.ops).getD (i).toNat default)) ⟨a1,a2,a3,a4,a5,a6⟩ si.vl (by omega) rfl (ld':=ld') (Z9:=Z9) (tb':=tb') (V':=V') (ev':=ev') (rg':=rg')
 have ei:(i+1).toNat=i.toNat+1:=by omega
 have vx:∀j:Int,0≤j→j<i→((V).getD (j).toNat default)=(((SW t b' i.toNat).vals).getD (j).toNat default):=fun j j1 j2=>by
  have:=si.vl
  rw [a4,getD_lt (by rw [List.length_append];omega),getD_lt (by omega),List.getElem_append_left]
 have ex:hX ((b'.ops).getD (i).toNat default)→((V).getD ((((b'.ops).getD (i).toNat default)).x).toNat default)=xOf (SW t b' i.toNat) ((b'.ops).getD (i).toNat default):=fun h=>by
  unfold xOf;rw [if_pos h];exact vx _ (hok.x1 h).1 (hok.x1 h).2.1
 have ey:hY ((b'.ops).getD (i).toNat default)→((V).getD ((((b'.ops).getD (i).toNat default)).y).toNat default)=yOf (SW t b' i.toNat) ((b'.ops).getD (i).toNat default):=fun h=>by
  unfold yOf;rw [if_pos h];exact vx _ (hok.y1 h).1 (hok.y1 h).2.1
 have v0:V.set i.toNat []=V:=by
  have:=si.vl
  rw [a4,List.set_append_right _ _ (by omega),this,Nat.sub_self,show b'.ops.length-i.toNat=(b'.ops.length- (i.toNat+1))+1 by omega,List.replicate_succ,List.set_cons_zero]
 obtain⟨sn,so⟩:=Kz (o:=((b'.ops).getD (i).toNat default)) si hok.k3 (by omega) (by omega)
 have gl:=si.ld
 have gi:=si.inn
 have shx:=(si.x ((b'.ops).getD (i).toNat default)).1.sh
 have shy:=(si.y ((b'.ops).getD (i).toNat default)).1.sh
 generalize hs:SW t b' i.toNat=s at*
 generalize ho:((b'.ops).getD (i).toNat default)=o at*
 have kd:=hok.kd
 subst a1 a2 a3 a5 a6
 have L0:o.kind≠4→s.ld=if o.kind=4 then s.ld+1 else s.ld:=fun h=>by rw [if_neg h]
 have I0:o.kind≠6→s.inn=if o.kind=6 then s.inn+1 else s.inn:=fun h=>by rw [if_neg h]
 have T0:o.kind≠3→o.kind≠4→o.kind≠6→s.t=nT s o:=fun h3 h4 h6=>by unfold nT;rw [if_neg h3,if_neg (by omega)]
 have R0:o.kind≠8→s.regs=nR s o:=fun h=>by unfold nR;rw [if_neg h]
 have E0:¬evO o→s.evs=nE s o:=fun h=>by unfold nE;rw [if_neg h]
 have V0:o.kind=5∨o.kind=7∨o.kind=8→V=V.set i.toNat (nV s o):=fun h=>by
  rw [show nV s o=[] by unfold nV;rw [if_neg (by omega),if_neg (by omega),if_neg (by omega),if_neg (by omega)],v0]
 have P0:∀kd k,0≤(bJ s.t ⟨kd,k,[],[]⟩).2→f10 (kd,k,s.t,false,())=(iq (bJ s.t ⟨kd,k,[],[]⟩).2,(bJ s.t ⟨kd,k,[],[]⟩).1,false,()):=fun kd k h=>by
  rw [arZ _ _ _ _ tl,if_neg (by omega)]
 have y0:¬hY o→yOf s o=[]:=fun h=>by unfold yOf;rw [if_neg h]
 have x0:¬hX o→xOf s o=[]:=fun h=>by unfold xOf;rw [if_neg h]
 rcases(by omega:o.kind=1∨o.kind=2∨o.kind=3∨o.kind=4∨o.kind=5∨o.kind=6∨o.kind=7∨o.kind=8)with c | c | c | c | c | c | c | c
 ·have dX:decide (hX o)=false:=decide_eq_false (by unfold hX;omega)
  have dY:decide (hY o)=false:=decide_eq_false (by unfold hY;omega)
  have dE:decide (evO o)=false:=decide_eq_false (by unfold evO;omega)
  have N:At t b' (i.toNat+1) s.ld s.inn s.t (V.set i.toNat (aY o.k)) s.evs s.regs:=nxt (L0 (by omega)) (I0 (by omega)) (T0 (by omega) (by omega) (by omega)) (by unfold nV;rw [if_pos c]) (E0 (by unfold evO;omega)) (R0 (by omega))
  simp (disch:=omega) only [RR,RB,ho,h7,hp4,hf4,hp3,hf3,dX,dY,dE,c,Int.reduceEq,List.length_cons,List.length_nil,hp5,hf5]
  repeat' apply And.intro
  all_goals first | omega | (rw [ei];exact N)
 ·have dX:decide (hX o)=false:=decide_eq_false (by unfold hX;omega)
  have dY:decide (hY o)=false:=decide_eq_false (by unfold hY;omega)
  have dE:decide (evO o)=false:=decide_eq_false (by unfold evO;omega)
  have k2:=hok.k2 (Or.inl c)
  have N:At t b' (i.toNat+1) s.ld s.inn s.t (V.set i.toNat ((s.regs).getD (o.k).toNat default)) s.evs s.regs:=nxt (L0 (by omega)) (I0 (by omega)) (T0 (by omega) (by omega) (by omega)) (by unfold nV;rw [if_neg (by omega),if_pos c]) (E0 (by unfold evO;omega)) (R0 (by omega))
  simp (disch:=omega) only [RR,RB,ho,h7,hp4,hf4,hp3,hf3,dX,dY,dE,c,Int.reduceEq,List.length_cons,List.length_nil,r4]
  repeat' apply And.intro
  all_goals first | omega | (rw [ei];exact N)
 ·have dX:decide (hX o)=true:=decide_eq_true (by unfold hX;omega)
  have dY:decide (hY o)=true:=decide_eq_true (by unfold hY;omega)
  have dE:decide (evO o)=false:=decide_eq_false (by unfold evO;omega)
  have v1:=hok.x1 (by unfold hX;omega)
  have v2:=hok.y1 (by unfold hY;omega)
  have u1:=v1.2.1
  have u2:=v2.2.1
  have w1:=v1.1
  have w2:=v2.1
  obtain⟨d1,d2,d3⟩:=hf9 s.t o.k _ _ tl shx shy
  have d4:=(so.d c).ok
  have N:At t b' (i.toNat+1) s.ld s.inn (tDo s.t o.k (xOf s o) (yOf s o)).1 (V.set i.toNat (tDo s.t o.k (xOf s o) (yOf s o)).2) s.evs s.regs:=nxt (L0 (by omega)) (I0 (by omega)) (by unfold nT;rw [if_pos c]) (by unfold nV;rw [if_neg (by omega),if_neg (by omega),if_pos c]) (E0 (by unfold evO;omega)) (R0 (by omega))
  simp (disch:=omega) only [RR,RB,ho,h7,hp4,hf4,hp3,hf3,dX,dY,dE,c,Int.reduceEq,List.length_cons,List.length_nil,ex (by unfold hX;omega),ey (by unfold hY;omega),hp9 s.t o.k _ _ tl shx shy,d1,d2,d3,d4]
  repeat' apply And.intro
  all_goals first | omega | (rw [ei];exact N)
 ·have dX:decide (hX o)=true:=decide_eq_true (by unfold hX;omega)
  have dY:decide (hY o)=false:=decide_eq_false (by unfold hY;omega)
  have dE:decide (evO o)=true:=decide_eq_true (by unfold evO;omega)
  have v1:=hok.x1 (by unfold hX;omega)
  have u1:=v1.2.1
  have w1:=v1.1
  have ea:aOf s o=⟨2,s.ld,[],[]⟩:=by unfold aOf;rw [if_pos c]
  have pp:=so.p (Or.inl c)
  rw [ea]at pp
  have N:At t b' (i.toNat+1) (s.ld+1) s.inn (bJ s.t ⟨2,s.ld,[],[]⟩).1 (V.set i.toNat (iq (bJ s.t ⟨2,s.ld,[],[]⟩).2)) (s.evs++ [⟨4,o.at_,xOf s o,[],s.regs⟩]) s.regs:=nxt (by rw [if_pos c]) (I0 (by omega)) (by unfold nT;rw [if_neg (by omega),if_pos (Or.inl c),ea]) (by unfold nV;rw [if_neg (by omega),if_neg (by omega),if_neg (by omega),if_pos (Or.inl c),ea]) (by unfold nE;rw [if_pos (by unfold evO;omega),if_pos (Or.inl c),c,y0 (by unfold hY;omega)]) (R0 (by omega))
  simp (disch:=omega) only [RR,RB,ho,h7,hp4,hf4,hp3,hf3,dX,dY,dE,c,Int.reduceEq,List.length_cons,List.length_nil,ex (by unfold hX;omega),ao4 s.regs (by omega) (by omega),ao5 s.regs (by omega) (by omega),ao3 2 s.ld s.t false tl,P0 2 s.ld pp]
  repeat' apply And.intro
  all_goals first | omega | (rw [ei];exact N)
 ·have dX:decide (hX o)=true:=decide_eq_true (by unfold hX;omega)
  have dY:decide (hY o)=true:=decide_eq_true (by unfold hY;omega)
  have dE:decide (evO o)=true:=decide_eq_true (by unfold evO;omega)
  have v1:=hok.x1 (by unfold hX;omega)
  have v2:=hok.y1 (by unfold hY;omega)
  have u1:=v1.2.1
  have u2:=v2.2.1
  have w1:=v1.1
  have w2:=v2.1
  have N:At t b' (i.toNat+1) s.ld s.inn s.t V (s.evs++ [⟨5,o.at_,xOf s o,yOf s o,s.regs⟩]) s.regs:=nxt (L0 (by omega)) (I0 (by omega)) (T0 (by omega) (by omega) (by omega)) (V0 (by omega)) (by unfold nE;rw [if_pos (by unfold evO;omega),if_pos (Or.inr c),c]) (R0 (by omega))
  simp (disch:=omega) only [RR,RB,ho,h7,hp4,hf4,hp3,hf3,dX,dY,dE,c,Int.reduceEq,List.length_cons,List.length_nil,ex (by unfold hX;omega),ey (by unfold hY;omega),ao4 s.regs (by omega) (by omega),ao5 s.regs (by omega) (by omega)]
  repeat' apply And.intro
  all_goals first | omega | (rw [ei];exact N)
 ·have dX:decide (hX o)=false:=decide_eq_false (by unfold hX;omega)
  have dY:decide (hY o)=false:=decide_eq_false (by unfold hY;omega)
  have dE:decide (evO o)=true:=decide_eq_true (by unfold evO;omega)
  have ea:aOf s o=⟨3,s.inn,[],[]⟩:=by unfold aOf;rw [if_neg (by omega)]
  have pp:=so.p (Or.inr c)
  rw [ea]at pp
  have N:At t b' (i.toNat+1) s.ld (s.inn+1) (bJ s.t ⟨3,s.inn,[],[]⟩).1 (V.set i.toNat (iq (bJ s.t ⟨3,s.inn,[],[]⟩).2)) (s.evs++ [⟨6,o.at_,[],[],[]⟩]) s.regs:=nxt (L0 (by omega)) (by rw [if_pos c]) (by unfold nT;rw [if_neg (by omega),if_pos (Or.inr c),ea]) (by unfold nV;rw [if_neg (by omega),if_neg (by omega),if_neg (by omega),if_pos (Or.inr c),ea]) (by unfold nE;rw [if_pos (by unfold evO;omega),if_neg (by omega),c,x0 (by unfold hX;omega),y0 (by unfold hY;omega)]) (R0 (by omega))
  simp (disch:=omega) only [RR,RB,ho,h7,hp4,hf4,hp3,hf3,dX,dY,dE,c,Int.reduceEq,List.length_cons,List.length_nil,ao3 3 s.inn s.t false tl,P0 3 s.inn pp]
  repeat' apply And.intro
  all_goals first | omega | (rw [ei];exact N)
 ·have dX:decide (hX o)=true:=decide_eq_true (by unfold hX;omega)
  have dY:decide (hY o)=false:=decide_eq_false (by unfold hY;omega)
  have dE:decide (evO o)=true:=decide_eq_true (by unfold evO;omega)
  have v1:=hok.x1 (by unfold hX;omega)
  have u1:=v1.2.1
  have w1:=v1.1
  have N:At t b' (i.toNat+1) s.ld s.inn s.t V (s.evs++ [⟨7,o.at_,xOf s o,[],[]⟩]) s.regs:=nxt (L0 (by omega)) (I0 (by omega)) (T0 (by omega) (by omega) (by omega)) (V0 (by omega)) (by unfold nE;rw [if_pos (by unfold evO;omega),if_neg (by omega),c,y0 (by unfold hY;omega)]) (R0 (by omega))
  simp (disch:=omega) only [RR,RB,ho,h7,hp4,hf4,hp3,hf3,dX,dY,dE,c,Int.reduceEq,List.length_cons,List.length_nil,ex (by unfold hX;omega)]
  repeat' apply And.intro
  all_goals first | omega | (rw [ei];exact N)
 ·have dX:decide (hX o)=true:=decide_eq_true (by unfold hX;omega)
  have dY:decide (hY o)=false:=decide_eq_false (by unfold hY;omega)
  have dE:decide (evO o)=false:=decide_eq_false (by unfold evO;omega)
  have v1:=hok.x1 (by unfold hX;omega)
  have u1:=v1.2.1
  have w1:=v1.1
  have k2:=hok.k2 (Or.inr c)
  have N:At t b' (i.toNat+1) s.ld s.inn s.t V s.evs (s.regs.set o.k.toNat (xOf s o)):=nxt (L0 (by omega)) (I0 (by omega)) (T0 (by omega) (by omega) (by omega)) (V0 (by omega)) (E0 (by unfold evO;omega)) (by unfold nR;rw [if_pos c])
  simp (disch:=omega) only [RR,RB,ho,h7,hp4,hf4,hp3,hf3,dX,dY,dE,c,Int.reduceEq,List.length_cons,List.length_nil,ex (by unfold hX;omega),r4]
  repeat' apply And.intro
  all_goals first | omega | (rw [ei];exact N)
end Go.TX.F
namespace Go.TX.F
open Go Go.AE Go.TX
theorem aii (i:Ins):Qz (std 0) (i,()) (fun _=>True):=by
 dsimp only [Qz,Alg.cl,Alg.cg,Alg.rb,Alg.bd,Alg.l1,Tup.q,Tup.o]
 simp (disch:=omega) only [RR]
theorem aij {p1:Int×Int×Int×Unit→Bool} {f1:Int×Int×Int×Unit→Bool×Unit} (hp1:∀a b c,p1 (a,b,c,())=true) (hf1:∀a b c,f1 (a,b,c,())=(inB a b c,())) {p2:Ins×Unit→Bool} {f2:Ins×Unit→Bool×Unit} (hp2:∀i,p2 (i,())=true) (i:Ins):QA (std 0) p1 f1 p2 f2 (i,()) (fun _=>True):=by
 dsimp only [QA,Alg.cl,Alg.cg,Alg.rb,Alg.bd,Alg.l1,Tup.q,Tup.o]
 simp (disch:=omega) only [RR,hp1,hp2]
theorem aik (i:Int):QB (std 0) (i,()) (fun _=>True):=by
 dsimp only [QB,Alg.cl,Alg.cg,Alg.rb,Alg.bd,Alg.l1,Tup.q,Tup.o]
theorem ail {p1:Int×Unit→Bool} {f1:Int×Unit→Bool×Unit} (hp1:∀i,p1 (i,())=true) {p2:Ins×Unit→Bool} {f2:Ins×Unit→Bool×Unit} (hp2:∀i,p2 (i,())=true) (i:Ins):QC (std 0) p1 f1 p2 f2 (i,()) (fun _=>True):=by
 dsimp only [QC,Alg.cl,Alg.cg,Alg.rb,Alg.bd,Alg.l1,Tup.q,Tup.o]
 simp (disch:=omega) only [RR,hp1,hp2]
theorem ain {p1:Int×Unit→Bool} {f1:Int×Unit→Bool×Unit} (hp1:∀i,p1 (i,())=true) {p2:Ins×Unit→Bool} {f2:Ins×Unit→Bool×Unit} (hp2:∀i,p2 (i,())=true) {p3:Int×Int×Int×Unit→Bool} {f3:Int×Int×Int×Unit→Bool×Unit} (hp3:∀a b c,p3 (a,b,c,())=true) (hf3:∀a b c,f3 (a,b,c,())=(inB a b c,())) {p4:Ins×Unit→Bool} {f4:Ins×Unit→Bool×Unit} (hp4:∀i,p4 (i,())=true) (pc:Int) (l:List Ins) (hl:(l.length:Int)<1000):QL (std 0) p1 f1 p2 f2 p3 f3 p4 f4 (pc,l,()) (fun _=>True):=by
 dsimp only [QL,Alg.cl,Alg.cg,Alg.rb,Alg.bd,Alg.l1,Tup.q,Tup.o]
 simp (disch:=omega) only [RR,hp1,hp2,hp3,hp4]
 refine fun _=> ?_
 refine au (fun(y:List Ins×Int×Unit)=>y.1=l∧0≤y.2.1) (fun y=>((l.length:Int)-y.2.1).toNat) ⟨rfl,by simp⟩ ?_
 rintro⟨(l':List Ins),(j:Int),⟨⟩⟩ hI
 dsimp only at hI ⊢
 obtain⟨rfl,h1⟩:=hI
 simp (disch:=omega) only [RR,hp1,hp2,hp3,hp4,or_true]
 refine fun h=>⟨h1,h,by omega,by omega,by omega,by omega,fun _=> ?_⟩
 rw [w64 (by omega) (by omega)];constructor<;>omega
theorem aac (a1 a2 a3 a4 a5 a6:Int) (o:IOp) (ops:List IOp) (hl:(ops.length:Int)<1000000):QM (std 0) (a1,a2,a3,a4,a5,a6,o,ops,()) (fun y=>(y.2.2.2.2.2.2.2.1.length:Int)=ops.length+1):=by
 dsimp only [QM,Alg.cl,Alg.cg,Alg.rb,Alg.bd,Alg.l1,Tup.q,Tup.o]
 simp (disch:=omega) only [RR,List.length_append,List.length_cons,List.length_nil]
 omega
theorem aad {p1:Int×Int×Int×Int×Int×Int×IOp×List IOp×Unit→Bool} {f1:Int×Int×Int×Int×Int×Int×IOp×List IOp×Unit→Int×Int×Int×Int×Int×Int×Int×List IOp×Unit} (hp1:∀a1 a2 a3 a4 a5 a6 o ops,(ops.length:Int)<1000000→p1 (a1,a2,a3,a4,a5,a6,o,ops,())=true) (hf1:∀a1 a2 a3 a4 a5 a6 o ops,(ops.length:Int)<1000000→((f1 (a1,a2,a3,a4,a5,a6,o,ops,())).2.2.2.2.2.2.2.1.length:Int)=ops.length+1) (a1 a2 a3 a4 a5 a6:Int) (k:Int) (ops:List IOp) (hl:(ops.length:Int)<1000000):QO (std 0) p1 f1 (a1,a2,a3,a4,a5,a6,k,ops,()) (fun y=>(y.2.2.2.2.2.2.2.1.length:Int)=ops.length+1):=by
 dsimp only [QO,Alg.cl,Alg.cg,Alg.rb,Alg.bd,Alg.l1,Tup.q,Tup.o]
 simp (disch:=omega) only [RR,hp1,hf1]
theorem aae {p1:Int×Int×Int×Int×Int×Int×IOp×List IOp×Unit→Bool} {f1:Int×Int×Int×Int×Int×Int×IOp×List IOp×Unit→Int×Int×Int×Int×Int×Int×Int×List IOp×Unit} (hp1:∀a1 a2 a3 a4 a5 a6 o ops,(ops.length:Int)<1000000→p1 (a1,a2,a3,a4,a5,a6,o,ops,())=true) (hf1:∀a1 a2 a3 a4 a5 a6 o ops,(ops.length:Int)<1000000→((f1 (a1,a2,a3,a4,a5,a6,o,ops,())).2.2.2.2.2.2.2.1.length:Int)=ops.length+1) (a1 a2 a3 a4 a5 a6:Int) (k x:Int) (ops:List IOp) (hl:(ops.length:Int)<1000000):QN (std 0) p1 f1 (a1,a2,a3,a4,a5,a6,k,x,ops,()) (fun y=>(y.2.2.2.2.2.2.1.length:Int)=ops.length+1):=by
 dsimp only [QN,Alg.cl,Alg.cg,Alg.rb,Alg.bd,Alg.l1,Tup.q,Tup.o]
 simp (disch:=omega) only [RR,hp1,hf1]
theorem aio {p1:Int×Int×Int×Int×Int×Int×Int×List IOp×Unit→Bool} {f1:Int×Int×Int×Int×Int×Int×Int×List IOp×Unit→Int×Int×Int×Int×Int×Int×Int×List IOp×Unit} (hp1:∀a1 a2 a3 a4 a5 a6 k ops,(ops.length:Int)<1000000→p1 (a1,a2,a3,a4,a5,a6,k,ops,())=true) (hf1:∀a1 a2 a3 a4 a5 a6 k ops,(ops.length:Int)<1000000→((f1 (a1,a2,a3,a4,a5,a6,k,ops,())).2.2.2.2.2.2.2.1.length:Int)=ops.length+1) {p2:Int×Int×Int×Int×Int×Int×IOp×List IOp×Unit→Bool} {f2:Int×Int×Int×Int×Int×Int×IOp×List IOp×Unit→Int×Int×Int×Int×Int×Int×Int×List IOp×Unit} (hp2:∀a1 a2 a3 a4 a5 a6 o ops,(ops.length:Int)<1000000→p2 (a1,a2,a3,a4,a5,a6,o,ops,())=true) (hf2:∀a1 a2 a3 a4 a5 a6 o ops,(ops.length:Int)<1000000→((f2 (a1,a2,a3,a4,a5,a6,o,ops,())).2.2.2.2.2.2.2.1.length:Int)=ops.length+1) (a1 a2 a3 a4 a5 a6:Int) (k a:Int) (o:IOp) (ops:List IOp) (hl:(ops.length:Int)<999000):QS (std 0) p1 f1 p2 f2 (a1,a2,a3,a4,a5,a6,k,a,o,ops,()) (fun y=>(y.2.2.2.2.2.2.2.1.length:Int)=ops.length+3):=by
 dsimp only [QS,Alg.cl,Alg.cg,Alg.rb,Alg.bd,Alg.l1,Tup.q,Tup.o]
 simp (disch:=(first | omega | (simp (disch:=(first | omega | (simp (disch:=(first | omega | (simp (disch:=omega) only [hf1,hf2];omega))) only [hf1,hf2];omega))) only [hf1,hf2];omega))) only [RR,hp1,hp2,hf1,hf2]
 omega
theorem aip {p1:Int×Int×Int×Int×Int×Int×Int×List IOp×Unit→Bool} {f1:Int×Int×Int×Int×Int×Int×Int×List IOp×Unit→Int×Int×Int×Int×Int×Int×Int×List IOp×Unit} (hp1:∀a1 a2 a3 a4 a5 a6 k ops,(ops.length:Int)<1000000→p1 (a1,a2,a3,a4,a5,a6,k,ops,())=true) (hf1:∀a1 a2 a3 a4 a5 a6 k ops,(ops.length:Int)<1000000→((f1 (a1,a2,a3,a4,a5,a6,k,ops,())).2.2.2.2.2.2.2.1.length:Int)=ops.length+1) {p2:Int×Int×Int×Int×Int×Int×IOp×List IOp×Unit→Bool} {f2:Int×Int×Int×Int×Int×Int×IOp×List IOp×Unit→Int×Int×Int×Int×Int×Int×Int×List IOp×Unit} (hp2:∀a1 a2 a3 a4 a5 a6 o ops,(ops.length:Int)<1000000→p2 (a1,a2,a3,a4,a5,a6,o,ops,())=true) (hf2:∀a1 a2 a3 a4 a5 a6 o ops,(ops.length:Int)<1000000→((f2 (a1,a2,a3,a4,a5,a6,o,ops,())).2.2.2.2.2.2.2.1.length:Int)=ops.length+1) {p3:Int×Int×Int×Int×Int×Int×Int×Int×IOp×List IOp×Unit→Bool} {f3:Int×Int×Int×Int×Int×Int×Int×Int×IOp×List IOp×Unit→Int×Int×Int×Int×Int×Int×Int×List IOp×Unit} (hp3:∀a1 a2 a3 a4 a5 a6 k a o ops,(ops.length:Int)<999000→p3 (a1,a2,a3,a4,a5,a6,k,a,o,ops,())=true) (hf3:∀a1 a2 a3 a4 a5 a6 k a o ops,(ops.length:Int)<999000→((f3 (a1,a2,a3,a4,a5,a6,k,a,o,ops,())).2.2.2.2.2.2.2.1.length:Int)=ops.length+3) {p4:Int×Int×Int×Int×Int×Int×Int×Int×List IOp×Unit→Bool} {f4:Int×Int×Int×Int×Int×Int×Int×Int×List IOp×Unit→Int×Int×Int×Int×Int×Int×List IOp×Unit} (hp4:∀a1 a2 a3 a4 a5 a6 k x ops,(ops.length:Int)<1000000→p4 (a1,a2,a3,a4,a5,a6,k,x,ops,())=true) (hf4:∀a1 a2 a3 a4 a5 a6 k x ops,(ops.length:Int)<1000000→((f4 (a1,a2,a3,a4,a5,a6,k,x,ops,())).2.2.2.2.2.2.1.length:Int)=ops.length+1) (a1 a2 a3 a4 a5 a6:Int) (i:Ins) (k:Int) (ops:List IOp) (hl:(ops.length:Int)<998000):QU (std 0) p1 f1 p2 f2 p3 f3 p4 f4 (a1,a2,a3,a4,a5,a6,i,k,ops,()) (fun y=>(y.2.2.2.2.2.2.1.length:Int)=ops.length+5):=by
 dsimp only [QU,Alg.cl,Alg.cg,Alg.rb,Alg.bd,Alg.l1,Tup.q,Tup.o]
 simp (disch:=(first | omega | (simp (disch:=(first | omega | (simp (disch:=(first | omega | (simp (disch:=omega) only [hf1,hf2,hf3,hf4];omega))) only [hf1,hf2,hf3,hf4];omega))) only [hf1,hf2,hf3,hf4];omega))) only [RR,hp1,hp2,hp3,hp4,hf1,hf2,hf3,hf4]
 constructor<;>intro _<;>omega
theorem aaf {p1:Int×Int×Int×Int×Int×Int×Int×List IOp×Unit→Bool} {f1:Int×Int×Int×Int×Int×Int×Int×List IOp×Unit→Int×Int×Int×Int×Int×Int×Int×List IOp×Unit} (hp1:∀a1 a2 a3 a4 a5 a6 k ops,(ops.length:Int)<1000000→p1 (a1,a2,a3,a4,a5,a6,k,ops,())=true) (hf1:∀a1 a2 a3 a4 a5 a6 k ops,(ops.length:Int)<1000000→((f1 (a1,a2,a3,a4,a5,a6,k,ops,())).2.2.2.2.2.2.2.1.length:Int)=ops.length+1) (a1 a2 a3 a4 a5 a6:Int) (i:Ins) (ops:List IOp) (hl:(ops.length:Int)<999000):QV (std 0) p1 f1 (a1,a2,a3,a4,a5,a6,i,ops,()) (fun y=>(y.2.2.2.2.2.2.1.length:Int)≤ops.length+5):=by
 dsimp only [QV,Alg.cl,Alg.cg,Alg.rb,Alg.bd,Alg.l1,Tup.q,Tup.o]
 simp (disch:=(first | omega | (simp (disch:=(first | omega | (simp (disch:=(first | omega | (simp (disch:=omega) only [hf1];omega))) only [hf1];omega))) only [hf1];omega))) only [RR,hp1,hf1]
 refine⟨fun _=>by omega,fun _=>⟨fun _=>by omega,fun _=>by omega⟩⟩
theorem aiq (k:Int) (hk:k<1000):QT (std 0) (k,()) (fun _=>True):=by
 dsimp only [QT,Alg.cl,Alg.cg,Alg.rb,Alg.bd,Alg.l1,Tup.q,Tup.o]
 simp (disch:=omega) only [RR]
 refine au (fun(y:Int×Int×Int×Unit)=>y.1=k∧0≤y.2.2.1) (fun y=>(k-y.2.2.1).toNat) ⟨rfl,by simp⟩ ?_
 rintro⟨(k':Int),(z:Int),(j:Int),⟨⟩⟩ hI
 dsimp only at hI ⊢
 obtain⟨rfl,h1⟩:=hI
 simp (disch:=omega) only [RR]
 refine fun h=> ?_
 rw [w64 (by omega) (by omega)];constructor<;>omega
theorem air {p1:Int×Int×Int×Int×Int×Int×Int×List IOp×Unit→Bool} {f1:Int×Int×Int×Int×Int×Int×Int×List IOp×Unit→Int×Int×Int×Int×Int×Int×Int×List IOp×Unit} (hp1:∀a1 a2 a3 a4 a5 a6 k ops,(ops.length:Int)<1000000→p1 (a1,a2,a3,a4,a5,a6,k,ops,())=true) (hf1:∀a1 a2 a3 a4 a5 a6 k ops,(ops.length:Int)<1000000→((f1 (a1,a2,a3,a4,a5,a6,k,ops,())).2.2.2.2.2.2.2.1.length:Int)=ops.length+1) {p2:Int×Int×Int×Int×Int×Int×Ins×List IOp×Unit→Bool} {f2:Int×Int×Int×Int×Int×Int×Ins×List IOp×Unit→Int×Int×Int×Int×Int×Int×List IOp×Unit} (hp2:∀a1 a2 a3 a4 a5 a6 i ops,(ops.length:Int)<999000→p2 (a1,a2,a3,a4,a5,a6,i,ops,())=true) (hf2:∀a1 a2 a3 a4 a5 a6 i ops,(ops.length:Int)<999000→((f2 (a1,a2,a3,a4,a5,a6,i,ops,())).2.2.2.2.2.2.1.length:Int)≤ops.length+5) {p3:Int×Int×Int×Int×Int×Int×IOp×List IOp×Unit→Bool} {f3:Int×Int×Int×Int×Int×Int×IOp×List IOp×Unit→Int×Int×Int×Int×Int×Int×Int×List IOp×Unit} (hp3:∀a1 a2 a3 a4 a5 a6 o ops,(ops.length:Int)<1000000→p3 (a1,a2,a3,a4,a5,a6,o,ops,())=true) (hf3:∀a1 a2 a3 a4 a5 a6 o ops,(ops.length:Int)<1000000→((f3 (a1,a2,a3,a4,a5,a6,o,ops,())).2.2.2.2.2.2.2.1.length:Int)=ops.length+1) {p4:Int×Int×Int×Int×Int×Int×Ins×Int×List IOp×Unit→Bool} {f4:Int×Int×Int×Int×Int×Int×Ins×Int×List IOp×Unit→Int×Int×Int×Int×Int×Int×List IOp×Unit} (hp4:∀a1 a2 a3 a4 a5 a6 i k ops,(ops.length:Int)<998000→p4 (a1,a2,a3,a4,a5,a6,i,k,ops,())=true) (hf4:∀a1 a2 a3 a4 a5 a6 i k ops,(ops.length:Int)<998000→((f4 (a1,a2,a3,a4,a5,a6,i,k,ops,())).2.2.2.2.2.2.1.length:Int)=ops.length+5) {p5:Int×Int×Int×Int×Int×Int×Int×Int×IOp×List IOp×Unit→Bool} {f5:Int×Int×Int×Int×Int×Int×Int×Int×IOp×List IOp×Unit→Int×Int×Int×Int×Int×Int×Int×List IOp×Unit} (hp5:∀a1 a2 a3 a4 a5 a6 k a o ops,(ops.length:Int)<999000→p5 (a1,a2,a3,a4,a5,a6,k,a,o,ops,())=true) (hf5:∀a1 a2 a3 a4 a5 a6 k a o ops,(ops.length:Int)<999000→((f5 (a1,a2,a3,a4,a5,a6,k,a,o,ops,())).2.2.2.2.2.2.2.1.length:Int)=ops.length+3) {p6:Int×Int×Int×Int×Int×Int×Int×Int×List IOp×Unit→Bool} {f6:Int×Int×Int×Int×Int×Int×Int×Int×List IOp×Unit→Int×Int×Int×Int×Int×Int×List IOp×Unit} (hp6:∀a1 a2 a3 a4 a5 a6 k x ops,(ops.length:Int)<1000000→p6 (a1,a2,a3,a4,a5,a6,k,x,ops,())=true) (hf6:∀a1 a2 a3 a4 a5 a6 k x ops,(ops.length:Int)<1000000→((f6 (a1,a2,a3,a4,a5,a6,k,x,ops,())).2.2.2.2.2.2.1.length:Int)=ops.length+1) {p7:Int×Unit→Bool} {f7:Int×Unit→Int×Unit} (hp7:∀k,k<1000→p7 (k,())=true) (a1 a2 a3 a4 a5 a6:Int) (i:Ins) (k:Int) (ops:List IOp) (hk:i.k<1000) (hl:(ops.length:Int)<997000):QW (std 0) p1 f1 p2 f2 p3 f3 p4 f4 p5 f5 p6 f6 p7 f7 (a1,a2,a3,a4,a5,a6,i,k,ops,()) (fun y=>(y.2.2.2.2.2.2.1.length:Int)≤ops.length+5):=by
 have e4:=fun i k=>hf4 a1 a2 a3 a4 a5 a6 i k ops (by omega)
 have e2:=fun i=>hf2 a1 a2 a3 a4 a5 a6 i ops (by omega)
 dsimp only [QW,Alg.cl,Alg.cg,Alg.rb,Alg.bd,Alg.l1,Tup.q,Tup.o]
 simp (disch:=(first | omega | (simp (disch:=(first | omega | (simp (disch:=(first | omega | (simp (disch:=omega) only [hf1,hf3,hf5,RB];omega))) only [hf1,hf3,hf5,RB];omega))) only [hf1,hf3,hf5,RB];omega))) only [RR,RB,hp1,hp2,hp3,hp4,hp5,hp6,hp7,hf1,hf3,hf4,hf5,hf6]
 have:=e2 i
 repeat' (first | (refine⟨?_,?_⟩) | intro _)
 all_goals omega
def KB (l:List Ins):Prop:=∀i∈l,i.k<1000
theorem KB.at {l:List Ins} (h:KB l) (n:Nat):(l.getD n default).k<1000:=by
 by_cases h1:n<l.length
 ·rw [getD_lt h1];exact h _ (List.getElem_mem _)
 ·simp only [List.getD,List.getElem?_eq_none (by omega:l.length≤n)];decide
theorem ais {p1:Int×List Ins×Unit→Bool} {f1:Int×List Ins×Unit→Bool×Unit} (hp1:∀pc l,(l.length:Int)<1000→p1 (pc,l,())=true) {p2:Int×Int×Int×Int×Int×Int×Ins×Int×List IOp×Unit→Bool} {f2:Int×Int×Int×Int×Int×Int×Ins×Int×List IOp×Unit→Int×Int×Int×Int×Int×Int×List IOp×Unit} (hp2:∀a1 a2 a3 a4 a5 a6 i k ops,i.k<1000→(ops.length:Int)<997000→p2 (a1,a2,a3,a4,a5,a6,i,k,ops,())=true) (hf2:∀a1 a2 a3 a4 a5 a6 i k ops,i.k<1000→(ops.length:Int)<997000→((f2 (a1,a2,a3,a4,a5,a6,i,k,ops,())).2.2.2.2.2.2.1.length:Int)≤ops.length+5) (pc:Int) (l:List Ins) (hl:(l.length:Int)<1000) (hk:KB l):QX (std 0) p1 f1 p2 f2 (pc,l,()) (fun y=>(y.2.2.2.2.2.2.1.length:Int)≤5000):=by
 dsimp only [QX,Alg.cl,Alg.cg,Alg.rb,Alg.bd,Alg.l1,Tup.q,Tup.o]
 simp (disch:=omega) only [RR,hp1,List.length_nil]
 refine⟨fun _=>by omega,fun _=> ?_⟩
 refine au (fun(y:List Ins×Int×Int×Int×Int×Int×Int×Int×Int×Int×Int×Int×Int×Int×List IOp×Unit)=>y.1=l∧0≤y.2.1∧y.2.1≤l.length∧(y.2.2.2.2.2.2.2.2.2.2.2.2.2.2.1.length:Int)≤5*y.2.1) (fun y=>((l.length:Int)-y.2.1).toNat) ⟨rfl,by simp,by simp,by simp⟩ ?_
 rintro⟨(l':List Ins),(j:Int),u1,u2,u3,u4,u5,u6,b1,b2,b3,b4,b5,b6,(ops:List IOp),⟨⟩⟩ hI
 dsimp only at hI ⊢
 obtain⟨rfl,h1,h2,h3⟩:=hI
 have hk':=hk.at j.toNat
 simp (disch:=omega) only [RR,hp2]
 refine⟨fun h=> ?_,fun h=>by omega⟩
 have:=hf2 b1 b2 b3 b4 b5 b6 ((l').getD (j).toNat default) j ops hk' (by omega)
 exact⟨h1,h,⟨by omega,by omega,by omega⟩,by omega⟩
end Go.TX.F
namespace Go.TX.F
open Go Go.AE Go.TX
structure InD (m:Int) (b:List Int) (p:Int) (y:Int×Int×Int×Int×List Int×Int×Unit):Prop where
 b:y.2.2.2.2.1=b
 lo:p≤y.2.2.2.2.2.1
 hi:y.2.2.2.2.2.1≤p+m
 k:0≤y.2.2.2.1∧y.2.2.2.1≤255
@[reducible] def ait : List Int → Prop
 | []=>True
 | x::l=>(0≤x∧x≤255)∧ait l
theorem Oy:∀(l:List Int) (n:Nat),ait l→0≤l.getD n default∧l.getD n default≤255
 | [],n,_=>by simp only [List.getD_nil];decide
 | x::l,0,h=>h.1
 | x::l,n+1,h=>Oy l n h.2
theorem pkR {f1:Int×List Int×Int×Unit→Int×List Int×Int×Unit} {b:List Int} (hb:Bt b) (hf1:∀n b p,Bt b→0≤p→p<1000000000→Pk n b p (f1 (n,b,p,()))):
  (∀n p,0≤p→p<1000000000→(f1 (n,b,p,())).2.1=b)∧(∀n p,0≤p→p<1000000000→(f1 (n,b,p,())).2.2.1=p+1)∧
  (∀n p,0≤p→p<1000000000→(0≤(f1 (n,b,p,())).1)=True)∧(∀n p k,0≤p→p<1000000000→n≤k→0<k→((f1 (n,b,p,())).1<k)=True)∧
  (∀n p k,0≤p→p<1000000000→n≤k+1→0≤k→((f1 (n,b,p,())).1≤k)=True):=
 ⟨fun n p h1 h2=>(hf1 n b p hb h1 h2).1,fun n p h1 h2=>(hf1 n b p hb h1 h2).2.1,fun n p h1 h2=>eq_true (hf1 n b p hb h1 h2).2.2.1,
  fun n p k h1 h2 h3 h4=>eq_true (by have:=(hf1 n b p hb h1 h2).2.2;omega),fun n p k h1 h2 h3 h4=>eq_true (by have:=(hf1 n b p hb h1 h2).2.2;omega)⟩
theorem aiu {p1:Int×List Int×Int×Unit→Bool} {f1:Int×List Int×Int×Unit→Int×List Int×Int×Unit} (hp1:∀n b p,Bt b→0≤p→p<1000000000→p1 (n,b,p,())=true) (hf1:∀n b p,Bt b→0≤p→p<1000000000→Pk n b p (f1 (n,b,p,()))) (b:List Int) (p:Int) (hb:Bt b) (h1:0≤p) (h2:p<900000000):Qy (std 0) p1 f1 (b,p,()) (fun y=>InD 20 b p y):=by
 have R:=pkR hb hf1
 have P:=fun n p h1 h2=>hp1 n b p hb h1 h2
 dsimp only [Qy,Alg.cl,Alg.cg,Alg.rb,Alg.bd,Alg.l1,Tup.q,Tup.o]
 simp (disch:=omega) only [RR,R,P,List.length_cons,List.length_nil]
 repeat' (first | (refine⟨?_,?_⟩) | intro _)
 all_goals try omega
 all_goals refine⟨rfl,by dsimp only;omega,by dsimp only;omega,?_⟩
 all_goals dsimp only
 all_goals first | omega | (refine Oy _ _ ?_;simp (disch:=omega) only [ait,R,Int.reduceLE,and_self,true_and,and_true]) | (simp (disch:=omega) only [R,Int.reduceLE,and_self,true_and,and_true])
theorem aiv {p1:List Int×Int×Unit→Bool} {f1:List Int×Int×Unit→Int×Int×Int×Int×List Int×Int×Unit} (hp1:∀b p,Bt b→0≤p→p<900000000→p1 (b,p,())=true) (hf1:∀b p,Bt b→0≤p→p<900000000→InD 20 b p (f1 (b,p,()))) {p2:Int×List Int×Int×Unit→Bool} {f2:Int×List Int×Int×Unit→Int×List Int×Int×Unit} (hp2:∀n b p,Bt b→0≤p→p<1000000000→p2 (n,b,p,())=true) (hf2:∀n b p,Bt b→0≤p→p<1000000000→Pk n b p (f2 (n,b,p,()))) {p3:Ins×Unit→Bool} {f3:Ins×Unit→Bool×Unit} (hp3:∀i,p3 (i,())=true) (b:List Int) (p:Int) (hb:Bt b) (h1:0≤p) (h2:p<800000000):QH (std 0) p1 f1 p2 f2 p3 f3 (b,p,()) (fun y=>InD 30 b p y):=by
 obtain⟨a1,a2,a3,a4⟩:=hf1 b p hb h1 (by omega)
 have R:=pkR hb hf2
 have P:=fun n p h1 h2=>hp2 n b p hb h1 h2
 dsimp only [QH,Alg.cl,Alg.cg,Alg.rb,Alg.bd,Alg.l1,Tup.q,Tup.o]
 simp (disch:=omega) only [RR,hp1 b p hb h1 (by omega),hp3,a1,R,P]
 refine⟨fun _=>⟨rfl,by dsimp only;omega,by dsimp only;omega,?_⟩,fun _=>⟨rfl,a2,by dsimp only;omega,a4⟩⟩
 dsimp only
 simp (disch:=omega) only [R,Int.reduceLE,and_self]
structure LiD (b:List Int) (p:Int) (y:List Int×Int×List Ins×Unit):Prop where
 b:y.1=b
 lo:p≤y.2.1
 hi:y.2.1≤p+1000
 len:(y.2.2.1.length:Int)≤20
 k:KB y.2.2.1
theorem KB.app {l:List Ins} {i:Ins} (h:KB l) (h2:i.k≤255):KB (l++ [i]):=fun x hx=>by
 rw [List.mem_append,List.mem_singleton]at hx
 rcases hx with hx | rfl
 ·exact h x hx
 ·omega
theorem aiw {p1:List Int×Int×Unit→Bool} {f1:List Int×Int×Unit→Int×Int×Int×Int×List Int×Int×Unit} (hp1:∀b p,Bt b→0≤p→p<800000000→p1 (b,p,())=true) (hf1:∀b p,Bt b→0≤p→p<800000000→InD 30 b p (f1 (b,p,()))) {p2:Int×List Int×Int×Unit→Bool} {f2:Int×List Int×Int×Unit→Int×List Int×Int×Unit} (hp2:∀n b p,Bt b→0≤p→p<1000000000→p2 (n,b,p,())=true) (hf2:∀n b p,Bt b→0≤p→p<1000000000→Pk n b p (f2 (n,b,p,()))) (b:List Int) (p:Int) (hb:Bt b) (h1:0≤p) (h2:p<700000000):QK (std 0) p1 f1 p2 f2 (b,p,()) (fun y=>LiD b p y):=by
 obtain⟨e1,e2,e3,e4⟩:=hf2 8 b p hb h1 (by omega)
 dsimp only [QK,Alg.cl,Alg.cg,Alg.rb,Alg.bd,Alg.l1,Tup.q,Tup.o]
 simp (disch:=omega) only [RR,hp2 8 b p hb h1 (by omega),e1,e2]
 refine au (fun(y:Int×List Int×Int×List Ins×Unit)=>0≤y.1∧y.1≤8∧y.2.1=b∧p≤y.2.2.1∧y.2.2.1+40*y.1≤p+400∧(y.2.2.2.1.length:Int)+y.1≤8∧KB y.2.2.2.1) (fun y=>y.1.toNat)
  ⟨e3,by dsimp only;omega,rfl,by dsimp only;omega,by dsimp only;omega,by dsimp only [List.length_nil];omega,fun x hx=>by cases hx⟩ ?_
 rintro⟨(k:Int),(b':List Int),(q:Int),(l:List Ins),⟨⟩⟩ hI
 dsimp only at hI ⊢
 obtain⟨k1,k2,rfl,k3,k4,k5,k6⟩:=hI
 have R:=pkR hb hf2
 have P:=fun n p h1 h2=>hp2 n b' p hb h1 h2
 obtain⟨a1,a2,a3,a4⟩:=hf1 b' q hb (by omega) (by omega)
 obtain⟨b1,b2,b3,b4⟩:=hf1 b' (q+1) hb (by omega) (by omega)
 simp (disch:=omega) only [RR,RB,hp1 b' q hb (by omega) (by omega),hp1 b' (q+1) hb (by omega) (by omega),a1,b1,R,P,List.length_cons,List.length_nil,List.length_append]
 refine⟨fun c=>⟨by omega,⟨by omega,by omega,by omega,by omega,by omega,k6.app a4.2⟩,by omega⟩,fun c=>⟨fun _=>⟨by omega,rfl,by dsimp only;omega,by dsimp only;omega,?_,?_⟩,fun _=>⟨fun _=>⟨by omega,rfl,by dsimp only;omega,by dsimp only;omega,?_,?_⟩,fun _=>⟨by omega,rfl,by dsimp only;omega,by dsimp only;omega,?_,?_⟩⟩⟩⟩
 ·dsimp only;rw [List.length_append];simp only [List.length_cons,List.length_nil];omega
 ·refine k6.app ?_
  dsimp only
  simp (disch:=omega) only [R]
 ·dsimp only;rw [List.length_append];simp only [List.length_cons,List.length_nil];omega
 ·exact k6.app (by dsimp only;omega)
 ·dsimp only;rw [List.length_append];simp only [List.length_cons,List.length_nil];omega
 ·exact k6.app b4.2
end Go.TX.F
namespace Go.TX.F
open Go Go.AE Go.TX
theorem aag (b:Blk) (hb:b.ops.length<1000000):Qb (std 0) (b,()) (fun y=>y=(b.pc,b.len,b.fin,b.x,b.y,b.k,b.ops,())):=by
 dsimp only [Qb,Alg.cl,Alg.cg,Alg.rb,Alg.bd,Alg.l1,Tup.q,Tup.o]
 simp (disch:=omega) only [RR,RB,List.nil_append,List.length_nil]
 omega
def kn (ops:List IOp) (k:Int):Int×Bool:=if 0≤k∧k<ops.length∧(((ops).getD (k).toNat default)).kind=1 then((((ops).getD (k).toNat default)).k,true)else(0,false)
@[reducible] def bk7 (b : Blk) : Int × Int × Int × Int × Int × Int × List IOp × Unit := (b.pc, b.len, b.fin, b.x, b.y, b.k, b.ops, ())
structure FE (b:Blk):Prop where
 f:1≤b.fin∧b.fin≤4
 x:b.fin≠1→0≤b.x∧b.x<b.ops.length
 y:3≤b.fin→0≤b.y∧b.y<b.ops.length
 y0:b.fin≤2→b.y=0
 p:0≤b.pc∧b.pc≤100∧0≤b.len∧b.len≤100
theorem aah (ops:List IOp) (k:Int):Qn (std 0) (ops,k,()) (fun y=>y=((kn ops k).1,(kn ops k).2,())):=by
 dsimp only [Qn,Alg.cl,Alg.cg,Alg.rb,Alg.bd,Alg.l1,Tup.q,Tup.o]
 simp (disch:=omega) only [RR,RB]
 unfold kn
 refine⟨by omega,by omega,fun h=> ?_,fun h=>⟨by omega,by omega,?_⟩⟩
 ·rw [if_neg (by omega)]
 ·rw [if_pos (by omega)]
theorem aai (b:Blk) (k:Int):Qs (std 0) (b,k,()) (fun y=>y=(b.pc,b.len,b.ops,1,0,0,k,())):=by
 dsimp only [Qs,Alg.cl,Alg.cg,Alg.rb,Alg.bd,Alg.l1,Tup.q,Tup.o]
 simp (disch:=omega) only [RR,RB]
theorem aix {p1:Blk×Int×Unit→Bool} {f1:Blk×Int×Unit→Int×Int×List IOp×Int×Int×Int×Int×Unit} (hp1:∀b k,p1 (b,k,())=true) (hf1:∀b k,f1 (b,k,())=(b.pc,b.len,b.ops,1,0,0,k,())) {p2:List IOp×Int×Unit→Bool} {f2:List IOp×Int×Unit→Int×Bool×Unit} (hp2:∀ops k,p2 (ops,k,())=true) (hf2:∀ops k,f2 (ops,k,())=((kn ops k).1,(kn ops k).2,())) (b:Blk) (h:FE b):Qt (std 0) p1 f1 p2 f2 (b,()) (fun y=>y=(fcB b b.ops,())):=by
 have hp:=h.p
 have hf:=h.f
 have k1:b.fin≠1→kn b.ops b.x=if(((b.ops).getD (b.x).toNat default)).kind=1 then((((b.ops).getD (b.x).toNat default)).k,true)else(0,false):=fun c=>by
  have:=h.x c
  unfold kn;simp only [this,true_and]
 have k2:3≤b.fin→kn b.ops b.y=if(((b.ops).getD (b.y).toNat default)).kind=1 then((((b.ops).getD (b.y).toNat default)).k,true)else(0,false):=fun c=>by
  have:=h.y c
  unfold kn;simp only [this,true_and]
 have y0:=h.y0
 have mkE:∀p l o f x y k,Co.mk .blk (p,l,o,f,x,y,k,())=Blk.mk p l o f x y k:=fun _ _ _ _ _ _ _=>rfl
 dsimp only [Qt,Alg.cl,Alg.cg,Alg.rb,Alg.bd,Alg.l1,Tup.q,Tup.o]
 simp (disch:=omega) only [RR,RB,hp1,hf1,hp2,hf2,mkE,Bool.and_eq_false_iff]
 by_cases c1:b.fin=1
 ·have e:fcB b b.ops=b:=by unfold fcB;rw [if_neg (by omega),if_neg (by omega)]
  rw [e]
  refine⟨fun h=>absurd h.1 (by omega),fun _=>⟨fun h=>absurd h.1.1.1 (by omega),fun _=>⟨fun h=>absurd h.1.1.1 (by omega),fun _=>⟨fun h=>absurd h.1.1 (by omega),fun _=>rfl⟩⟩⟩⟩
 ·rw [k1 c1]
  by_cases c2:b.fin=2
  ·by_cases d:(((b.ops).getD (b.x).toNat default)).kind=1
   ·have e:fcB b b.ops=⟨b.pc,b.len,b.ops,1,0,0,(((b.ops).getD (b.x).toNat default)).k⟩:=by unfold fcB;rw [if_pos ⟨c2,d⟩,y0 (by omega)]
    rw [if_pos d,e]
    refine⟨fun _=>rfl,fun h=> ?_⟩
    rcases h with h | h
    ·exact absurd c2 h
    ·cases h
   ·have e:fcB b b.ops=b:=by unfold fcB;rw [if_neg (fun g=>d g.2),if_neg (by omega)]
    rw [if_neg d,e]
    refine⟨fun h=>absurd h.2 (by decide),fun _=>⟨fun h=>absurd h.1.1.1 (by omega),fun _=>⟨fun h=>absurd h.1.1.1 (by omega),fun _=>⟨fun h=>absurd h.1.1 (by omega),fun _=>rfl⟩⟩⟩⟩
  ·rw [k2 (by omega)]
   refine⟨fun h=>absurd h.1 c2,fun _=> ?_⟩
   by_cases d:(((b.ops).getD (b.x).toNat default)).kind=1∧(((b.ops).getD (b.y).toNat default)).kind=1
   ·have e:fcB b b.ops=⟨b.pc,b.len,b.ops,1,0,0,if b.fin=3∧(((b.ops).getD (b.x).toNat default)).k=(((b.ops).getD (b.y).toNat default)).k∨b.fin=4∧(((b.ops).getD (b.x).toNat default)).k< (((b.ops).getD (b.y).toNat default)).k then b.k else b.pc+b.len⟩:=by
     unfold fcB;rw [if_neg (by omega),if_pos ⟨by omega,d⟩]
    rw [if_pos d.1,if_pos d.2,e]
    dsimp only
    simp only [and_true,Bool.true_eq_false,or_false,Prod.mk.injEq,Blk.mk.injEq,true_and]
    refine⟨fun h=>⟨fun _=>by rw [if_pos (Or.inl h)],fun g=>by omega⟩,fun h=>⟨fun g=>by rw [if_pos (Or.inr g)],fun g=>⟨fun _=>by rw [if_neg (by omega)],fun q=>by omega⟩⟩⟩
   ·have e:fcB b b.ops=b:=by unfold fcB;rw [if_neg (by omega),if_neg (fun g=>d g.2)]
    rw [e]
    have n:¬((if(((b.ops).getD (b.x).toNat default)).kind=1 then((((b.ops).getD (b.x).toNat default)).k,true)else((0:Int),false)).2=true∧(if(((b.ops).getD (b.y).toNat default)).kind=1 then((((b.ops).getD (b.y).toNat default)).k,true)else((0:Int),false)).2=true):=fun⟨g1,g2⟩=>by
     split at g1
     ·split at g2
      ·exact d ⟨by assumption,by assumption⟩
      ·cases g2
     ·cases g1
    exact⟨fun h=>absurd ⟨h.1.1.2,h.1.2⟩ n,fun _=>⟨fun h=>absurd ⟨h.1.1.2,h.1.2⟩ n,fun _=>⟨fun h=>absurd ⟨h.1.2,h.2⟩ n,fun _=>rfl⟩⟩⟩
theorem aaj {p1:Int×Int×Int×Unit→Bool} {f1:Int×Int×Int×Unit→Bool×Unit} (hp1:∀a b c,p1 (a,b,c,())=true) (hf1:∀a b c,f1 (a,b,c,())=(inB a b c,())) (o:IOp) (al:List Int) (hk:1≤o.kind∧o.kind≤8) (hx:hX o→0≤o.x∧o.x< (al.length:Int)) (hy:hY o→0≤o.y∧o.y< (al.length:Int)):Qc (std 0) p1 f1 (o,al,()) (fun y=>y=(ren al o,())):=by
 dsimp only [Qc,Alg.cl,Alg.cg,Alg.rb,Alg.bd,Alg.l1,Tup.q,Tup.o]
 simp (disch:=omega) only [RR,RB,hp1,hf1,fC,rO]
 have X:((3≤o.kind∧o.kind≤5)∨o.kind=7)∨o.kind=8→hX o:=fun c=>by unfold hX;omega
 have Xn:(¬(3≤o.kind∧o.kind≤5)∧¬o.kind=7)∧¬o.kind=8→¬hX o:=fun c g=>by unfold hX at g;omega
 unfold ren
 refine⟨fun c=>⟨(hx (X c)).1,(hx (X c)).2,fun d=>⟨(hy d).1,(hy d).2,?_⟩,fun d=> ?_⟩,fun c=>⟨fun d=>⟨(hy d).1,(hy d).2,?_⟩,fun d=> ?_⟩⟩
 ·rw [if_pos (X c),if_pos (show hY o from d)]
 ·rw [if_pos (X c),if_neg (show¬hY o from fun g=>g.elim d.1 d.2)]
 ·rw [if_neg (Xn c),if_pos (show hY o from d)]
 ·rw [if_neg (Xn c),if_neg (show¬hY o from fun g=>g.elim d.1 d.2)]
theorem aak (ops:List IOp) (k:Int) (h0:0≤k) (h1:k<ops.length) (h2:(ops.length:Int)<1000000):Ql (std 0) (ops,k,()) (fun y=>y=(qy (ops.drop (k.toNat+1)) (((ops).getD (k).toNat default)).k,())):=by
 dsimp only [Ql,Alg.cl,Alg.cg,Alg.rb,Alg.bd,Alg.l1,Tup.q,Tup.o]
 simp (disch:=omega) only [RR,RB]
 refine au (fun(y:List IOp×Int×Int×Unit)=>y.1=ops∧y.2.1=k∧0≤y.2.2.1∧y.2.2.1≤ops.length∧qy (ops.drop (k.toNat+1)) (((ops).getD (k).toNat default)).k=qy (ops.drop y.2.2.1.toNat) (((ops).getD (k).toNat default)).k) (fun y=>((ops.length:Int)-y.2.2.1).toNat) ⟨rfl,rfl,by dsimp only;omega,by dsimp only;omega,by dsimp only;rw [show(k+1).toNat=k.toNat+1 by omega]⟩ ?_
 rintro⟨(l:List IOp),(k':Int),(j:Int),⟨⟩⟩ hI
 dsimp only at hI ⊢
 obtain⟨rfl,rfl,h3,h4,h5⟩:=hI
 rw [h5]
 simp (disch:=omega) only [RR,RB,Bool.and_eq_false_iff]
 have st:j<l.length→qy (l.drop j.toNat) (((l).getD (k').toNat default)).k=if(((l).getD (j).toNat default)).kind=4∨(((l).getD (j).toNat default)).kind=5∨(((l).getD (j).toNat default)).kind=2∧(((l).getD (j).toNat default)).k=(((l).getD (k').toNat default)).k then false else if(((l).getD (j).toNat default)).kind=8∧(((l).getD (j).toNat default)).k=(((l).getD (k').toNat default)).k then true else qy (l.drop (j+1).toNat) (((l).getD (k').toNat default)).k:=fun h=>by
  rw [List.drop_eq_getElem_cons (show j.toNat<l.length by omega),R8,←getD_lt (d:=default) (show j.toNat<l.length by omega),show(j+1).toNat=j.toNat+1 by omega]
 refine⟨fun h=>⟨h3,h,by omega,by omega,by omega,by omega,by omega,by omega,by omega,by omega,fun c=> ?_,fun c=>⟨h3,h,by omega,by omega,by omega,by omega,fun d=> ?_,fun d=>⟨⟨by omega,by omega,?_⟩,by omega⟩⟩⟩,fun h=> ?_⟩
 ·rw [st h,if_pos (by omega)]
 ·rw [st h,if_neg (by omega),if_pos (by omega)]
 ·rw [st h,if_neg (by omega),if_neg (by omega)]
 ·rw [List.drop_of_length_le (by omega)];rfl
@[reducible] def ao6 (z : Int × Int × Int × Int × Int × Int × List IOp × Unit) : Blk := ⟨z.1, z.2.1, z.2.2.2.2.2.2.1, z.2.2.1, z.2.2.2.1, z.2.2.2.2.1, z.2.2.2.2.2.1⟩
theorem aiy {p1:Blk×Unit→Bool} {f1:Blk×Unit→Blk×Unit} (hp1:∀b,b.ops.length<1000000→p1 (b,())=true) (hf1:∀b,b.ops.length<1000000→f1 (b,())=(eX b,())) {p2:Blk×Unit→Bool} {f2:Blk×Unit→Int×Int×Int×Int×Int×Int×List IOp×Unit} (hp2:∀b,b.ops.length<1000000→p2 (b,())=true) (hf2:∀b,b.ops.length<1000000→f2 (b,())=bk7 (cZ b)) {p3:Blk×Unit→Bool} {f3:Blk×Unit→Int×Int×Int×Int×Int×Int×List IOp×Unit} (hp3:∀b,b.ops.length<1000000→p3 (b,())=true) (hf3:∀b,b.ops.length<1000000→f3 (b,())=bk7 (nZ b)) {p4:Blk×Unit→Bool} {f4:Blk×Unit→Int×Int×Int×Int×Int×Int×List IOp×Unit} (hp4:∀b,b.ops.length<1000000→p4 (b,())=true) (hf4:∀b,b.ops.length<1000000→f4 (b,())=bk7 (vQ b)) (b:Blk) (hb:b.ops.length<1000000):Qx (std 0) p1 f1 p2 f2 p3 f3 p4 f4 (b,()) (fun y=>y=bk7 (H8 b)):=by
 have m1:(cZ b).ops.length<1000000:=Nat.lt_of_le_of_lt (rz b) hb
 have m2:=Nat.lt_of_le_of_lt (BO (cZ b)) m1
 have m3:=Nat.lt_of_le_of_lt (yA (eX (cZ b))) m2
 have m4:=Nat.lt_of_le_of_lt (H7 (nZ (eX (cZ b)))) m3
 have mkE:∀c:Blk,Co.mk .blk (c.pc,c.len,c.ops,c.fin,c.x,c.y,c.k,())=c:=fun _=>rfl
 dsimp only [Qx,Alg.cl,Alg.cg,Alg.rb,Alg.bd,Alg.l1,Tup.q,Tup.o]
 simp (disch:=omega) only [RR,hp2 b hb,hf2 b hb,mkE,hp1 _ m1,hf1 _ m1,hp3 _ m2,hf3 _ m2,hp4 _ m3,hf4 _ m3,hp3 _ m4,hf3 _ m4]
 rfl
theorem aal {α:Type} {d:α} {f l:List α} {k:Nat} (hf:f.length=k) (h:k<l.length):(f++l.drop k).getD k d=l.getD k d:=by
 rw [getD_lt (by rw [List.length_append,List.length_drop];omega),getD_lt h,List.getElem_append_right (by omega),List.getElem_drop]
 simp only [hf,Nat.sub_self,Nat.add_zero]
theorem aiz {α:Type} {d:α} {f l:List α} {k j:Nat} (hf:f.length=k) (h:j<k):(f++l.drop k).getD j d=f.getD j d:=by
 rw [getD_lt (by rw [List.length_append];omega),getD_lt (by omega),List.getElem_append_left]
theorem U1 {α:Type} {x:α} {f l:List α} {k:Nat} (hf:f.length=k) (h:k<l.length):(f++l.drop k).set k x=(f++ [x])++l.drop (k+1):=by
 rw [List.set_append_right _ _ (by omega),hf,Nat.sub_self,List.drop_eq_getElem_cons h,List.set_cons_zero,List.append_assoc];rfl
theorem aam {α:Type} {d:α} {f l:List α} {k:Nat} (h:k<l.length):f++l.drop k=(f++ [l.getD k d])++l.drop (k+1):=by
 rw [List.drop_eq_getElem_cons h,getD_lt h,List.append_assoc];rfl
theorem U2 {α:Type} {f l:List α} {k:Nat} (hf:f.length=k) (h:k≤l.length):(f++l.drop k).length=l.length:=by
 rw [List.length_append,hf,List.length_drop];omega
theorem dL.fe {b:Blk} (ok:dL b) {f:List IOp} (h:f.length=b.ops.length):FE ⟨b.pc,b.len,f,b.fin,b.x,b.y,b.k⟩:=by
 have en:=ok.en
 have hp:=ok.pc
 have hl:=ok.ln
 exact⟨en.f,fun c=>⟨(en.x1 c).1,by dsimp only;rw [h];exact(en.x1 c).2.1⟩,fun c=>⟨(en.y1 c).1,by dsimp only;rw [h];exact(en.y1 c).2.1⟩,en.y0,by dsimp only;omega⟩
theorem aiA {p1:Blk×Unit→Bool} {f1:Blk×Unit→Bool×Unit} (hp1:∀b,b.ops.length<1000000000→p1 (b,())=true) (hf1:∀b,b.ops.length<1000000000→f1 (b,())=(bp (dL b),())) {p2:Int×Int×Int×Unit→Bool} {f2:Int×Int×Int×Unit→Int×Unit} (hp2:∀op a b,p2 (op,a,b,())=true) (hf2:∀op a b,f2 (op,a,b,())=(wdo op a b,())) {p3:Blk×Unit→Bool} {f3:Blk×Unit→Blk×Unit} (hp3:∀b,FE b→p3 (b,())=true) (hf3:∀b,FE b→f3 (b,())=(fcB b b.ops,())) {p4:List IOp×Int×Unit→Bool} {f4:List IOp×Int×Unit→Int×Bool×Unit} (hp4:∀ops k,p4 (ops,k,())=true) (hf4:∀ops k,f4 (ops,k,())=((kn ops k).1,(kn ops k).2,())) {p5:Blk×Unit→Bool} {f5:Blk×Unit→Int×Int×Int×Int×Int×Int×List IOp×Unit} (hp5:∀b,b.ops.length<1000000→p5 (b,())=true) (hf5:∀b,b.ops.length<1000000→f5 (b,())=(b.pc,b.len,b.fin,b.x,b.y,b.k,b.ops,())) (b:Blk) (hb:b.ops.length<1000000):Qw (std 0) p1 f1 p2 f2 p3 f3 p4 f4 p5 f5 (b,()) (fun y=>y=(eX b,())):=by
 have mkE:∀p l o f x y k,Co.mk .blk (p,l,o,f,x,y,k,())=Blk.mk p l o f x y k:=fun _ _ _ _ _ _ _=>rfl
 dsimp only [Qw,Alg.cl,Alg.cg,Alg.rb,Alg.bd,Alg.l1,Tup.q,Tup.o]
 simp (disch:=omega) only [RR,RB,hp1 b (by omega),hf1 b (by omega),hp5 b hb,hf5 b hb,mkE]
 refine⟨fun h=>by unfold eX;rw [h,if_neg (by decide)];rfl,fun h=> ?_⟩
 have ok:=bL.1 h
 rw [KJ ok]
 refine au (fun(y:Int×Int×Int×Int×Int×Int×Int×Int×Int×Int×Int×Int×Int×List IOp×Unit)=>0≤y.1∧y.1≤b.ops.length∧y.2.2.2.2.2.2.2=(b.pc,b.len,b.fin,b.x,b.y,b.k,fc b.ops y.1.toNat++b.ops.drop y.1.toNat,())) (fun y=>((b.ops.length:Int)-y.1).toNat) ⟨by dsimp only;omega,by dsimp only;omega,rfl⟩ ?_
 rintro⟨(k:Int),u1,u2,u3,u4,u5,u6,b1,b2,b3,b4,b5,b6,(ops:List IOp),⟨⟩⟩ hI
 dsimp only at hI ⊢
 simp only [Prod.mk.injEq,and_true]at hI
 obtain⟨h1,h2,rfl,rfl,rfl,rfl,rfl,rfl,rfl⟩:=hI
 have fl:=pG b.ops k.toNat
 have ln:=U2 (l:=b.ops) fl (by omega)
 simp (disch:=omega) only [RR,RB,hp4,hf4,hp2,hf2,ln,mkE]
 refine⟨fun h=> ?_,fun h=> ?_⟩
 ·have o:=ok.op k h1 h
  have ek:=aal (d:=default) (l:=b.ops) fl (by omega)
  have kv:∀x:Int,Vl b.ops x k→kn (fc b.ops k.toNat++b.ops.drop k.toNat) x=if((((fc b.ops k.toNat)).getD (x).toNat default)).kind=1 then(((((fc b.ops k.toNat)).getD (x).toNat default)).k,true)else(0,false):=fun x v=>by
   have v0:=v.1
   have v1:=v.2.1
   unfold kn
   rw [aiz fl (by omega)]
   simp only [show 0≤x∧x< ((fc b.ops k.toNat++b.ops.drop k.toNat).length:Int)from⟨v0,by omega⟩,true_and]
  have nx:fc b.ops (k+1).toNat=fc b.ops k.toNat++ [fcO (fc b.ops k.toNat) ((b.ops).getD (k).toNat default)]:=by rw [show(k+1).toNat=k.toNat+1 by omega];rfl
  rw [ek]
  have hk:=aam (d:=default) (f:=fc b.ops k.toNat) (l:=b.ops) (k:=k.toNat) (by omega)
  have hs:=fun x=>U1 (x:=x) (l:=b.ops) fl (by omega)
  rw [nx,show(k+1).toNat=k.toNat+1 by omega]
  generalize ((b.ops).getD (k).toNat default)=q at o hk ⊢
  have vx:=fun c=>o.x1 c
  have vy:=fun c=>o.y1 c
  refine⟨h1,h,h1,h,fun c=>⟨h1,h,h1,h,⟨by omega,by omega,?_⟩,by omega⟩,fun c=>⟨⟨by omega,by omega,?_⟩,by omega⟩⟩
  ·have k1:=kv _ (o.x1 (by unfold hX;omega))
   have k2:=kv _ (o.y1 (Or.inl c.1.1))
   rw [k1,k2]at c ⊢
   by_cases d1:((((fc b.ops k.toNat)).getD (q.x).toNat default)).kind=1
   ·by_cases d2:((((fc b.ops k.toNat)).getD (q.y).toNat default)).kind=1
    ·rw [if_pos d1,if_pos d2,hs]
     have e:fcO (fc b.ops k.toNat) q=⟨1,0,0,wdo q.k ((((fc b.ops k.toNat)).getD (q.x).toNat default)).k ((((fc b.ops k.toNat)).getD (q.y).toNat default)).k,0⟩:=by unfold fcO;rw [if_pos ⟨c.1.1,d1,d2⟩]
     rw [e]
    ·rw [if_neg d2]at c;exact absurd c.2 (by decide)
   ·rw [if_neg d1]at c;exact absurd c.1.2 (by decide)
  ·have e:fcO (fc b.ops k.toNat) q=q:=by
    unfold fcO
    refine if_neg ?_
    rintro⟨d0,d1,d2⟩
    rw [kv _ (o.x1 (by unfold hX;omega)),kv _ (o.y1 (Or.inl d0)),if_pos d1,if_pos d2,decide_eq_true d0]at c
    cases c
   rw [e,hk]
 ·have e:fc b.ops k.toNat++b.ops.drop k.toNat=fc b.ops b.ops.length:=by rw [List.drop_of_length_le (by omega),List.append_nil,show k.toNat=b.ops.length by omega]
  rw [e]
  have fe:=ok.fe (pG b.ops b.ops.length)
  rw [hf3 _ fe]
  exact⟨hp3 _ fe,rfl⟩
theorem aan {a b:List Bool} (h:a.length=b.length) (g:∀t:Nat,t<a.length→(a.getD t default=true↔b.getD t default=true)):a=b:=by
 refine List.ext_getElem h fun i h1 h2=> ?_
 have:=g i h1
 rw [getD_lt h1,getD_lt h2]at this
 exact Bool.eq_iff_iff.2 this
theorem aiB {p1:Blk×Unit→Bool} {f1:Blk×Unit→Bool×Unit} (hp1:∀b,b.ops.length<1000000000→p1 (b,())=true) (hf1:∀b,b.ops.length<1000000000→f1 (b,())=(bp (dL b),())) {p2:Int×Int×Int×Unit→Bool} {f2:Int×Int×Int×Unit→Bool×Unit} (hp2:∀a b c,p2 (a,b,c,())=true) (hf2:∀a b c,f2 (a,b,c,())=(inB a b c,())) (b:Blk) (hb:b.ops.length<1000000):Qh (std 0) p1 f1 p2 f2 (b,()) (fun y=>y=(Cw b,())):=by
 dsimp only [Qh,Alg.cl,Alg.cg,Alg.rb,Alg.bd,Alg.l1,Tup.q,Tup.o]
 simp (disch:=omega) only [RR,RB,hp1 b (by omega),hf1 b (by omega)]
 unfold Cw
 refine⟨fun h=>by rw [h,if_neg (by decide)],fun h=> ?_⟩
 rw [if_pos h]
 have ok:=bL.1 h
 have n48:=ok.sz
 have en:=ok.en
 refine au (fun(y:Int×Blk×List Bool×Unit)=>0≤y.1∧y.1≤b.ops.length∧y.2.1=b∧(y.2.2.1.length:Int)=y.1∧∀t:Nat,t<y.2.2.1.length→(y.2.2.1.getD t default=true↔4≤(b.ops.getD t default).kind)) (fun y=>((b.ops.length:Int)-y.1).toNat) ⟨by dsimp only;omega,by dsimp only;omega,rfl,rfl,fun t h=>absurd h (by simp)⟩ ?_
 rintro⟨(k:Int),(b':Blk),(kp:List Bool),⟨⟩⟩ hI
 dsimp only at hI ⊢
 obtain⟨h1,h2,rfl,h3,h4⟩:=hI
 simp (disch:=omega) only [RR,RB,List.length_append,List.length_cons,List.length_nil]
 refine⟨fun h=>⟨h1,h,by omega,⟨by omega,by omega,by omega,fun t ht=> ?_⟩,by omega⟩,fun h=> ?_⟩
 ·rw [iN]
  rcases(by omega:t<kp.length∨t=kp.length)with c | c
  ·rw [if_pos c];exact h4 t c
  ·rw [if_neg (by omega),if_pos c,decide_eq_true_eq,c,show k.toNat=kp.length by omega]
 have ex:¬b'.fin=1→0≤b'.x∧b'.x<kp.length:=fun c=>by have:=ok.en.x1 c;exact⟨this.1,by have:=this.2.1;omega⟩
 have ey:b'.fin=3∨b'.fin=4→0≤b'.y∧b'.y<kp.length:=fun c=>by have:=ok.en.y1 (by omega);exact⟨this.1,by have:=this.2.1;omega⟩
 have ff:=en.f
 have u0:=UY ok
 have kl:kp.length=b'.ops.length:=by omega
 rw [kl]at h4
 refine⟨fun c=>⟨(ex c).1,(ex c).2,(ex c).1,(ex c).2,fun c2=>⟨(ey c2).1,by rw [List.length_set];exact(ey c2).2,(ey c2).1,by rw [List.length_set];exact(ey c2).2,?_⟩,fun c2=> ?_⟩,fun c=>⟨fun c2=>absurd c2 (by omega),fun c2=> ?_⟩⟩
 all_goals
  refine au (fun(y:Int×Blk×List Bool×Unit)=> -1≤y.1∧y.1<b'.ops.length∧y.2.1=b'∧y.2.2.1.length=b'.ops.length∧∀t:Nat,t<b'.ops.length→(y.2.2.1.getD t default=true↔(us b' (b'.ops.length-1-y.1).toNat).getD t default=true∨4≤(b'.ops.getD t default).kind)) (fun y=>(y.1+1).toNat) ⟨by dsimp only;omega,by dsimp only;omega,rfl,by simp only [List.length_set];omega,fun t ht=> ?_⟩ ?_
  ·dsimp only
   rw [show(b'.ops.length-1- ((b'.ops.length:Int)-1)).toNat=0 by omega]
   show _↔(us0 b').getD t default=true∨_
   have q:=h4 t ht
   have r:=u0 t
   first
    | (rw [R7 (by rw [List.length_set];have:=ey c2;omega),R7 (by have:=ex c;omega),q,r];grind)
    | (rw [R7 (by have:=ex c;omega),q,r];grind)
    | (rw [q,r];grind)
  rintro⟨(j:Int),(b2:Blk),(ms:List Bool),⟨⟩⟩ hI
  dsimp only at hI ⊢
  obtain⟨j0,j1,rfl,j3,j4⟩:=hI
  simp (disch:=omega) only [RR,RB,hp2,hf2,fC,rO,List.length_set]
  have ul:=Ay b2 (b2.ops.length-1-j).toNat
  have us1:0≤j→∀t:Nat,((us b2 (b2.ops.length-1- (j-1)).toNat).getD t default=true↔(us b2 (b2.ops.length-1-j).toNat).getD t default=true∨((us b2 (b2.ops.length-1-j).toNat).getD j.toNat default=true∨4≤(((b2.ops).getD (j).toNat default)).kind)∧(t=j.toNat∨hX (((b2.ops).getD (j).toNat default))∧t=(((b2.ops).getD (j).toNat default)).x.toNat∨hY (((b2.ops).getD (j).toNat default))∧t=(((b2.ops).getD (j).toNat default)).y.toNat)):=fun g t=>by
   have o:=ok.op j g j1
   rw [show(b2.ops.length-1- (j-1)).toNat=(b2.ops.length-1-j).toNat+1 by omega]
   show(usO (b2.ops.getD (b2.ops.length-1- (b2.ops.length-1-j).toNat) default) (b2.ops.length-1- (b2.ops.length-1-j).toNat) _).getD t default=true↔_
   rw [show b2.ops.length-1- (b2.ops.length-1-j).toNat=j.toNat by omega]
   exact UW (by omega) (fun c=>by have:=o.x1 c;have g0:=this.1;have g1:=this.2.1;omega) (fun c=>by have:=o.y1 c;have g0:=this.1;have g1:=this.2.1;omega)
  have ue:¬0≤j→(us b2 (b2.ops.length-1-j).toNat)=us b2 b2.ops.length:=fun g=>by rw [show(b2.ops.length-1-j).toNat=b2.ops.length by omega]
  generalize us b2 (b2.ops.length-1-j).toNat=U at us1 j4 ue
  refine⟨fun g=> ?_,fun g=>congrArg (fun m:List Bool=>(m,())) (aan (b:=us b2 b2.ops.length) (by rw [Ay];exact j3) fun t ht=> ?_)⟩
  ·have o:=ok.op j g j1
   have X:hX (((b2.ops).getD (j).toNat default))→0≤(((b2.ops).getD (j).toNat default)).x∧(((b2.ops).getD (j).toNat default)).x<ms.length:=fun c=>by have:=o.x1 c;have g0:=this.1;have g1:=this.2.1;omega
   have Y:hY (((b2.ops).getD (j).toNat default))→0≤(((b2.ops).getD (j).toNat default)).y∧(((b2.ops).getD (j).toNat default)).y<ms.length:=fun c=>by have:=o.y1 c;have g0:=this.1;have g1:=this.2.1;omega
   have us1:=us1 g
   have qj:=j4 j.toNat (by omega)
   have kd:=o.kd
   generalize ((b2.ops).getD (j).toNat default)=q at*
   have cx:((3≤q.kind∧q.kind≤5)∨q.kind=7)∨q.kind=8↔hX q:=by unfold hX;omega
   have cn:(¬(3≤q.kind∧q.kind≤5)∧¬q.kind=7)∧¬q.kind=8↔¬hX q:=by unfold hX;omega
   have cy:q.kind=3∨q.kind=5↔hY q:=Iff.rfl
   have dn:¬q.kind=3∧¬q.kind=5↔¬hY q:=by unfold hY;omega
   rw [cx,cn,cy,dn]
   generalize hX q=HX at*
   generalize hY q=HY at*
   refine⟨g,j1,g,by omega,g,by omega,fun c=>⟨⟨by omega,by omega,j3,fun t ht=> ?_⟩,by omega⟩,fun c=>⟨fun d=>⟨(X d).1,(X d).2,(X d).1,(X d).2,fun e=>⟨(Y e).1,(Y e).2,(Y e).1,(Y e).2,⟨by omega,by omega,j3,fun t ht=> ?_⟩,by omega⟩,fun e=>⟨⟨by omega,by omega,j3,fun t ht=> ?_⟩,by omega⟩⟩,fun d=>⟨fun e=>⟨(Y e).1,(Y e).2,(Y e).1,(Y e).2,⟨by omega,by omega,j3,fun t ht=> ?_⟩,by omega⟩,fun e=>⟨⟨by omega,by omega,j3,fun t ht=> ?_⟩,by omega⟩⟩⟩⟩
   ·rw [us1,j4 t ht];rw [c]at qj;grind
   ·rw [R7 (by rw [List.length_set];have:=Y e;omega),R7 (by have:=X d;omega),us1,j4 t ht];grind
   ·rw [R7 (by have:=X d;omega),us1,j4 t ht];grind
   ·rw [R7 (by have:=Y e;omega),us1,j4 t ht];grind
   ·rw [us1,j4 t ht];grind
  ·rw [j4 t (by omega),ue g]
   exact⟨fun h=>h.elim id ((aoM ok).k t (Nat.zero_le _) (by omega)),Or.inl⟩
end Go.TX.F
namespace Go.TX.F
open Go Go.AE Go.TX
theorem aco {ops:List IOp} {kp:List Bool} {len:Int} {k n:Nat} {o:IOp} (ho:Ch ops len k o) (h:k<n):ren (kpS ops kp (k+1)).1 o=ren (kpS ops kp n).1 o:=by
 have p:=(ach ops kp (show k+1≤n by omega)).2
 have l:=(zq ops kp (k+1)).1
 have e:∀x:Int,Vl ops x k→(((kpS ops kp (k+1)).1).getD (x).toNat default)=(((kpS ops kp n).1).getD (x).toNat default):=fun x v=>by
  have g0:=v.1
  have g1:=v.2.1
  exact(Z0 p (by omega)).symm
 have ox:=ho.x1
 have oy:=ho.y1
 unfold ren
 congr 1
 ·split
  ·rename_i c;exact e _ (ox c)
  ·rfl
 ·split
  ·rename_i c;exact e _ (oy c)
  ·rfl
theorem aiC {p1:IOp×List Int×Unit→Bool} {f1:IOp×List Int×Unit→IOp×Unit} (hp1:∀o al,(1≤o.kind∧o.kind≤8)→(hX o→0≤o.x∧o.x< (al.length:Int))→(hY o→0≤o.y∧o.y< (al.length:Int))→p1 (o,al,())=true) (hf1:∀o al,(1≤o.kind∧o.kind≤8)→(hX o→0≤o.x∧o.x< (al.length:Int))→(hY o→0≤o.y∧o.y< (al.length:Int))→f1 (o,al,())=(ren al o,())) (b:Blk) (kp:List Bool) (ok:dL b) (hk:kp.length=b.ops.length):Qg (std 0) p1 f1 (b,kp,()) (fun y=>y=bk7 (BN b kp)):=by
 have n48:=ok.sz
 dsimp only [Qg,Alg.cl,Alg.cg,Alg.rb,Alg.bd,Alg.l1,Tup.q,Tup.o]
 simp (disch:=omega) only [RR,RB]
 refine au (fun(y:List Bool×Int×Blk×Int×Int×Int×Int×Int×Int×List IOp×List Int×Unit)=>y.1=kp∧0≤y.2.1∧y.2.1≤b.ops.length∧y.2.2.1=b∧y.2.2.2.2.2.2.2.2.2.1=(kpS b.ops kp y.2.1.toNat).2.map (ren (kpS b.ops kp b.ops.length).1)∧y.2.2.2.2.2.2.2.2.2.2.1=(kpS b.ops kp y.2.1.toNat).1) (fun y=>((b.ops.length:Int)-y.2.1).toNat) ⟨rfl,by dsimp only;omega,by dsimp only;omega,rfl,rfl,rfl⟩ ?_
 rintro⟨(kp':List Bool),(k:Int),(b':Blk),u1,u2,u3,u4,u5,u6,(out:List IOp),(to:List Int),⟨⟩⟩ hI
 dsimp only at hI ⊢
 obtain⟨rfl,h1,h2,rfl,rfl,rfl⟩:=hI
 obtain⟨l1,l2⟩:=zq b'.ops kp' k.toNat
 have l3:=(zq b'.ops kp' (k+1).toNat).1
 have nx:(kpS b'.ops kp' (k+1).toNat).1=(kpS b'.ops kp' k.toNat).1++ [((kpS b'.ops kp' k.toNat).2.length:Int)]:=by rw [show(k+1).toNat=k.toNat+1 by omega];rfl
 have r:k<b'.ops.length→ren (kpS b'.ops kp' (k+1).toNat).1 ((b'.ops).getD (k).toNat default)=ren (kpS b'.ops kp' b'.ops.length).1 ((b'.ops).getD (k).toNat default):=fun h=>by
  rw [show(k+1).toNat=k.toNat+1 by omega]
  exact aco (by rw [show((k.toNat:Nat):Int)=k by omega];exact ok.op k h1 h) (by omega)
 have s:(kpS b'.ops kp' (k+1).toNat).2=if kp'.getD k.toNat default=true then(kpS b'.ops kp' k.toNat).2++ [((b'.ops).getD (k).toNat default)]else(kpS b'.ops kp' k.toNat).2:=by rw [show(k+1).toNat=k.toNat+1 by omega];rfl
 have fin:¬k<b'.ops.length→kpS b'.ops kp' k.toNat=kpS b'.ops kp' b'.ops.length:=fun h=>by rw [show k.toNat=b'.ops.length by omega]
 have kb:BN b' kp'=RZ (kpS b'.ops kp' b'.ops.length).1 b' (kpS b'.ops kp' b'.ops.length).2:=rfl
 rw [kb]
 generalize kpS b'.ops kp' b'.ops.length=N at r fin ⊢
 generalize hT:kpS b'.ops kp' (k+1).toNat=T at l3 nx r s ⊢
 generalize kpS b'.ops kp' k.toNat=S at l1 l2 nx s fin ⊢
 have en:=ok.en
 have ex:¬k<b'.ops.length→¬b'.fin=1→0≤b'.x∧b'.x< (S.1.length:Int):=fun h c=>by have:=en.x1 c;exact⟨this.1,by have:=this.2.1;omega⟩
 have ey:¬k<b'.ops.length→b'.fin=3∨b'.fin=4→0≤b'.y∧b'.y< (S.1.length:Int):=fun h c=>by have:=en.y1 (by omega);exact⟨this.1,by have:=this.2.1;omega⟩
 simp (disch:=omega) only [RR,RB,List.length_append,List.length_cons,List.length_nil,List.length_map,Kt,←nx]
 refine⟨fun h=> ?_,fun h=> ?_⟩
 ·have op:=ok.op k h1 h
  have a2:hX (((b'.ops).getD (k).toNat default))→0≤(((b'.ops).getD (k).toNat default)).x∧(((b'.ops).getD (k).toNat default)).x< (T.1.length:Int):=fun c=>⟨(op.x1 c).1,by have:=(op.x1 c).2.1;omega⟩
  have a3:hY (((b'.ops).getD (k).toNat default))→0≤(((b'.ops).getD (k).toNat default)).y∧(((b'.ops).getD (k).toNat default)).y< (T.1.length:Int):=fun c=>⟨(op.y1 c).1,by have:=(op.y1 c).2.1;omega⟩
  have P:=hp1 _ T.1 op.kd a2 a3
  rw [hf1 _ T.1 op.kd a2 a3,hT,s,r h]
  refine⟨by omega,h1,by omega,fun c=>⟨h1,h,P,by omega,⟨by omega,by omega,?_⟩,by omega⟩,fun c=>⟨⟨by omega,by omega,?_⟩,by omega⟩⟩
  ·rw [if_pos c,List.map_append];exact⟨rfl,rfl⟩
  ·rw [c,if_neg (by decide)];exact⟨rfl,rfl⟩
 ·have ex:=ex h
  have ey:=ey h
  rw [fin h]at ex ey ⊢
  unfold bk7 RZ
  refine⟨fun c=>⟨(ex c).1,(ex c).2,(ex c).1,(ex c).2,fun c2=>⟨(ey c2).1,(ey c2).2,(ey c2).1,(ey c2).2,?_⟩,fun c2=> ?_⟩,fun c=>⟨fun c2=>⟨(ey c2).1,(ey c2).2,(ey c2).1,(ey c2).2,?_⟩,fun c2=> ?_⟩⟩
  ·rw [if_neg c,if_pos (by omega)]
  ·rw [if_neg c,if_neg (by have:=en.f;omega)]
  ·exact absurd c2 (by omega)
  ·rw [if_pos c,if_neg (by omega)]
theorem aiD {p1:Blk×Unit→Bool} {f1:Blk×Unit→Bool×Unit} (hp1:∀b,b.ops.length<1000000000→p1 (b,())=true) (hf1:∀b,b.ops.length<1000000000→f1 (b,())=(bp (dL b),())) {p2:Blk×Unit→Bool} {f2:Blk×Unit→List Bool×Unit} (hp2:∀b,b.ops.length<1000000→p2 (b,())=true) (hf2:∀b,b.ops.length<1000000→f2 (b,())=(Cw b,())) {p3:Blk×List Bool×Unit→Bool} {f3:Blk×List Bool×Unit→Int×Int×Int×Int×Int×Int×List IOp×Unit} (hp3:∀b kp,dL b→kp.length=b.ops.length→p3 (b,kp,())=true) (hf3:∀b kp,dL b→kp.length=b.ops.length→f3 (b,kp,())=bk7 (BN b kp)) (b:Blk) (hb:b.ops.length<1000000):Qi (std 0) p1 f1 p2 f2 p3 f3 (b,()) (fun y=>y=bk7 (nZ b)):=by
 dsimp only [Qi,Alg.cl,Alg.cg,Alg.rb,Alg.bd,Alg.l1,Tup.q,Tup.o]
 simp (disch:=omega) only [RR,RB,hp1 b (by omega),hf1 b (by omega),hp2 b hb,hf2 b hb]
 unfold nZ Cw
 refine⟨fun h=>by rw [h,if_neg (by decide)];rfl,fun h=> ?_⟩
 have ok:=bL.1 h
 rw [if_pos h,if_pos h,hf3 _ _ ok (Ay b _)]
 exact⟨hp3 _ _ ok (Ay b _),rfl⟩
theorem aiE {p1:Blk×Unit→Bool} {f1:Blk×Unit→Bool×Unit} (hp1:∀b,b.ops.length<1000000000→p1 (b,())=true) (hf1:∀b,b.ops.length<1000000000→f1 (b,())=(bp (dL b),())) {p2:Blk×List Bool×Unit→Bool} {f2:Blk×List Bool×Unit→Int×Int×Int×Int×Int×Int×List IOp×Unit} (hp2:∀b kp,dL b→kp.length=b.ops.length→p2 (b,kp,())=true) (hf2:∀b kp,dL b→kp.length=b.ops.length→f2 (b,kp,())=bk7 (BN b kp)) {p3:List IOp×Int×Unit→Bool} {f3:List IOp×Int×Unit→Bool×Unit} (hp3:∀ops k,0≤k→k<ops.length→(ops.length:Int)<1000000→p3 (ops,k,())=true) (hf3:∀ops k,0≤k→k<ops.length→(ops.length:Int)<1000000→f3 (ops,k,())=(qy (ops.drop (k.toNat+1)) (((ops).getD (k).toNat default)).k,())) (b:Blk) (hb:b.ops.length<1000000):Qm (std 0) p1 f1 p2 f2 p3 f3 (b,()) (fun y=>y=bk7 (vQ b)):=by
 dsimp only [Qm,Alg.cl,Alg.cg,Alg.rb,Alg.bd,Alg.l1,Tup.q,Tup.o]
 simp (disch:=omega) only [RR,RB,hp1 b (by omega),hf1 b (by omega)]
 unfold vQ
 refine⟨fun h=>by rw [h,if_neg (by decide)];rfl,fun h=> ?_⟩
 have ok:=bL.1 h
 rw [if_pos h]
 have kl:(ru b.ops).length=b.ops.length:=by unfold ru;rw [List.length_map,List.length_range]
 refine au (fun(y:Int×Blk×Int×Int×Int×Int×Int×Int×List Bool×Unit)=>0≤y.1∧y.1≤b.ops.length∧y.2.1=b∧y.2.2.2.2.2.2.2.2.1=(ru b.ops).take y.1.toNat) (fun y=>((b.ops.length:Int)-y.1).toNat) ⟨by dsimp only;omega,by dsimp only;omega,rfl,rfl⟩ ?_
 rintro⟨(k:Int),(b':Blk),u1,u2,u3,u4,u5,u6,(kp:List Bool),⟨⟩⟩ hI
 dsimp only at hI ⊢
 obtain⟨h1,h2,rfl,rfl⟩:=hI
 have tl:((ru b'.ops).take k.toNat).length=k.toNat:=by rw [List.length_take];omega
 simp (disch:=omega) only [RR,RB,List.length_append,List.length_cons,List.length_nil,tl]
 refine⟨fun h=>⟨h1,h,Or.inr (hp3 _ _ h1 h (by omega)),by omega,⟨by omega,by omega,?_⟩,by omega⟩,fun h=> ?_⟩
 ·rw [hf3 _ _ h1 h (by omega),show(k+1).toNat=k.toNat+1 by omega,List.take_succ_eq_append_getElem (by omega),←getD_lt (d:=default) (show k.toNat< (ru b'.ops).length by omega),Wo (by omega)]
  refine congrArg (fun x=>(ru b'.ops).take k.toNat++ [x]) ?_
  rw [Bool.not_and]
 ·rw [List.take_of_length_le (by omega),hf2 _ _ ok kl]
  exact⟨hp2 _ _ ok kl,rfl⟩
theorem aiF {ops:List IOp} {len:Int} {k n:Nat} {o:IOp} (ho:Ch ops len k o) (h:k≤n):ren (cpS ops k).1 o=ren (cpS ops n).1 o:=by
 have l:=(zo ops k).1
 have e:∀x:Int,Vl ops x k→(((cpS ops k).1).getD (x).toNat default)=(((cpS ops n).1).getD (x).toNat default):=fun x v=>by
  have g0:=v.1
  have g1:=v.2.1
  exact(R3 ops (by omega) h).symm
 have ox:=ho.x1
 have oy:=ho.y1
 unfold ren
 congr 1
 ·split
  ·rename_i c;exact e _ (ox c)
  ·rfl
 ·split
  ·rename_i c;exact e _ (oy c)
  ·rfl
theorem aiG {p1:Blk×Unit→Bool} {f1:Blk×Unit→Bool×Unit} (hp1:∀b,b.ops.length<1000000000→p1 (b,())=true) (hf1:∀b,b.ops.length<1000000000→f1 (b,())=(bp (dL b),())) {p2:IOp×List Int×Unit→Bool} {f2:IOp×List Int×Unit→IOp×Unit} (hp2:∀o al,(1≤o.kind∧o.kind≤8)→(hX o→0≤o.x∧o.x< (al.length:Int))→(hY o→0≤o.y∧o.y< (al.length:Int))→p2 (o,al,())=true) (hf2:∀o al,(1≤o.kind∧o.kind≤8)→(hX o→0≤o.x∧o.x< (al.length:Int))→(hY o→0≤o.y∧o.y< (al.length:Int))→f2 (o,al,())=(ren al o,())) {p3:Blk×Unit→Bool} {f3:Blk×Unit→Int×Int×Int×Int×Int×Int×List IOp×Unit} (hp3:∀b,b.ops.length<1000000→p3 (b,())=true) (hf3:∀b,b.ops.length<1000000→f3 (b,())=(b.pc,b.len,b.fin,b.x,b.y,b.k,b.ops,())) (b:Blk) (hb:b.ops.length<1000000):Qd (std 0) p1 f1 p2 f2 p3 f3 (b,()) (fun y=>y=bk7 (cZ b)):=by
 dsimp only [Qd,Alg.cl,Alg.cg,Alg.rb,Alg.bd,Alg.l1,Tup.q,Tup.o]
 simp (disch:=omega) only [RR,RB,hp1 b (by omega),hf1 b (by omega),hp3 b hb,hf3 b hb,Kt]
 unfold cZ
 refine⟨fun h=>by rw [h,if_neg (by decide)];rfl,fun h=> ?_⟩
 have ok:=bL.1 h
 rw [if_pos h]
 have n48:=ok.sz
 refine au (fun(y:Int×Int×Int×Int×Int×Int×Int×Int×Int×Int×Int×Int×Int×List Int×List Int×List IOp×Unit)=>0≤y.1∧y.1≤b.ops.length∧y.2.2.2.2.2.2.2=(b.pc,b.len,b.fin,b.x,b.y,b.k,(cpS b.ops y.1.toNat).1,(cpS b.ops y.1.toNat).2,(b.ops.take y.1.toNat).map (ren (cpS b.ops b.ops.length).1)++b.ops.drop y.1.toNat,())) (fun y=>((b.ops.length:Int)-y.1).toNat) ⟨by dsimp only;omega,by dsimp only;omega,rfl⟩ ?_
 rintro⟨(k:Int),u1,u2,u3,u4,u5,u6,b1,b2,b3,b4,b5,b6,(al:List Int),(la:List Int),(ops:List IOp),⟨⟩⟩ hI
 dsimp only at hI ⊢
 simp only [Prod.mk.injEq,and_true]at hI
 obtain⟨h1,h2,rfl,rfl,rfl,rfl,rfl,rfl,rfl,rfl,rfl⟩:=hI
 obtain⟨l1,l2⟩:=zo b.ops k.toNat
 have r:=fun h:k<b.ops.length=>aiF (ops:=b.ops) (k:=k.toNat) (n:=b.ops.length) (by rw [show((k.toNat:Nat):Int)=k by omega];exact ok.op k h1 h) (by omega)
 have fl:((b.ops.take k.toNat).map (ren (cpS b.ops b.ops.length).1)).length=k.toNat:=by rw [List.length_map,List.length_take];omega
 have ln:=U2 (l:=b.ops) fl (by omega)
 have ek:=fun h:k<b.ops.length=>aal (d:=default) (l:=b.ops) fl (by omega)
 have ms:=fun x (h:k<b.ops.length)=>U1 (x:=x) (l:=b.ops) fl (by omega)
 have tk:=fun h:k<b.ops.length=>(jy (d:=default) (l:=b.ops) h1 h rfl)
 have nx:k<b.ops.length→cpS b.ops (k+1).toNat=((cpS b.ops k.toNat).1++ [cpN (cpS b.ops k.toNat) k ((b.ops).getD (k).toNat default)],cpL (cpS b.ops k.toNat) k ((b.ops).getD (k).toNat default)):=fun h=>by
  rw [show(k+1).toNat=k.toNat+1 by omega,show k=((k.toNat:Nat):Int) by omega];rfl
 have fin:¬k<b.ops.length→cpS b.ops k.toNat=cpS b.ops b.ops.length:=fun h=>by rw [show k.toNat=b.ops.length by omega]
 have en:=ok.en
 by_cases h:k<b.ops.length
 ·have o:=ok.op k h1 h
  have r:=r h
  have ek:=ek h
  have nx:=nx h
  have ms:=fun x=>ms x h
  have tk:=tk h
  have a2:hX (((b.ops).getD (k).toNat default))→0≤(((b.ops).getD (k).toNat default)).x∧(((b.ops).getD (k).toNat default)).x< ((cpS b.ops k.toNat).1.length:Int):=fun c=>⟨(o.x1 c).1,by have:=(o.x1 c).2.1;omega⟩
  have a3:hY (((b.ops).getD (k).toNat default))→0≤(((b.ops).getD (k).toNat default)).y∧(((b.ops).getD (k).toNat default)).y< ((cpS b.ops k.toNat).1.length:Int):=fun c=>⟨(o.y1 c).1,by have:=(o.y1 c).2.1;omega⟩
  have P:=hp2 _ _ o.kd a2 a3
  have F:=hf2 _ _ o.kd a2 a3
  have kd:=o.k2
  have rx:(((b.ops).getD (k).toNat default)).kind=8→(ren (cpS b.ops b.ops.length).1 ((b.ops).getD (k).toNat default)).x=(((cpS b.ops k.toNat).1).getD ((((b.ops).getD (k).toNat default)).x).toNat default):=fun c=>by rw [←r];exact if_pos (by unfold hX;omega)
  rw [r]at F
  generalize hN:(cpS b.ops b.ops.length).1=N at*
  generalize hT:cpS b.ops (k+1).toNat=T at nx ⊢
  generalize cpS b.ops k.toNat=S at*
  simp (disch:=omega) only [RR,RB,ln,ek,P,F,ms,List.length_append,List.length_cons,List.length_nil,List.length_set,Kt,h]
  generalize hq:((b.ops).getD (k).toNat default)=q at*
  have rk:(ren N q).kind=q.kind:=rfl
  have rkk:(ren N q).k=q.k:=rfl
  generalize hR:ren N q=R at*
  have G:∀v w,v=cpN S k q→w=cpL S k q→(b.pc,b.len,b.fin,b.x,b.y,b.k,S.1++ [v],w,((b.ops.take k.toNat).map (ren N)++ [R])++b.ops.drop (k.toNat+1),())=(b.pc,b.len,b.fin,b.x,b.y,b.k,T.1,T.2,(b.ops.take (k+1).toNat).map (ren N)++b.ops.drop (k+1).toNat,()):=fun v w e1 e2=>by
   rw [nx,e1,e2,←tk,List.map_append,show(k+1).toNat=k.toNat+1 by omega,←hR];rfl
  have ss:∀i:Int,0≤i→i<S.2.length→S.2.set i.toNat ((S.2).getD (i).toNat default)=S.2:=fun i i0 i1=>by rw [getD_lt (show i.toNat<S.2.length by omega),List.set_getElem_self]
  by_cases c2:R.kind=2
  ·have kk:=kd (Or.inl (rk▸c2))
   by_cases c3:0≤((S.2).getD (R.k).toNat default)
   ·have g:=G (((S.2).getD (R.k).toNat default)) (S.2.set R.k.toNat ((S.2).getD (R.k).toNat default)) (by unfold cpN;rw [←rk,←rkk];rw [if_pos ⟨c2,c3⟩]) (by unfold cpL;rw [←rk,←rkk];rw [if_pos c2,if_pos c3,ss _ (by omega) (by omega)])
    simp only [c2,c3,show¬((2:Int)=8) by decide,true_and,and_true,true_implies,false_implies,not_true_eq_false,not_false_eq_true,false_or,decide_true,Bool.and_self,Bool.true_eq_false,hT,g]
    omega
   ·have g:=G k (S.2.set R.k.toNat k) (by unfold cpN;rw [←rk,←rkk];rw [if_neg (fun q=>c3 q.2)]) (by unfold cpL;rw [←rk,←rkk];rw [if_pos c2,if_neg c3])
    simp only [c2,c3,show¬((2:Int)=8) by decide,true_and,and_true,and_false,true_implies,false_implies,not_true_eq_false,not_false_eq_true,false_or,decide_true,decide_false,Bool.and_false,hT,g]
    omega
  ·by_cases c8:R.kind=8
   ·have kk:=kd (Or.inr (rk▸c8))
    have g:=G k (S.2.set R.k.toNat ((S.1).getD (q.x).toNat default)) (by unfold cpN;rw [←rk,←rkk];rw [if_neg (fun q=>c2 q.1)]) (by unfold cpL;rw [←rk,←rkk];rw [if_neg c2,if_pos c8])
    rw [←rx (rk▸c8)]at g
    simp only [c8,show¬((8:Int)=2) by decide,false_and,true_and,and_true,and_false,true_implies,false_implies,not_true_eq_false,not_false_eq_true,true_or,decide_false,Bool.false_and,hT,g]
    omega
   ·have g:=G k S.2 (by unfold cpN;rw [←rk,←rkk];rw [if_neg (fun q=>c2 q.1)]) (by unfold cpL;rw [←rk,←rkk];rw [if_neg c2,if_neg c8])
    simp only [c2,c8,false_and,true_and,and_true,and_false,true_implies,false_implies,not_true_eq_false,not_false_eq_true,true_or,decide_false,Bool.false_and,hT,g]
    omega
 ·have e:=fin h
  have ex:¬b.fin=1→0≤b.x∧b.x< ((cpS b.ops k.toNat).1.length:Int):=fun c=>by have:=en.x1 c;exact⟨this.1,by have:=this.2.1;omega⟩
  have ey:b.fin=3∨b.fin=4→0≤b.y∧b.y< ((cpS b.ops k.toNat).1.length:Int):=fun c=>by have:=en.y1 (by omega);exact⟨this.1,by have:=this.2.1;omega⟩
  have ff:=en.f
  have z:(b.ops.take k.toNat).map (ren (cpS b.ops b.ops.length).1)++b.ops.drop k.toNat=b.ops.map (ren (cpS b.ops b.ops.length).1):=by rw [List.take_of_length_le (by omega),List.drop_of_length_le (by omega),List.append_nil]
  have ln:(b.ops.map (ren (cpS b.ops b.ops.length).1)).length=b.ops.length:=List.length_map _
  rw [z]
  rw [e]at ex ey ⊢
  unfold bk7 RZ
  generalize (cpS b.ops b.ops.length).1=N at*
  simp (disch:=omega) only [RR,RB,ln,h]
  refine⟨fun c=>⟨(ex c).1,(ex c).2,(ex c).1,(ex c).2,fun c2=>⟨(ey c2).1,(ey c2).2,(ey c2).1,(ey c2).2,?_⟩,fun c2=> ?_⟩,fun c=>⟨fun c2=>absurd c2 (by omega),fun c2=> ?_⟩⟩
  ·rw [if_neg c,if_pos (by omega)]
  ·rw [if_neg c,if_neg (by omega)]
  ·rw [if_pos c,if_neg (by omega)]
end Go.TX.F
namespace Go.TX.F
open Go Go.AE Go.TX
structure BkD (m:Int) (n:Nat) (b:List Int) (p:Int) (y:Int×Int×Int×Int×Int×Int×List Int×Int×List IOp×Unit):Prop where
 b:y.2.2.2.2.2.2.1=b
 lo:p≤y.2.2.2.2.2.2.2.1
 hi:y.2.2.2.2.2.2.2.1≤p+m
 len:y.2.2.2.2.2.2.2.2.1.length≤n
theorem aiH {p1:Int×List Ins×Unit→Bool} {f1:Int×List Ins×Unit→Int×Int×Int×Int×Int×Int×List IOp×Unit} (hp1:∀pc l,(l.length:Int)<1000→KB l→p1 (pc,l,())=true) (hf1:∀pc l,(l.length:Int)<1000→KB l→((f1 (pc,l,())).2.2.2.2.2.2.1.length:Int)≤5000) {p2:Blk×Unit→Bool} {f2:Blk×Unit→Int×Int×Int×Int×Int×Int×List IOp×Unit} (hp2:∀b,b.ops.length<1000000→p2 (b,())=true) (hf2:∀b,b.ops.length<1000000→f2 (b,())=bk7 (H8 b)) {p3:Blk×Unit→Bool} {f3:Blk×Unit→Int×Int×Int×Int×Int×Int×List IOp×Unit} (hp3:∀b,b.ops.length<1000000→p3 (b,())=true) (hf3:∀b,b.ops.length<1000000→f3 (b,())=bk7 (cZ b)) {p4:Int×List Int×Int×Unit→Bool} {f4:Int×List Int×Int×Unit→Int×List Int×Int×Unit} (hp4:∀n b p,Bt b→0≤p→p<1000000000→p4 (n,b,p,())=true) (hf4:∀n b p,Bt b→0≤p→p<1000000000→Pk n b p (f4 (n,b,p,()))) {p5:List Int×Int×Unit→Bool} {f5:List Int×Int×Unit→List Int×Int×List Ins×Unit} (hp5:∀b p,Bt b→0≤p→p<700000000→p5 (b,p,())=true) (hf5:∀b p,Bt b→0≤p→p<700000000→LiD b p (f5 (b,p,()))) (b:List Int) (p:Int) (hb:Bt b) (h1:0≤p) (h2:p<600000000):QY (std 0) p1 f1 p2 f2 p3 f3 p4 f4 p5 f5 (b,p,()) (fun y=>BkD 2000 5000 b p y):=by
 replace hf2:=fun c h=>show(f2 (c,())).2.2.2.2.2.2.1.length≤c.ops.length by rw [hf2 c h];exact Az c
 replace hf3:=fun c h=>show(f3 (c,())).2.2.2.2.2.2.1.length≤c.ops.length by rw [hf3 c h];exact rz c
 obtain⟨a1,a2,a3,a4,a5⟩:=hf5 b p hb h1 (by omega)
 have R:=pkR hb hf4
 have P:=fun n p h1 h2=>hp4 n b p hb h1 h2
 have L:=fun pc=>hf1 pc _ (show((f5 (b,p,())).2.2.1.length:Int)<1000 by omega) a5
 have O1:=fun c (h:c.ops.length≤5000)=>hp2 c (by omega)
 have O2:=fun c (h:c.ops.length≤5000)=>hf2 c (by omega)
 have O3:=fun c (h:c.ops.length≤5000)=>hp3 c (by omega)
 have O4:=fun c (h:c.ops.length≤5000)=>hf3 c (by omega)
 dsimp only [QY,Alg.cl,Alg.cg,Alg.rb,Alg.bd,Alg.l1,Tup.q,Tup.o]
 simp (disch:=omega) only [RR,hp5 b p hb h1 (by omega),a1,R,P,hp1 _ _ (show((f5 (b,p,())).2.2.1.length:Int)<1000 by omega) a5,List.length_cons,List.length_nil]
 have L':∀pc,(f1 (pc,(f5 (b,p,())).2.2.1,())).2.2.2.2.2.2.1.length≤5000:=fun pc=>by have:=L pc;omega
 refine⟨fun _=>⟨O1 _ (L' _),rfl,by dsimp only;omega,by dsimp only;omega,Nat.le_trans (O2 _ (L' _)) (L' _)⟩,fun _=>⟨fun _=>⟨O3 _ (L' _),rfl,by dsimp only;omega,by dsimp only;omega,Nat.le_trans (O4 _ (L' _)) (L' _)⟩,fun _=>⟨rfl,by dsimp only;omega,by dsimp only;omega,L' _⟩⟩⟩
theorem aiI {p1:Int×List Int×Int×Unit→Bool} {f1:Int×List Int×Int×Unit→Int×List Int×Int×Unit} (hp1:∀n b p,Bt b→0≤p→p<1000000000→p1 (n,b,p,())=true) (hf1:∀n b p,Bt b→0≤p→p<1000000000→Pk n b p (f1 (n,b,p,()))) {p2:Blk×Unit→Bool} {f2:Blk×Unit→Int×Int×Int×Int×Int×Int×List IOp×Unit} (hp2:∀b,b.ops.length<1000000→p2 (b,())=true) (hf2:∀b,b.ops.length<1000000→f2 (b,())=(b.pc,b.len,b.fin,b.x,b.y,b.k,b.ops,())) (c:Blk) (b:List Int) (p:Int) (ok:dL c) (hc:c.ops.length<1000000) (hb:Bt b) (h1:0≤p) (h2:p<600000000):Rz (std 0) p1 f1 p2 f2 (c,b,p,()) (fun y=>BkD 1000000 c.ops.length b p y):=by
 dsimp only [Rz,Alg.cl,Alg.cg,Alg.rb,Alg.bd,Alg.l1,Tup.q,Tup.o]
 simp (disch:=omega) only [RR,RB,hp2 c hc,hf2 c hc]
 refine au (fun(y:Int×List Int×Int×Int×Int×Int×Int×Int×Int×Int×Int×Int×Int×Int×Int×List IOp×Unit)=>0≤y.1∧y.1≤c.ops.length∧y.2.1=b∧p≤y.2.2.1∧y.2.2.1≤p+y.1∧y.2.2.2.2.2.2.2.2.2.2.2.2.2.2.2.1.length=c.ops.length∧∀j:Int,y.1≤j→((y.2.2.2.2.2.2.2.2.2.2.2.2.2.2.2.1).getD (j).toNat default)=((c.ops).getD (j).toNat default)) (fun y=>((c.ops.length:Int)-y.1).toNat) ⟨by dsimp only;omega,by dsimp only;omega,rfl,by dsimp only;omega,by dsimp only;omega,rfl,fun _ _=>rfl⟩ ?_
 rintro⟨(k:Int),(b':List Int),(q:Int),u1,u2,u3,u4,u5,u6,b1,b2,b3,b4,b5,b6,(ops:List IOp),⟨⟩⟩ hI
 dsimp only at hI ⊢
 obtain⟨k1,k2,rfl,k3,k4,k5,k6⟩:=hI
 have e:=k6 k (Int.le_refl _)
 have R:=pkR hb hf1
 have P:=fun n p h1 h2=>hp1 n b' p hb h1 h2
 simp (disch:=omega) only [RR,RB,e,R,P,List.length_set,Bool.and_eq_false_iff]
 refine⟨fun h=> ?_,fun h=>⟨rfl,k3,by dsimp only;omega,Nat.le_of_eq k5⟩⟩
 have oy:((c.ops).getD (k).toNat default).kind=3→0≤((c.ops).getD (k).toNat default).y∧((c.ops).getD (k).toNat default).y<k:=fun c3=>by have:=(ok.op k k1 (by omega)).y1 (Or.inl c3);exact⟨this.1,this.2.1⟩
 have S:∀(X:List IOp) v (j:Int),k+1≤j→(X.set k.toNat v).getD j.toNat default=X.getD j.toNat default:=fun X v j hj=>by
  simp only [List.getD,List.getElem?_set_ne (show k.toNat≠j.toNat by omega)]
 repeat' (first | (refine⟨?_,?_⟩) | intro _)
 all_goals first | omega | rfl | exact k6 _ (by omega) | (simp (disch:=omega) only [S];exact k6 _ (by omega))
end Go.TX.F
namespace Go.TX.F
open Go Go.AE Go.TX
theorem aiJ {p1:Int×List Int×Int×Unit→Bool} {f1:Int×List Int×Int×Unit→Int×List Int×Int×Unit} (hp1:∀n b p,Bt b→0≤p→p<1000000000→p1 (n,b,p,())=true) (hf1:∀n b p,Bt b→0≤p→p<1000000000→Pk n b p (f1 (n,b,p,()))) {p2:Blk×Unit→Bool} {f2:Blk×Unit→Int×Int×Int×Int×Int×Int×List IOp×Unit} (hp2:∀b,b.ops.length<1000000→p2 (b,())=true) (hf2:∀b,b.ops.length<1000000→f2 (b,())=(b.pc,b.len,b.fin,b.x,b.y,b.k,b.ops,())) (c:Blk) (b:List Int) (p:Int) (hc:c.ops.length<1000000) (hb:Bt b) (h1:0≤p) (h2:p<900000000):Km (std 0) p1 f1 p2 f2 (c,b,p,()) (fun y=>BkD 20 c.ops.length b p y):=by
 have R:=pkR hb hf1
 have P:=fun n p h1 h2=>hp1 n b p hb h1 h2
 by_cases z:(c.ops.length:Int)=0
 ·dsimp only [Km,Alg.cl,Alg.cg,Alg.rb,Alg.bd,Alg.l1,Tup.q,Tup.o]
  simp (disch:=omega) only [RR,RB,hp2 c hc,hf2 c hc,z]
  exact⟨rfl,by dsimp only;omega,by dsimp only;omega,Nat.le_refl _⟩
 have B:=(hf1 c.ops.length b p hb h1 (by omega)).2.2
 have W:IntKind.i64.wrap ((f1 (c.ops.length,b,p,())).1-1)=(f1 (c.ops.length,b,p,())).1-1:=w64 (by omega) (by omega)
 dsimp only [Km,Alg.cl,Alg.cg,Alg.rb,Alg.bd,Alg.l1,Tup.q,Tup.o]
 simp (disch:=omega) only [RR,RB,hp2 c hc,hf2 c hc,R,P,z,List.length_set,W]
 repeat' (first | (refine And.intro ?_ ?_) | intro _)
 all_goals first | omega | exact⟨rfl,by dsimp only;omega,by dsimp only;omega,by dsimp only [Zz];simp only [List.length_set,List.length_take,List.length_drop];omega⟩ | exact⟨rfl,by dsimp only;omega,by dsimp only;omega,by simp only [List.length_drop,List.length_take];omega⟩ | exact⟨rfl,by dsimp only;omega,by dsimp only;omega,Nat.le_refl _⟩
structure BoD (b:List Int) (p:Int) (y:Blk×List Int×Int×Unit):Prop where
 len:y.1.ops.length<100000
 b:y.2.1=b
 lo:p≤y.2.2.1
 hi:y.2.2.1≤p+5000
theorem aiK {p1:Int×List Int×Int×Unit→Bool} {f1:Int×List Int×Int×Unit→Bool×List Int×Int×Unit} (hp1:∀n b p,Bt b→0≤p→p<1000000000→p1 (n,b,p,())=true) (hf1:∀n b p,Bt b→0≤p→p<1000000000→(f1 (n,b,p,())).2.1=b∧(f1 (n,b,p,())).2.2.1=p+1) {p2:Int×List Int×Int×Unit→Bool} {f2:Int×List Int×Int×Unit→Int×List Int×Int×Unit} (hp2:∀n b p,Bt b→0≤p→p<1000000000→p2 (n,b,p,())=true) (hf2:∀n b p,Bt b→0≤p→p<1000000000→Pk n b p (f2 (n,b,p,()))) {p3:Blk×List Int×Int×Unit→Bool} {f3:Blk×List Int×Int×Unit→Int×Int×Int×Int×Int×Int×List Int×Int×List IOp×Unit} (hp3:∀c b p,c.ops.length<1000000→Bt b→0≤p→p<900000000→p3 (c,b,p,())=true) (hf3:∀c b p,c.ops.length<1000000→Bt b→0≤p→p<900000000→BkD 20 c.ops.length b p (f3 (c,b,p,()))) {p4:List Int×Int×Unit→Bool} {f4:List Int×Int×Unit→Int×Int×Int×Int×Int×Int×List Int×Int×List IOp×Unit} (hp4:∀b p,Bt b→0≤p→p<600000000→p4 (b,p,())=true) (hf4:∀b p,Bt b→0≤p→p<600000000→BkD 2000 5000 b p (f4 (b,p,()))) (n:Int) (b:List Int) (p:Int) (hb:Bt b) (h1:0≤p) (h2:p<500000000):QZ (std 0) p1 f1 p2 f2 p3 f3 p4 f4 (n,b,p,()) (fun y=>BoD b p y):=by
 obtain⟨a1,a2,a3,a4⟩:=hf4 b p hb h1 (by omega)
 have H4:=hp4 b p hb h1 (by omega)
 have R:=pkR hb hf2
 have P:=fun n p h1 h2=>hp2 n b p hb h1 h2
 have R1:=fun n p h1 h2=>(hf1 n b p hb h1 h2).1
 have R2:=fun n p h1 h2=>(hf1 n b p hb h1 h2).2
 have P1:=fun n p h1 h2=>hp1 n b p hb h1 h2
 dsimp only [QZ,Alg.cl,Alg.cg,Alg.rb,Alg.bd,Alg.l1,Tup.q,Tup.o]
 simp (disch:=omega) only [RR,RB,H4,a1,R,P,R1,R2,P1,List.length_cons,List.length_nil,List.length_append]
 repeat' (first | (refine And.intro ?_ ?_) | intro _)
 all_goals try omega
 all_goals try exact BoD.mk (show(f4 (b,p,())).2.2.2.2.2.2.2.2.1.length<100000 by omega) rfl (by dsimp only;omega) (by dsimp only;omega)
 all_goals try exact hp3 _ _ _ (show(f4 (b,p,())).2.2.2.2.2.2.2.2.1.length<1000000 by omega) hb (by omega) (by omega)
 all_goals try exact BoD.mk (show(_++ [_]).length<100000 by rw [List.length_append,List.length_singleton];omega) rfl (by dsimp only;omega) (by dsimp only;omega)
 all_goals try exact(fun h=>BoD.mk (Nat.lt_of_le_of_lt h.len (show(f4 (b,p,())).2.2.2.2.2.2.2.2.1.length<100000 by omega)) h.b (by have:=h.lo;dsimp only;omega) (by have:=h.hi;dsimp only;omega)) (hf3 _ _ _ (show(f4 (b,p,())).2.2.2.2.2.2.2.2.1.length<1000000 by omega) hb (by omega) (by omega))
 all_goals
  refine au (fun(y:List Int×Int×Int×Int×Int×Int×Int×Int×Int×Int×Int×Int×Int×Int×List IOp×Unit)=>y.1=b∧p≤y.2.1∧y.2.1≤p+5000∧y.2.2.2.2.2.2.2.2.2.2.2.2.2.2.1.length<50000) (fun y=>50-y.2.2.2.2.2.2.2.2.2.2.2.2.2.2.1.length) ⟨rfl,by dsimp only;omega,by dsimp only;omega,by dsimp only;omega⟩ ?_
  rintro⟨(b':List Int),(q:Int),u1,u2,u3,u4,u5,u6,b1,b2,b3,b4,b5,b6,(ops:List IOp),⟨⟩⟩ hI
  dsimp only at hI ⊢
  obtain⟨rfl,h3,h4,h5⟩:=hI
  simp (disch:=omega) only [RR,List.length_append,List.length_cons,List.length_nil]
  refine⟨fun h=>⟨by omega,⟨by omega,by omega,by omega⟩,by omega⟩,fun h=>⟨show ops.length<100000 by omega,rfl,by dsimp only;omega,by dsimp only;omega⟩⟩
end Go.TX.F
namespace Go.TX.F
open Go Go.AE Go.TX
theorem aiL {p1:Blk×Unit→Bool} {f1:Blk×Unit→Bool×Unit} (hp1:∀b,b.ops.length<1000000000→p1 (b,())=true) (hf1:∀b,b.ops.length<1000000000→f1 (b,())=(bp (dL b),())) {p2:Blk×Unit→Bool} {f2:Blk×Unit→Int×Int×Int×Int×Int×Int×List IOp×Unit} (hp2:∀b,b.ops.length<1000000→p2 (b,())=true) (hf2:∀b,b.ops.length<1000000→f2 (b,())=bk7 (H8 b)) {p3:Blk×Unit→Bool} {f3:Blk×Unit→Int×Int×Int×Int×Int×Int×List IOp×Unit} (hp3:∀b,b.ops.length<1000000→p3 (b,())=true) (hf3:∀b,b.ops.length<1000000→f3 (b,())=bk7 (cZ b)) {p4:Int×List Int×Int×Unit→Bool} {f4:Int×List Int×Int×Unit→Int×List Int×Int×Unit} (hp4:∀n b p,Bt b→0≤p→p<1000000000→p4 (n,b,p,())=true) (hf4:∀n b p,Bt b→0≤p→p<1000000000→Pk n b p (f4 (n,b,p,()))) {p5:Blk×List Int×Int×Unit→Bool} {f5:Blk×List Int×Int×Unit→Int×Int×Int×Int×Int×Int×List Int×Int×List IOp×Unit} (hp5:∀c b p,c.ops.length<1000000→Bt b→0≤p→p<900000000→p5 (c,b,p,())=true) (hf5:∀c b p,c.ops.length<1000000→Bt b→0≤p→p<900000000→BkD 20 c.ops.length b p (f5 (c,b,p,()))) {p6:Int×List Int×Int×Unit→Bool} {f6:Int×List Int×Int×Unit→Blk×List Int×Int×Unit} (hp6:∀n b p,Bt b→0≤p→p<500000000→p6 (n,b,p,())=true) (hf6:∀n b p,Bt b→0≤p→p<500000000→BoD b p (f6 (n,b,p,()))) {p7:Blk×List Int×Int×Unit→Bool} {f7:Blk×List Int×Int×Unit→Int×Int×Int×Int×Int×Int×List Int×Int×List IOp×Unit} (hp7:∀c b p,dL c→c.ops.length<1000000→Bt b→0≤p→p<600000000→p7 (c,b,p,())=true) (hf7:∀c b p,dL c→c.ops.length<1000000→Bt b→0≤p→p<600000000→BkD 1000000 c.ops.length b p (f7 (c,b,p,()))) (n:Int) (b:List Int) (p:Int) (hb:Bt b) (h1:0≤p) (h2:p<400000000):RA (std 0) p1 f1 p2 f2 p3 f3 p4 f4 p5 f5 p6 f6 p7 f7 (n,b,p,()) (fun(y:Blk×Blk×List Int×Int×Unit)=>y.1.ops.length<100000∧y.2.1.ops.length<100000∧y.2.2.1=b∧p≤y.2.2.2.1∧y.2.2.2.1≤p+10000000):=by
 replace hf2:=fun c h=>show(f2 (c,())).2.2.2.2.2.2.1.length≤c.ops.length by rw [hf2 c h];exact Az c
 replace hf3:=fun c h=>show(f3 (c,())).2.2.2.2.2.2.1.length≤c.ops.length by rw [hf3 c h];exact rz c
 have R:=pkR hb hf4
 have P:=fun n p h1 h2=>hp4 n b p hb h1 h2
 obtain⟨a1,a2,a3,a4⟩:=hf6 n b p hb h1 (by omega)
 have ne:=fun(m:Int) h1 h2=>hf6 n b m hb h1 h2
 generalize hz:(f6 (n,b,p,())).1=z at a1
 generalize hq:(f6 (n,b,p,())).2.2.1=q at a3 a4
 have D1:=hp2 z (by omega)
 have D2:=hf2 z (by omega)
 have D3:=hp3 z (by omega)
 have D4:=hf3 z (by omega)
 have B1:=fun c m (h:c.ops.length<1000000) h1 h2=>hp5 c b m h hb h1 h2
 have B2:=fun c m (h:c.ops.length<1000000) h1 h2=>hf5 c b m h hb h1 h2
 dsimp only [RA,Alg.cl,Alg.cg,Alg.rb,Alg.bd,Alg.l1,Tup.q,Tup.o]
 simp (disch:=omega) only [RR,hp6 n b p hb h1 (by omega),hz,a2,hq,hp1 z (by omega),hf1 z (by omega),R,P,D1,D3]
 refine⟨fun _=>⟨a1,a1,by omega,by omega⟩,fun h=> ?_⟩
 have ok:=bL.1 h
 have c0:=hf7 z b (q+1) ok (by omega) hb (by omega) (by omega)
 have d0:=hp7 z b (q+1) ok (by omega) hb (by omega) (by omega)
 have l1:(f2 (z,())).2.2.2.2.2.2.1.length<1000000:=by omega
 have cl:=c0.len
 have ch:=c0.hi
 have cw:=c0.lo
 have cb:=c0.b
 refine⟨fun _=>⟨d0,a1,Nat.lt_of_le_of_lt cl a1,cb,by omega,by omega⟩,fun _=>⟨fun _=>⟨a1,Nat.lt_of_le_of_lt D2 a1,by omega,by omega⟩,fun _=>⟨fun _=>⟨d0,hp2 _ (Nat.lt_of_le_of_lt cl (by omega)),a1,Nat.lt_of_le_of_lt (hf2 _ (Nat.lt_of_le_of_lt cl (by omega))) (Nat.lt_of_le_of_lt cl a1),cb,by omega,by omega⟩,fun _=>⟨fun _=> ?_,fun _=>⟨fun _=> ?_,fun _=>⟨fun _=> ?_,fun _=>⟨fun _=> ?_,fun _=>⟨fun _=> ?_,fun _=> ?_⟩⟩⟩⟩⟩⟩⟩⟩
 ·have:=B2 z (q+1) (by omega) (by omega) (by omega)
  exact⟨B1 z (q+1) (by omega) (by omega) (by omega),a1,Nat.lt_of_le_of_lt this.len a1,this.b,by have:=this.lo;omega,by have:=this.hi;omega⟩
 ·have:=B2 (ao6 (f2 (z,()))) (q+1) l1 (by omega) (by omega)
  exact⟨B1 (ao6 (f2 (z,()))) (q+1) l1 (by omega) (by omega),a1,Nat.lt_of_le_of_lt this.len (Nat.lt_of_le_of_lt D2 a1),this.b,Int.le_trans (by omega) this.lo,Int.le_trans this.hi (by omega)⟩
 ·exact⟨Nat.lt_of_le_of_lt D2 a1,a1,by omega,by omega⟩
 ·obtain⟨g1,g2,g3,g4⟩:=hf6 n b (q+1) hb (by omega) (by omega)
  exact⟨hp6 n b (q+1) hb (by omega) (by omega),a1,g1,g2,by omega,by omega⟩
 ·exact⟨a1,Nat.lt_of_le_of_lt D4 a1,by omega,by omega⟩
 ·exact⟨a1,a1,by omega,by omega⟩
end Go.TX.F
namespace Go.TX.F
open Go Go.AE Go.TX
end Go.TX.F
namespace Go.TX.F
open Go Go.AE Go.TX
end Go.TX.F
namespace Go.TX.F
open Go Go.AE Go.TX
theorem aao (x y:IOp):ala .iop x y=decide (x=y):=rfl
theorem AA {P:Prop} [Decidable P]:decide P=bp P:=by unfold bp;congr
theorem aap (a b:List IOp) (ha:a.length<1000000000):Q7 (std 0) (a,b,()) (fun y=>y=(bp (a=b),())):=by
 dsimp only [Q7,Alg.cl,Alg.cg,Alg.rb,Alg.bd,Alg.l1,Tup.q,Tup.o]
 simp (disch:=omega) only [RR]
 refine⟨fun h=> ?_,fun h=> ?_⟩
 ·rw [fM (fun e=>h (by rw [e]))]
 have hl:a.length=b.length:=by omega
 refine au (fun(y:List IOp×List IOp×Int×Int×Unit)=>y.1=a∧y.2.1=b∧y.2.2.1=a.length∧0≤y.2.2.2.1∧y.2.2.2.1≤a.length∧All y.2.2.2.1 (fun i=>a.getD i.toNat default=b.getD i.toNat default)) (fun y=>(a.length-y.2.2.2.1).toNat) ⟨rfl,rfl,rfl,by simp,by simp,All.zero⟩ ?_
 rintro⟨(l1:List IOp),(l2:List IOp),(n:Int),(i:Int),⟨⟩⟩ hI
 dsimp only at hI ⊢
 obtain⟨rfl,rfl,rfl,h1,h2,h3⟩:=hI
 simp (disch:=omega) only [RR,aao]
 refine⟨fun h4=>⟨by omega,by omega,by omega,by omega,fun h5=> ?_,fun h5=>⟨⟨by omega,by omega,h3.snoc h5⟩,by omega⟩⟩,fun h4=> ?_⟩
 ·rw [fM]
  intro e;rw [e]at h5;exact h5 rfl
 ·rw [dD (zi hl (h3.le (by omega)))]
theorem ao7 {p1:List IOp×List IOp×Unit→Bool} {f1:List IOp×List IOp×Unit→Bool×Unit} (hp1:∀a b,a.length<1000000000→p1 (a,b,())=true) (hf1:∀a b,a.length<1000000000→f1 (a,b,())=(bp (a=b),())) (a b:Blk) (ha:a.ops.length<1000000000):X8 (std 0) p1 f1 (a,b,()) (fun y=>y=(bp (a=b),())):=by
 dsimp only [X8,Alg.cl,Alg.cg,Alg.rb,Alg.bd,Alg.l1,Tup.q,Tup.o]
 simp (disch:=omega) only [RR,RB,hp1 _ _ ha,hf1 _ _ ha]
 simp only [AA,←kZ]
 refine Prod.ext (lg ?_) rfl
 cases a;cases b;simp only [Blk.mk.injEq]
 constructor<;>(intro h;simp only [h,and_self])
theorem ao8 {p1:List aj×List aj×Unit→Bool} {f1:List aj×List aj×Unit→Bool×Unit} (hp1:∀a b,Sh a→p1 (a,b,())=true) (hf1:∀a b,Sh a→f1 (a,b,())=(decide (iT a b=0),())) (a b:List aj) (ha:Sh a):Ze (std 0) p1 f1 (a,b,()) (fun y=>y=(decide (iT a b=0),())):=by
 dsimp only [Ze,Alg.cl,Alg.cg,Alg.rb,Alg.bd,Alg.l1,Tup.q,Tup.o]
 simp (disch:=omega) only [RR,hp1 _ _ ha,hf1 _ _ ha]
theorem aiM {p1:List aj×List aj×Unit→Bool} {f1:List aj×List aj×Unit→Bool×Unit} (hp1:∀a b,Sh a→p1 (a,b,())=true) (hf1:∀a b,Sh a→f1 (a,b,())=(decide (iT a b=0),())) (a b:List (List aj)) (ha:ShP a):Rw (std 0) p1 f1 (a,b,()) (fun y=>y=(bp (a=b),())):=by
 have hlen:=ha.1
 dsimp only [Rw,Alg.cl,Alg.cg,Alg.rb,Alg.bd,Alg.l1,Tup.q,Tup.o]
 simp (disch:=omega) only [RR]
 refine⟨fun h=> ?_,fun h=> ?_⟩
 ·rw [fM (fun e=>h (by rw [e]))]
 have hl:a.length=b.length:=by omega
 refine au (fun(y:List (List aj)×List (List aj)×Int×Int×Unit)=>y.1=b∧y.2.1=a∧y.2.2.1=a.length∧0≤y.2.2.2.1∧y.2.2.2.1≤a.length∧All y.2.2.2.1 (fun i=>a.getD i.toNat default=b.getD i.toNat default)) (fun y=>(a.length-y.2.2.2.1).toNat) ⟨rfl,rfl,rfl,by simp,by simp,All.zero⟩ ?_
 rintro⟨(l1:List (List aj)),(l2:List (List aj)),(n:Int),(i:Int),⟨⟩⟩ hI
 dsimp only at hI ⊢
 obtain⟨rfl,rfl,rfl,h1,h2,h3⟩:=hI
 simp (disch:=omega) only [RR,hp1 _ _ (ha.at _),hf1 _ _ (ha.at _),l5]
 refine⟨fun h4=>⟨by omega,by omega,by omega,by omega,fun h5=> ?_,fun h5=>⟨⟨by omega,by omega,h3.snoc h5⟩,by omega⟩⟩,fun h4=> ?_⟩
 ·rw [fM]
  intro e;rw [e]at h5;exact h5 rfl
 ·rw [dD (zi hl (h3.le (by omega)))]
theorem ao9 {p1:List (List aj)×List (List aj)×Unit→Bool} {f1:List (List aj)×List (List aj)×Unit→Bool×Unit} (hp1:∀a b,ShP a→p1 (a,b,())=true) (hf1:∀a b,ShP a→f1 (a,b,())=(bp (a=b),())) (a b:List (List aj)) (ha:ShP a):Zf (std 0) p1 f1 (a,b,()) (fun y=>y=(bp (a=b),())):=by
 dsimp only [Zf,Alg.cl,Alg.cg,Alg.rb,Alg.bd,Alg.l1,Tup.q,Tup.o]
 simp (disch:=omega) only [RR,hp1 _ _ ha,hf1 _ _ ha]
theorem apa {p1:List aj×List aj×Unit→Bool} {f1:List aj×List aj×Unit→Bool×Unit} (hp1:∀a b,Sh a→p1 (a,b,())=true) (hf1:∀a b,Sh a→f1 (a,b,())=(decide (iT a b=0),())) {p2:List (List aj)×List (List aj)×Unit→Bool} {f2:List (List aj)×List (List aj)×Unit→Bool×Unit} (hp2:∀a b,ShP a→p2 (a,b,())=true) (hf2:∀a b,ShP a→f2 (a,b,())=(bp (a=b),())) (a b:Ev) (ha:ShE a):Zg (std 0) p1 f1 p2 f2 (a,b,()) (fun y=>y=(bp (a=b),())):=by
 dsimp only [Zg,Alg.cl,Alg.cg,Alg.rb,Alg.bd,Alg.l1,Tup.q,Tup.o]
 simp (disch:=omega) only [RR,RB,hp1 _ _ ha.1,hf1 _ _ ha.1,hp1 _ _ ha.2.1,hf1 _ _ ha.2.1,hp2 _ _ ha.2.2,hf2 _ _ ha.2.2,l5]
 simp only [AA,←kZ]
 refine Prod.ext (lg ?_) rfl
 cases a;cases b;simp only [Ev.mk.injEq]
 constructor<;>(intro h;simp only [h,and_self])
theorem aiN {p1:Ev×Ev×Unit→Bool} {f1:Ev×Ev×Unit→Bool×Unit} (hp1:∀a b,ShE a→p1 (a,b,())=true) (hf1:∀a b,ShE a→f1 (a,b,())=(bp (a=b),())) (a b:List Ev) (ha:Wm a):Rx (std 0) p1 f1 (a,b,()) (fun y=>y=(bp (a=b),())):=by
 have hlen:=ha.1
 dsimp only [Rx,Alg.cl,Alg.cg,Alg.rb,Alg.bd,Alg.l1,Tup.q,Tup.o]
 simp (disch:=omega) only [RR]
 refine⟨fun h=> ?_,fun h=> ?_⟩
 ·rw [fM (fun e=>h (by rw [e]))]
 have hl:a.length=b.length:=by omega
 refine au (fun(y:List Ev×List Ev×Int×Int×Unit)=>y.1=b∧y.2.1=a∧y.2.2.1=a.length∧0≤y.2.2.2.1∧y.2.2.2.1≤a.length∧All y.2.2.2.1 (fun i=>a.getD i.toNat default=b.getD i.toNat default)) (fun y=>(a.length-y.2.2.2.1).toNat) ⟨rfl,rfl,rfl,by simp,by simp,All.zero⟩ ?_
 rintro⟨(l1:List Ev),(l2:List Ev),(n:Int),(i:Int),⟨⟩⟩ hI
 dsimp only at hI ⊢
 obtain⟨rfl,rfl,rfl,h1,h2,h3⟩:=hI
 simp (disch:=omega) only [RR,hp1 _ _ (ha.at _),hf1 _ _ (ha.at _),bL,mY]
 refine⟨fun h4=>⟨by omega,by omega,by omega,by omega,fun h5=> ?_,fun h5=>⟨⟨by omega,by omega,h3.snoc h5⟩,by omega⟩⟩,fun h4=> ?_⟩
 ·rw [fM]
  intro e;rw [e]at h5;exact h5 rfl
 ·rw [dD (zi hl (h3.le (by omega)))]
theorem apb {p1:List aj×List aj×Unit→Bool} {f1:List aj×List aj×Unit→Bool×Unit} (hp1:∀a b,Sh a→p1 (a,b,())=true) (hf1:∀a b,Sh a→f1 (a,b,())=(decide (iT a b=0),())) {p2:List (List aj)×List (List aj)×Unit→Bool} {f2:List (List aj)×List (List aj)×Unit→Bool×Unit} (hp2:∀a b,ShP a→p2 (a,b,())=true) (hf2:∀a b,ShP a→f2 (a,b,())=(bp (a=b),())) {p3:List Ev×List Ev×Unit→Bool} {f3:List Ev×List Ev×Unit→Bool×Unit} (hp3:∀b a,Wm b→p3 (b,a,())=true) (hf3:∀b a,Wm b→f3 (b,a,())=(bp (b=a),())) (a b:Sym) (ha:ShY a):Zj (std 0) p1 f1 p2 f2 p3 f3 (a,b,()) (fun y=>y=(bp (a=b),())):=by
 dsimp only [Zj,Alg.cl,Alg.cg,Alg.rb,Alg.bd,Alg.l1,Tup.q,Tup.o]
 simp (disch:=omega) only [RR,RB,hp1 _ _ ha.x,hf1 _ _ ha.x,hp1 _ _ ha.y,hf1 _ _ ha.y,hp2 _ _ ha.r,hf2 _ _ ha.r,hp3 _ _ ha.e,hf3 _ _ ha.e,l5]
 simp only [AA,←kZ]
 refine Prod.ext (lg ?_) rfl
 cases a;cases b;simp only [Sym.mk.injEq]
 constructor<;>(intro h;simp only [h,and_self])
theorem apc {p1:Blk×Unit→Bool} {f1:Blk×Unit→Bool×Unit} (hp1:∀b,b.ops.length<1000000000→p1 (b,())=true) (hf1:∀b,b.ops.length<1000000000→f1 (b,())=(bp (dL b),())) {p2:Blk×Blk×Unit→Bool} {f2:Blk×Blk×Unit→Bool×Unit} (hp2:∀a b,a.ops.length<1000000000→p2 (a,b,())=true) (hf2:∀a b,a.ops.length<1000000000→f2 (a,b,())=(bp (a=b),())) {p3:Unit→Bool} {f3:Unit→List Atom×List (List aj)×Unit} (hp3:p3 ()=true) (hf3:(f3 ()).1=t4) {p4:List Atom×Blk×Unit→Bool} {f4:List Atom×Blk×Unit→List Atom×Sym×Unit} (hp4:∀t b,ShT t→b.ops.length<1000000000→p4 (t,b,())=true) (hf4:∀t b,ShT t→b.ops.length<1000000000→f4 (t,b,())=((bI t b).1,(bI t b).2,())) {p5:Sym×Sym×Unit→Bool} {f5:Sym×Sym×Unit→Bool×Unit} (hp5:∀a b,ShY a→p5 (a,b,())=true) (hf5:∀a b,ShY a→f5 (a,b,())=(bp (a=b),())) (b c:Blk) (hb:b.ops.length<1000000000) (hc:c.ops.length<1000000000):Zk (std 0) p1 f1 p2 f2 p3 f3 p4 f4 p5 f5 (b,c,()) (fun y=>y=(chk b c,())):=by
 have s4:ShT t4:=Z6.1.sh
 have y1:=KG t4 b
 dsimp only [Zk,Alg.cl,Alg.cg,Alg.rb,Alg.bd,Alg.l1,Tup.q,Tup.o]
 simp (disch:=omega) only [RR,RB,hp1 b hb,hf1 b hb,hp1 c hc,hf1 c hc,hp2 b c hb,hf2 b c hb,hp3,hf3,hp4 t4 b s4 hb,hf4 t4 b s4 hb,hp4 _ c y1.2 hc,hf4 _ c y1.2 hc,hp5 _ _ y1.1,hf5 _ _ y1.1,bL,mY]
 unfold chk
 refine⟨fun h=> ?_,fun h=>⟨fun e=> ?_,fun e=> ?_⟩⟩
 ·rw [fM];rintro⟨h1,h2,h3,h4,_⟩;simp_all
 ·rw [dD];exact⟨h.1.1.1,h.1.1.2,h.1.2,h.2,Or.inl e⟩
 ·refine Prod.ext (lg ?_) rfl
  exact⟨fun g=>⟨h.1.1.1,h.1.1.2,h.1.2,h.2,Or.inr g⟩,fun g=>g.2.2.2.2.resolve_left e⟩
end Go.TX.F
namespace Go.TX.F
open Go Go.AE Go.TX
structure asv (nm:List Int) (fin x y:Int) (ops:List IOp):Prop where
 op:∀i:Int,0≤i→i<ops.length→(hX ((ops).getD (i).toNat default)→0≤(((ops).getD (i).toNat default)).x∧(((ops).getD (i).toNat default)).x<nm.length)∧(hY ((ops).getD (i).toNat default)→0≤(((ops).getD (i).toNat default)).y∧(((ops).getD (i).toNat default)).y<nm.length)
 x:fin≠1→0≤x∧x<nm.length
 y:3≤fin→0≤y∧y<nm.length
 l:ops.length<1000000000
end Go.TX.F
namespace Go.TX.F
open Go Go.AE Go.TX
end Go.TX.F
namespace Go.TX.F
open Go Go.AE Go.TX
theorem ac5 (a b:Blk) (ha:a.ops.length<1000000000):X6 (std 0) (a,b,()) (fun y=>y=(bp (a=b),())):=by
 dsimp only [X6,Alg.cl,Alg.cg,Alg.rb,Alg.bd,Alg.l1,Tup.q,Tup.o]
 simp (disch:=omega) only [RR,RB]
 refine⟨fun h=> ?_,fun h=> ?_⟩
 ·rw [fM];rintro rfl;simp at h
 have hl:a.ops.length=b.ops.length:=by omega
 refine au (fun(y:Int×Blk×Blk×Unit)=>y.2.1=a∧y.2.2.1=b∧0≤y.1∧y.1≤a.ops.length∧All y.1 (fun i=>a.ops.getD i.toNat default=b.ops.getD i.toNat default)) (fun y=>(a.ops.length-y.1).toNat) ⟨rfl,rfl,by simp,by simp,All.zero⟩ ?_
 rintro⟨(i:Int),(a':Blk),(b':Blk),⟨⟩⟩ hI
 dsimp only at hI ⊢
 obtain⟨rfl,rfl,h1,h2,h3⟩:=hI
 simp (disch:=omega) only [RR,RB,aao]
 refine⟨fun h4=>⟨by omega,by omega,by omega,by omega,fun h5=> ?_,fun h5=>⟨⟨by omega,by omega,h3.snoc h5⟩,by omega⟩⟩,fun h4=> ?_⟩
 ·rw [fM];rintro rfl;exact h5 rfl
 ·have e:=zi hl (h3.le (by omega))
  rw [dD]
  cases a';cases b';simp_all
end Go.TX.F
namespace Go.TX.F
open Go Go.AE Go.TX
end Go.TX.F
namespace Go.TX.F
open Go Go.AE Go.TX
def ShC (l:List Cer):Prop:=l.length<1000∧∀q∈l,q.base.ops.length<1000000∧q.made.ops.length<1000000
def vW (l:List Cer) (b c:Blk):Prop:=∃q∈l,q.base=b∧q.made=c
def U3 (l:List Cer):Prop:=l.length≤3∧∀q∈l,chk q.base q.made=true
theorem ShC.at {l:List Cer} (h:ShC l) (i:Nat):(l.getD i default).base.ops.length<1000000∧(l.getD i default).made.ops.length<1000000:=by
 by_cases c:i<l.length
 ·rw [getD_lt c];exact h.2 _ (List.getElem_mem _)
 ·rw [List.getD_eq_getElem?_getD,List.getElem?_eq_none (by omega)];exact⟨by decide,by decide⟩
theorem ShC.add {l:List Cer} (h:ShC l) (n:l.length<999) {q:Cer} (h1:q.base.ops.length<1000000) (h2:q.made.ops.length<1000000):ShC (l++ [q]):=by
 refine⟨by rw [List.length_append,List.length_singleton];omega,fun c g=> ?_⟩
 rw [List.mem_append,List.mem_singleton]at g
 rcases g with g | rfl
 ·exact h.2 c g
 ·exact⟨h1,h2⟩
theorem CRB:(∀q:Cer,gB .cer 0 q=q.base.pc)∧(∀q:Cer,gB .cer 1 q=q.base.len)∧(∀q:Cer,mD .cer 2 .iop q=q.base.ops)∧(∀q:Cer,gB .cer 3 q=q.base.fin)∧(∀q:Cer,gB .cer 4 q=q.base.x)∧(∀q:Cer,gB .cer 5 q=q.base.y)∧(∀q:Cer,gB .cer 6 q=q.base.k)∧
  (∀q:Cer,gB .cer 7 q=q.made.pc)∧(∀q:Cer,gB .cer 8 q=q.made.len)∧(∀q:Cer,mD .cer 9 .iop q=q.made.ops)∧(∀q:Cer,gB .cer 10 q=q.made.fin)∧(∀q:Cer,gB .cer 11 q=q.made.x)∧(∀q:Cer,gB .cer 12 q=q.made.y)∧(∀q:Cer,gB .cer 13 q=q.made.k)∧
  (∀x,Co.mk .blk x=⟨x.1,x.2.1,x.2.2.1,x.2.2.2.1,x.2.2.2.2.1,x.2.2.2.2.2.1,x.2.2.2.2.2.2.1⟩):=
 ⟨fun _=>rfl,fun _=>rfl,fun _=>rfl,fun _=>rfl,fun _=>rfl,fun _=>rfl,fun _=>rfl,fun _=>rfl,fun _=>rfl,fun _=>rfl,fun _=>rfl,fun _=>rfl,fun _=>rfl,fun _=>rfl,fun _=>rfl⟩
theorem Cx {α:Type} {d:α} {l:List α} {i:Nat} {G:α→Prop} (h:i<l.length):(∃q∈l.take (i+1),G q)↔(∃q∈l.take i,G q)∨G (l.getD i d):=by
 rw [List.take_succ_eq_append_getElem h,getD_lt h]
 constructor
 ·rintro⟨q,h1,h2⟩
  rw [List.mem_append,List.mem_singleton]at h1
  rcases h1 with h1 | rfl
  ·exact Or.inl ⟨q,h1,h2⟩
  ·exact Or.inr h2
 ·rintro(⟨q,h1,h2⟩ | h)
  ·exact⟨q,List.mem_append_left _ h1,h2⟩
  ·exact⟨_,List.mem_append_right _ (List.mem_singleton.2 rfl),h⟩
theorem ar2 {p1:Blk×Blk×Unit→Bool} {f1:Blk×Blk×Unit→Bool×Unit} (hp1:∀a b,a.ops.length<1000000000→p1 (a,b,())=true) (hf1:∀a b,a.ops.length<1000000000→f1 (a,b,())=(bp (a=b),())) (q:Cer) (b c:Blk) (h1:q.base.ops.length<1000000000) (h2:q.made.ops.length<1000000000):af5 (std 0) p1 f1 (q,b,c,()) (fun y=>y=(bp (q.base=b∧q.made=c),b,c,())):=by
 have mE:∀c:Blk,Co.mk .blk (c.pc,c.len,c.ops,c.fin,c.x,c.y,c.k,())=c:=fun _=>rfl
 dsimp only [af5,Alg.cl,Alg.cg,Alg.rb,Alg.bd,Alg.l1,Tup.q,Tup.o,Alg.cl,Alg.cg,Alg.rb,Alg.bd,Alg.l1,Tup.q,Tup.o,LY]
 simp (disch:=omega) only [RR,CRB,mE,hp1 _ b h1,hf1 _ b h1,hp1 _ c h2,hf1 _ c h2,kZ]
theorem ar3 {p1:Blk×Blk×Unit→Bool} {f1:Blk×Blk×Unit→Bool×Unit} (hp1:∀b c,b.ops.length<1000000000→c.ops.length<1000000000→p1 (b,c,())=true) (hf1:∀b c,b.ops.length<1000000000→c.ops.length<1000000000→f1 (b,c,())=(chk b c,())) (q:Cer) (h1:q.base.ops.length<1000000000) (h2:q.made.ops.length<1000000000):af6 (std 0) p1 f1 (q,()) (fun y=>y=(!chk q.base q.made,())):=by
 have mE:∀c:Blk,Co.mk .blk (c.pc,c.len,c.ops,c.fin,c.x,c.y,c.k,())=c:=fun _=>rfl
 dsimp only [af6,Alg.cl,Alg.cg,Alg.rb,Alg.bd,Alg.l1,Tup.q,Tup.o,Alg.cl,Alg.cg,Alg.rb,Alg.bd,Alg.l1,Tup.q,Tup.o,LY]
 simp (disch:=omega) only [RR,CRB,mE,hp1 _ _ h1 h2,hf1 _ _ h1 h2]
theorem aiO {p1:Cer×Blk×Blk×Unit→Bool} {f1:Cer×Blk×Blk×Unit→Bool×Blk×Blk×Unit} (hp1:∀q b c,q.base.ops.length<1000000000→q.made.ops.length<1000000000→p1 (q,b,c,())=true) (hf1:∀q b c,q.base.ops.length<1000000000→q.made.ops.length<1000000000→f1 (q,b,c,())=(bp (q.base=b∧q.made=c),b,c,())) (l:List Cer) (b c:Blk) (h:ShC l):RF (std 0) p1 f1 (l,b,c,()) (fun y=>y.2=(b,c,())∧(0≤y.1↔vW l b c)):=by
 have hl:=h.1
 dsimp only [RF,Alg.cl,Alg.cg,Alg.rb,Alg.bd,Alg.l1,Tup.q,Tup.o]
 simp (disch:=omega) only [RR]
 refine au (fun(y:List Cer×Int×Int×Blk×Blk×Unit)=>y.1=l∧y.2.1=l.length∧0≤y.2.2.1∧y.2.2.1≤l.length∧y.2.2.2.1=b∧y.2.2.2.2.1=c∧¬vW (l.take y.2.2.1.toNat) b c) (fun y=>(l.length-y.2.2.1).toNat) ⟨rfl,rfl,by simp,by simp,rfl,rfl,by rintro⟨q,h,_⟩;cases h⟩ ?_
 rintro⟨(l':List Cer),(n:Int),(i:Int),(b':Blk),(c':Blk),⟨⟩⟩ hI
 dsimp only at hI ⊢
 obtain⟨rfl,rfl,h1,h2,rfl,rfl,h3⟩:=hI
 have a:=h.at i.toNat
 simp (disch:=omega) only [RR,hp1 _ b' c' (show(((l').getD (i).toNat default)).base.ops.length<1000000000 by omega) (show(((l').getD (i).toNat default)).made.ops.length<1000000000 by omega),hf1 _ b' c' (show(((l').getD (i).toNat default)).base.ops.length<1000000000 by omega) (show(((l').getD (i).toNat default)).made.ops.length<1000000000 by omega),bL,mY]
 refine⟨fun g=>⟨h1,g,fun e=> ?_,fun e=>⟨⟨by omega,by omega,?_⟩,by omega⟩⟩,fun g=> ?_⟩
 ·exact⟨fun _=>⟨_,iH h1 g,e⟩,fun _=>h1⟩
 ·rw [show(i+1).toNat=i.toNat+1 by omega]
  exact fun x=>((Cx (G:=fun q:Cer=>q.base=b'∧q.made=c') (by omega)).1 x).elim h3 e
 ·rw [List.take_of_length_le (by omega)]at h3
  exact⟨fun x=>absurd x (by decide),fun x=>absurd x h3⟩
theorem aiP {p1:Cer×Unit→Bool} {f1:Cer×Unit→Bool×Unit} (hp1:∀q,q.base.ops.length<1000000000→q.made.ops.length<1000000000→p1 (q,())=true) (hf1:∀q,q.base.ops.length<1000000000→q.made.ops.length<1000000000→f1 (q,())=(!chk q.base q.made,())) (l:List Cer) (h:ShC l):RG (std 0) p1 f1 (l,()) (fun y=>0≤y.1↔∃q∈l,chk q.base q.made=false):=by
 have hl:=h.1
 dsimp only [RG,Alg.cl,Alg.cg,Alg.rb,Alg.bd,Alg.l1,Tup.q,Tup.o]
 simp (disch:=omega) only [RR]
 refine au (fun(y:List Cer×Int×Int×Unit)=>y.1=l∧y.2.1=l.length∧0≤y.2.2.1∧y.2.2.1≤l.length∧¬∃q∈l.take y.2.2.1.toNat,chk q.base q.made=false) (fun y=>(l.length-y.2.2.1).toNat) ⟨rfl,rfl,by simp,by simp,by rintro⟨q,h,_⟩;cases h⟩ ?_
 rintro⟨(l':List Cer),(n:Int),(i:Int),⟨⟩⟩ hI
 dsimp only at hI ⊢
 obtain⟨rfl,rfl,h1,h2,h3⟩:=hI
 have a:=h.at i.toNat
 simp (disch:=omega) only [RR,hp1 _ (show(((l').getD (i).toNat default)).base.ops.length<1000000000 by omega) (show(((l').getD (i).toNat default)).made.ops.length<1000000000 by omega),hf1 _ (show(((l').getD (i).toNat default)).base.ops.length<1000000000 by omega) (show(((l').getD (i).toNat default)).made.ops.length<1000000000 by omega)]
 refine⟨fun g=>⟨h1,g,fun e=> ?_,fun e=>⟨⟨by omega,by omega,?_⟩,by omega⟩⟩,fun g=> ?_⟩
 ·exact⟨fun _=>⟨_,iH h1 g,e⟩,fun _=>h1⟩
 ·rw [show(i+1).toNat=i.toNat+1 by omega]
  exact fun x=>((Cx (G:=fun q:Cer=>chk q.base q.made=false) (by omega)).1 x).elim h3 (fun z=>by rw [e]at z;cases z)
 ·rw [List.take_of_length_le (by omega)]at h3
  exact⟨fun x=>absurd x (by decide),fun x=>absurd x h3⟩
theorem aiQ {p1:List Cer×Blk×Blk×Unit→Bool} {f1:List Cer×Blk×Blk×Unit→Int×Blk×Blk×Unit} (hp1:∀l b c,ShC l→p1 (l,b,c,())=true) (hf1:∀l b c,ShC l→(f1 (l,b,c,())).2=(b,c,())∧(0≤(f1 (l,b,c,())).1↔vW l b c)) (l:List Cer) (b c:Blk) (h:ShC l):RH (std 0) p1 f1 (l,b,c,()) (fun y=>y=(bp (vW l b c),b,c,())):=by
 obtain⟨a1,a2⟩:=hf1 l b c h
 have e1:(f1 (l,b,c,())).2.1=b:=congrArg Prod.fst a1
 have e2:(f1 (l,b,c,())).2.2.1=c:=congrArg (fun z=>z.2.1) a1
 dsimp only [RH,Alg.cl,Alg.cg,Alg.rb,Alg.bd,Alg.l1,Tup.q,Tup.o]
 simp (disch:=omega) only [RR,hp1 l b c h,e1,e2,AA,lg a2]
theorem aiR {p1:List Cer×Unit→Bool} {f1:List Cer×Unit→Int×Unit} (hp1:∀l,ShC l→p1 (l,())=true) (hf1:∀l,ShC l→(0≤(f1 (l,())).1↔∃q∈l,chk q.base q.made=false)) (l:List Cer) (h:ShC l):RJ (std 0) p1 f1 (l,()) (fun y=>y=(bp (∃q∈l,chk q.base q.made=false),())):=by
 dsimp only [RJ,Alg.cl,Alg.cg,Alg.rb,Alg.bd,Alg.l1,Tup.q,Tup.o]
 simp (disch:=omega) only [RR,hp1 l h,AA,lg (hf1 l h)]
theorem ar4 {p1:List Cer×Blk×Blk×Unit→Bool} {f1:List Cer×Blk×Blk×Unit→Bool×Blk×Blk×Unit} (hp1:∀l b c,ShC l→p1 (l,b,c,())=true) (hf1:∀l b c,ShC l→f1 (l,b,c,())=(bp (vW l b c),b,c,())) (l:List Cer) (b c:Blk) (h:ShC l):agb (std 0) p1 f1 (l,b,c,()) (fun y=>y=(bp (vW l b c),())):=by
 dsimp only [agb,Alg.cl,Alg.cg,Alg.rb,Alg.bd,Alg.l1,Tup.q,Tup.o]
 simp (disch:=omega) only [RR,hp1 l b c h,hf1 l b c h]
theorem ar5 {p1:List Cer×Unit→Bool} {f1:List Cer×Unit→Bool×Unit} (hp1:∀l,ShC l→p1 (l,())=true) (hf1:∀l,ShC l→f1 (l,())=(bp (∃q∈l,chk q.base q.made=false),())) (l:List Cer) (h:ShC l):agf (std 0) p1 f1 (l,()) (fun y=>y=(bp (U3 l),())):=by
 dsimp only [agf,Alg.cl,Alg.cg,Alg.rb,Alg.bd,Alg.l1,Tup.q,Tup.o]
 simp (disch:=omega) only [RR,hp1 l h,hf1 l h]
 have e:(!bp (∃q∈l,chk q.base q.made=false))=bp (∀q∈l,chk q.base q.made=true):=by
  by_cases c:∃q∈l,chk q.base q.made=false
  ·rw [dD c,fM]; · rfl
   intro g;obtain⟨q,q1,q2⟩:=c;rw [g q q1]at q2;cases q2
  ·rw [fM c,dD]; · rfl
   intro q q1
   by_cases d:chk q.base q.made=true
   ·exact d
   ·exact absurd ⟨q,q1,by simpa using d⟩ c
 rw [e,AA,←kZ]
 exact Prod.ext (lg (by unfold U3;constructor<;>rintro⟨g1,g2⟩<;>exact⟨by omega,g2⟩)) rfl
theorem aaq (a b:Blk) (ha:a.ops.length<1000000000):RL (std 0) (a,b,()) (fun y=>y=(bp (a=b),())):=by
 dsimp only [RL,Alg.cl,Alg.cg,Alg.rb,Alg.bd,Alg.l1,Tup.q,Tup.o]
 simp (disch:=omega) only [RR,RB]
 refine⟨fun h=> ?_,fun h=> ?_⟩
 ·rw [fM];rintro rfl;simp at h
 have hl:a.ops.length=b.ops.length:=by omega
 refine au (fun(y:Int×Blk×Blk×Unit)=>y.2.1=a∧y.2.2.1=b∧0≤y.1∧y.1≤a.ops.length∧All y.1 (fun i=>a.ops.getD i.toNat default=b.ops.getD i.toNat default)) (fun y=>(a.ops.length-y.1).toNat) ⟨rfl,rfl,by simp,by simp,All.zero⟩ ?_
 rintro⟨(i:Int),(a':Blk),(b':Blk),⟨⟩⟩ hI
 dsimp only at hI ⊢
 obtain⟨rfl,rfl,h1,h2,h3⟩:=hI
 simp (disch:=omega) only [RR,RB,aao]
 refine⟨fun h4=>⟨by omega,by omega,by omega,by omega,fun h5=> ?_,fun h5=>⟨⟨by omega,by omega,h3.snoc h5⟩,by omega⟩⟩,fun h4=> ?_⟩
 ·rw [fM];rintro rfl;exact h5 rfl
 ·have e:=zi hl (h3.le (by omega))
  rw [dD]
  cases a';cases b';simp_all
theorem aiS {p1:Blk×Blk×Unit→Bool} {f1:Blk×Blk×Unit→Bool×Unit} (hp1:∀a b,a.ops.length<1000000000→p1 (a,b,())=true) (hf1:∀a b,a.ops.length<1000000000→f1 (a,b,())=(bp (a=b),())) (l:List Cer) (b c:Blk) (h:ShC l):RN (std 0) p1 f1 (l,b,c,()) (fun y=>y=(bp (vW l b c),())):=by
 have hl:=h.1
 have mE:∀c:Blk,Co.mk .blk (c.pc,c.len,c.ops,c.fin,c.x,c.y,c.k,())=c:=fun _=>rfl
 dsimp only [RN,Alg.cl,Alg.cg,Alg.rb,Alg.bd,Alg.l1,Tup.q,Tup.o,Alg.cl,Alg.cg,Alg.rb,Alg.bd,Alg.l1,Tup.q,Tup.o,LY]
 simp (disch:=omega) only [RR]
 refine au (fun(y:List Cer×Int×Blk×Blk×Unit)=>y.1=l∧0≤y.2.1∧y.2.1≤l.length∧y.2.2.1=b∧y.2.2.2.1=c∧¬vW (l.take y.2.1.toNat) b c) (fun y=>(l.length-y.2.1).toNat) ⟨rfl,by simp,by simp,rfl,rfl,by rintro⟨q,h,_⟩;cases h⟩ ?_
 rintro⟨(l':List Cer),(i:Int),(b':Blk),(c':Blk),⟨⟩⟩ hI
 dsimp only at hI ⊢
 obtain⟨rfl,h1,h2,rfl,rfl,h3⟩:=hI
 have a:=h.at i.toNat
 simp (disch:=omega) only [RR,CRB,mE,hp1 (((l').getD (i).toNat default)).base b' (by omega),hf1 (((l').getD (i).toNat default)).base b' (by omega),hp1 (((l').getD (i).toNat default)).made c' (by omega),hf1 (((l').getD (i).toNat default)).made c' (by omega),bL,mY]
 refine⟨fun g=>⟨h1,g,Or.inr h1,Or.inr g,fun e=> ?_,fun e=>⟨⟨by omega,by omega,?_⟩,by omega⟩⟩,fun g=> ?_⟩
 ·rw [dD (show vW l' b' c' from⟨_,iH h1 g,e⟩)]
 ·rw [show(i+1).toNat=i.toNat+1 by omega]
  rw [←kZ]at e
  exact fun x=>((Cx (G:=fun q:Cer=>q.base=b'∧q.made=c') (by omega)).1 x).elim h3 (mY.1 e)
 ·rw [List.take_of_length_le (by omega)]at h3
  rw [fM h3]
theorem aiT {p1:Blk×Unit→Bool} {f1:Blk×Unit→Int×Int×Int×Int×Int×Int×List IOp×Unit} (hp1:∀b,b.ops.length<1000000→p1 (b,())=true) (hf1:∀b,b.ops.length<1000000→f1 (b,())=bk7 (H8 b)) {p2:Int×List Int×Int×Unit→Bool} {f2:Int×List Int×Int×Unit→Bool×List Int×Int×Unit} (hp2:∀n b p,Bt b→0≤p→p<1000000000→p2 (n,b,p,())=true) (hf2:∀n b p,Bt b→0≤p→p<1000000000→(f2 (n,b,p,())).2.1=b∧(f2 (n,b,p,())).2.2.1=p+1) {p3:Int×List Int×Int×Unit→Bool} {f3:Int×List Int×Int×Unit→Int×List Int×Int×Unit} (hp3:∀n b p,Bt b→0≤p→p<1000000000→p3 (n,b,p,())=true) (hf3:∀n b p,Bt b→0≤p→p<1000000000→Pk n b p (f3 (n,b,p,()))) {p4:Blk×List Int×Int×Unit→Bool} {f4:Blk×List Int×Int×Unit→Int×Int×Int×Int×Int×Int×List Int×Int×List IOp×Unit} (hp4:∀c b p,c.ops.length<1000000→Bt b→0≤p→p<900000000→p4 (c,b,p,())=true) (hf4:∀c b p,c.ops.length<1000000→Bt b→0≤p→p<900000000→BkD 20 c.ops.length b p (f4 (c,b,p,()))) {p5:List Int×Int×Unit→Bool} {f5:List Int×Int×Unit→Int×Int×Int×Int×Int×Int×List Int×Int×List IOp×Unit} (hp5:∀b p,Bt b→0≤p→p<600000000→p5 (b,p,())=true) (hf5:∀b p,Bt b→0≤p→p<600000000→BkD 2000 5000 b p (f5 (b,p,()))) (n:Int) (b:List Int) (p:Int) (hb:Bt b) (h1:0≤p) (h2:p<300000000):Ry (std 0) p1 f1 p2 f2 p3 f3 p4 f4 p5 f5 (n,b,p,()) (fun(y:List Cer×List Int×Int×Unit)=>ShC y.1∧y.2.1=b∧p≤y.2.2.1∧y.2.2.1≤p+20000):=by
 replace hf1:=fun c h=>show(f1 (c,())).2.2.2.2.2.2.1.length≤c.ops.length by rw [hf1 c h];exact Az c
 obtain⟨q1,q2,q3,q4⟩:=hf3 4 b p hb h1 (by omega)
 dsimp only [Ry,Alg.cl,Alg.cg,Alg.rb,Alg.bd,Alg.l1,Tup.q,Tup.o]
 simp (disch:=omega) only [RR,hp3 4 b p hb h1 (by omega),q1,q2]
 generalize (f3 (4,b,p,())).1=k at q3 q4 ⊢
 refine au (fun(y:Int×Int×List Int×Int×List Cer×Unit)=>y.1=n∧0≤y.2.1∧y.2.1≤4∧y.2.2.1=b∧p≤y.2.2.2.1∧y.2.2.2.1≤p+1+(4-y.2.1)*2000∧ShC y.2.2.2.2.1∧(y.2.2.2.2.1.length:Int)≤4-y.2.1) (fun y=>y.2.1.toNat) ⟨rfl,q3,by dsimp only;omega,rfl,by dsimp only;omega,by dsimp only;omega,⟨by simp,fun q h=>by cases h⟩,by simp;omega⟩ ?_
 rintro⟨(n':Int),(i:Int),(b':List Int),(r:Int),(l:List Cer),⟨⟩⟩ hI
 dsimp only at hI ⊢
 obtain⟨rfl,i1,i2,rfl,i3,i4,i5,i6⟩:=hI
 obtain⟨a1,a2,a3,a4⟩:=hf5 b' r hb (by omega) (by omega)
 obtain⟨o1,o2⟩:=hf2 n' b' r hb (by omega) (by omega)
 obtain⟨c1,c2,c3,c4⟩:=hf5 b' (r+1) hb (by omega) (by omega)
 simp (disch:=omega) only [RR,hp5 b' r hb (show 0≤r by omega) (show r<600000000 by omega),hp5 b' (r+1) hb (show 0≤r+1 by omega) (show r+1<600000000 by omega),hp2 n' b' r hb (show 0≤r by omega) (show r<1000000000 by omega),o1,o2,a1,c1,List.length_append,List.length_cons,List.length_nil]
 generalize f5 (b',r,())=y at a1 a2 a3 a4 ⊢
 generalize f5 (b',r+1,())=z at c1 c2 c3 c4 ⊢
 have y1:(⟨y.1,y.2.1,y.2.2.2.2.2.2.2.2.1,y.2.2.1,y.2.2.2.1,y.2.2.2.2.1,y.2.2.2.2.2.1⟩:Blk).ops.length<1000000:=show y.2.2.2.2.2.2.2.2.1.length<1000000 by omega
 have z1:(⟨z.1,z.2.1,z.2.2.2.2.2.2.2.2.1,z.2.2.1,z.2.2.2.1,z.2.2.2.2.1,z.2.2.2.2.2.1⟩:Blk).ops.length<1000000:=show z.2.2.2.2.2.2.2.2.1.length<1000000 by omega
 obtain⟨d1,d2,d3,d4⟩:=hf4 _ b' z.2.2.2.2.2.2.2.1 z1 hb (by omega) (by omega)
 refine⟨fun g=>⟨hp1 _ y1,by omega,⟨by omega,by omega,by omega,by omega,i5.add (by omega) y1 (Nat.lt_of_le_of_lt (hf1 _ y1) y1),by omega⟩,by omega⟩,fun g=>⟨fun _=>⟨hp4 _ b' _ z1 hb (by omega) (by omega),by omega,i5.add (by omega) z1 (Nat.lt_of_le_of_lt d4 z1),d1,Int.le_trans (by omega) d2,Int.le_trans d3 (by omega)⟩,fun _=>⟨i5,by omega,by omega⟩⟩⟩
theorem aiU {p1:List Int×Unit→Bool} {f1:List Int×Unit→List Int×Int×Unit} (hp1:∀b,By b→b.length<1000000000→p1 (b,())=true) (hf1:∀b,By b→b.length<1000000000→Bt (f1 (b,())).1∧(f1 (b,())).2.1=0) {p2:Int×List Int×Int×Unit→Bool} {f2:Int×List Int×Int×Unit→Int×List Int×Int×Unit} (hp2:∀n b p,Bt b→0≤p→p<1000000000→p2 (n,b,p,())=true) (hf2:∀n b p,Bt b→0≤p→p<1000000000→Pk n b p (f2 (n,b,p,()))) {p3:Int×List Int×Int×Unit→Bool} {f3:Int×List Int×Int×Unit→Blk×Blk×List Int×Int×Unit} (hp3:∀n b p,Bt b→0≤p→p<400000000→p3 (n,b,p,())=true) (hf3:∀n b p,Bt b→0≤p→p<400000000→(f3 (n,b,p,())).1.ops.length<100000∧(f3 (n,b,p,())).2.1.ops.length<100000∧(f3 (n,b,p,())).2.2.1=b∧p≤(f3 (n,b,p,())).2.2.2.1∧(f3 (n,b,p,())).2.2.2.1≤p+10000000) {p4:Int×List Int×Int×Unit→Bool} {f4:Int×List Int×Int×Unit→List Cer×List Int×Int×Unit} (hp4:∀n b p,Bt b→0≤p→p<300000000→p4 (n,b,p,())=true) (hf4:∀n b p,Bt b→0≤p→p<300000000→ShC (f4 (n,b,p,())).1∧(f4 (n,b,p,())).2.1=b∧p≤(f4 (n,b,p,())).2.2.1∧(f4 (n,b,p,())).2.2.1≤p+20000) (c:List Int) (hc:By c) (hl:c.length<1000000000):RD (std 0) p1 f1 p2 f2 p3 f3 p4 f4 (c,()) (fun y=>ShC y.1∧y.2.1.ops.length<1000000∧y.2.2.1.ops.length<1000000):=by
 obtain⟨hb,e0⟩:=hf1 c hc hl
 generalize hbe:(f1 (c,())).1=b at hb
 have R:=pkR hb hf2
 have P:=fun n p h1 h2=>hp2 n b p hb h1 h2
 obtain⟨a1,a2,a3,a4⟩:=hf4 9 b 0 hb (by omega) (by omega)
 have B:=fun(q:Int) h1 h2=>hf3 9 b q hb h1 h2
 have Bp:=fun(q:Int) h1 h2=>hp3 9 b q hb h1 h2
 dsimp only [RD,Alg.cl,Alg.cg,Alg.rb,Alg.bd,Alg.l1,Tup.q,Tup.o]
 simp (disch:=omega) only [RR,hp1 c hc hl,hbe,e0,hp4 9 b 0 hb (by omega) (by omega),a2,R,P]
 have at_:=fun i=>a1.at i
 refine⟨fun g=>⟨fun e=>⟨(R.2.2.2.1 _ _ _ (by omega) (by omega) (Int.le_refl _) g).mpr trivial,a1,(at_ _).1,(at_ _).2⟩,fun _=>⟨Bp _ (by omega) (by omega),a1,?_⟩⟩,fun g=>⟨g,Bp _ (by omega) (by omega),a1,?_⟩⟩
 ·obtain⟨x1,x2,_⟩:=B ((f4 (9,b,0,())).2.2.1+1) (by omega) (by omega)
  exact⟨by omega,by omega⟩
 ·obtain⟨x1,x2,_⟩:=B (f4 (9,b,0,())).2.2.1 (by omega) (by omega)
  exact⟨by omega,by omega⟩
theorem apd {p1:List Cer×Blk×Blk×Unit→Bool} {f1:List Cer×Blk×Blk×Unit→Bool×Unit} (hp1:∀l b c,ShC l→p1 (l,b,c,())=true) (hf1:∀l b c,ShC l→f1 (l,b,c,())=(bp (vW l b c),())) {p2:List Cer×Unit→Bool} {f2:List Cer×Unit→Bool×Unit} (hp2:∀l,ShC l→p2 (l,())=true) (hf2:∀l,ShC l→f2 (l,())=(bp (U3 l),())) {p3:Blk×Blk×Unit→Bool} {f3:Blk×Blk×Unit→Bool×Unit} (hp3:∀b c,b.ops.length<1000000000→c.ops.length<1000000000→p3 (b,c,())=true) (hf3:∀b c,b.ops.length<1000000000→c.ops.length<1000000000→f3 (b,c,())=(chk b c,())) {p4:Blk×Blk×Unit→Bool} {f4:Blk×Blk×Unit→Bool×Unit} (hp4:∀a b,a.ops.length<1000000000→p4 (a,b,())=true) (hf4:∀a b,a.ops.length<1000000000→f4 (a,b,())=(bp (a=b),())) {p5:Unit→Bool} {f5:Unit→Bool×Unit} (hp5:p5 ()=true) (hf5:f5 ()=(true,())) {p6:List Cer×Blk×Blk×Unit→Bool} {f6:List Cer×Blk×Blk×Unit→Bool×Unit} (hp6:∀l b c,ShC l→p6 (l,b,c,())=true) (hf6:∀l b c,ShC l→f6 (l,b,c,())=(bp (vW l b c),())) {p7:List Int×Unit→Bool} {f7:List Int×Unit→List Cer×Blk×Blk×Unit} (hp7:∀c,By c→c.length<1000000000→p7 (c,())=true) (hf7:∀c,By c→c.length<1000000000→ShC (f7 (c,())).1∧(f7 (c,())).2.1.ops.length<1000000∧(f7 (c,())).2.2.1.ops.length<1000000) (c:List Int) (hc:By c):Zu (std 0) p1 f1 p2 f2 p3 f3 p4 f4 p5 f5 p6 f6 p7 f7 (c,()) (fun y=>y=(true,())):=by
 have mE:∀c:Blk,Co.mk .blk (c.pc,c.len,c.ops,c.fin,c.x,c.y,c.k,())=c:=fun _=>rfl
 dsimp only [Zu,Alg.cl,Alg.cg,Alg.rb,Alg.bd,Alg.l1,Tup.q,Tup.o,Alg.cl,Alg.cg,Alg.rb,Alg.bd,Alg.l1,Tup.q,Tup.o,LY]
 simp (disch:=omega) only [RR]
 by_cases hl:1048576< (c.length:Int)
 ·simp (disch:=omega) only [RR,hl]
 ·obtain⟨D1,D2,D3⟩:=hf7 c hc (by omega)
  have P:=hp7 c hc (by omega)
  generalize (f7 (c,())).1=l at D1 ⊢
  generalize (f7 (c,())).2.1=b at D2 ⊢
  generalize (f7 (c,())).2.2.1=d at D3 ⊢
  simp (disch:=omega) only [RR,hl,P,hp1 l b d D1,hf1 l b d D1,hp6 l b d D1,hf6 l b d D1]
  refine⟨fun e=>by simp at e,fun _=> ?_⟩
  refine au (fun(y:List Cer×Bool×Bool×Int×Blk×Blk×Unit)=>y.1=l∧y.2.1=bp (vW l b d)∧0≤y.2.2.2.1∧y.2.2.2.1≤l.length∧y.2.2.1=bp (vW (l.take y.2.2.2.1.toNat) b d)∧y.2.2.2.2.1=b∧y.2.2.2.2.2.1=d) (fun y=>(l.length-y.2.2.2.1).toNat) ⟨rfl,rfl,by simp,by simp,by dsimp only;rw [fM];(rintro⟨q,h,_⟩;cases h),rfl,rfl⟩ ?_
  rintro⟨(l':List Cer),(hs:Bool),(fd:Bool),(i:Int),(b':Blk),(d':Blk),⟨⟩⟩ hI
  dsimp only at hI ⊢
  obtain⟨rfl,rfl,i1,i2,i3,rfl,rfl⟩:=hI
  have L:=D1.1
  have a:=D1.at i.toNat
  have T:=fun h=>Cx (d:=(default:Cer)) (l:=l') (i:=i.toNat) (G:=fun q:Cer=>q.base=b'∧q.made=d') h
  simp (disch:=omega) only [RR,CRB,mE,hp4 (((l').getD (i).toNat default)).base b' (by omega),hf4 (((l').getD (i).toNat default)).base b' (by omega),hp4 (((l').getD (i).toNat default)).made d' (by omega),hf4 (((l').getD (i).toNat default)).made d' (by omega),hp2 l' D1,hf2 l' D1,hp3 b' d' (by omega) (by omega),hf3 b' d' (by omega) (by omega),hp5,hf5,bL,mY]
  refine⟨fun g=>⟨Or.inr i1,Or.inr g,Or.inr i1,Or.inr g,⟨by omega,by omega,?_⟩,by omega⟩,fun g=> ?_⟩
  ·rw [i3,show(i+1).toNat=i.toNat+1 by omega]
   have t:=T (by omega)
   by_cases u:vW (l'.take i.toNat) b' d'
   ·rw [dD u,dD (show vW (l'.take (i.toNat+1)) b' d' from t.2 (Or.inl u))];rfl
   ·rw [fM u,←kZ,Bool.false_or]
    exact lg ⟨fun v=>t.2 (Or.inr v),fun v=>(t.1 v).elim (fun w=>absurd w u) id⟩
  ·rw [i3,List.take_of_length_le (by omega)]
   by_cases u:vW l' b' d'
   ·rw [dD u]
    by_cases v:U3 l'
    ·obtain⟨q,q1,q2,q3⟩:=u
     have w:=v.2 q q1
     rw [q2,q3]at w
     rw [dD v,w];rfl
    ·rw [fM v];rfl
   ·rw [fM u];rfl
end Go.TX.F
namespace Go.TX
open Go Go.AE
theorem enters_of {P:Program} {f:FuncId} {fn:Func} {c:Code} (hf:P.funcs[f]? =some fn) (hname:(fn.name== "runtime.NumGoroutine")=false) (hb:fn.body=some c):Enters P f:=by
 intro args w
 have h1:fn.name≠ "runtime.NumGoroutine" :=by simpa using hname
 simp [callFunc,hf,h1,hb,mark]
def U4 (P:Program):Nat→List Field→Bool
 | _,[]=>true
 | k,f::fs=> !(f.name== "_")&&f.offset==k&& (match P.underlying f.type with | some (.int _)=>true | _=>false)&&U4 P (k+1) fs
theorem U5 {P:Program} (w:World) (d:Nat) (xs ys:List Int) (hl:xs.length=ys.length):∀(fs:List Field) (k:Nat),U4 P k fs=true→k+fs.length=xs.length→
  (Op.eqFields (d+1) (xs.map (Value.int .i64)).toArray (ys.map (Value.int .i64)).toArray fs).run P w= .ok (xs.drop k==ys.drop k) w
 | [],k,_,h2=>by
  rw [List.drop_eq_nil_of_le (show xs.length≤k by simp only [List.length_nil]at h2;omega),List.drop_eq_nil_of_le (show ys.length≤k by simp only [List.length_nil]at h2;omega)]
  simp [Op.eqFields]
 | f::fs,k,h1,h2=>by
  simp only [List.length_cons]at h2
  simp only [U4,Bool.and_eq_true,Bool.not_eq_true',beq_eq_false_iff_ne,beq_iff_eq]at h1
  obtain⟨⟨⟨n1,n2⟩,n3⟩,n4⟩:=h1
  have hk:k<xs.length:=by omega
  have hk':k<ys.length:=by omega
  obtain⟨kd,hu⟩:∃kd,P.underlying f.type=some (.int kd):=by
   cases hu:P.underlying f.type with
   | none=>rw [hu]at n3;cases n3
   | some z=>cases z<;>(first | exact⟨_,rfl⟩ | (rw [hu]at n3;cases n3))
  have pk:P.plainKey f.type=true:=by unfold Program.plainKey;rw [hu]
  have p1:=run_part_plain w pk (xs:=(xs.map (Value.int .i64)).toArray) (off:=f.offset) (v:= .int .i64 xs[k]) (by rw [n2];simp [hk])
  have p2:=run_part_plain w pk (xs:=(ys.map (Value.int .i64)).toArray) (off:=f.offset) (v:= .int .i64 ys[k]) (by rw [n2];simp [hk'])
  have ih:=U5 w d xs ys hl fs (k+1) n4 (by omega)
  simp only [Op.eqFields,if_pos n1,Sem.run_bind,p1,p2,Result.andThen_ok,run_equalIn_int w d f.type .i64 kd _ _ hu]
  have e:(xs.drop k==ys.drop k)=((xs[k]==ys[k])&& (xs.drop (k+1)==ys.drop (k+1))):=by rw [List.drop_eq_getElem_cons hk,List.drop_eq_getElem_cons hk'];rfl
  rw [e]
  by_cases c:(xs[k]==ys[k])=true
  ·rw [c]
   simp only [Bool.not_true,Bool.false_eq_true,if_false,ih,Bool.true_and]
  ·have c2:(xs[k]==ys[k])=false:=by simpa using c
   rw [c2]
   simp only [Bool.not_false,if_true,Sem.run_pure,Bool.false_and]
theorem aiV {P:Program} {t:TypeId} {n:Nat} (hu:P.underlying t=some (.struct (P.fieldsOf t))) (hs:P.stoodInHeld t=false) (hg:P.eqGuardType P.depth t=false) (hf:U4 P 0 (P.fieldsOf t).toList=true) (hn:(P.fieldsOf t).size=n) (xs ys:List Int) (hx:xs.length=n) (hy:ys.length=n) (w:World):
  (Op.equal t (.agg (xs.map (Value.int .i64)).toArray) (.agg (ys.map (Value.int .i64)).toArray)).run P w= .ok (xs==ys) w∧
  (eqGuard .eql t (.tmp 0) (.tmp 0) (.agg (xs.map (Value.int .i64)).toArray) (.agg (ys.map (Value.int .i64)).toArray)).run P w= .ok () w:=by
 refine⟨?_,run_eqGuard_agg w _ _ _ _ _ _ hg⟩
 show(Op.equalIn (9999+1) t _ _).run P w=_
 rw [run_equalIn_struct w 9999 t _ _ hu hs,U5 w 9998 xs ys (by omega) _ 0 hf (by rw [Array.length_toList];omega)]
 rfl
noncomputable def never (s:Sig):Ct aC s:={pre:=fun _=>false,fn:=fun _=>Classical.choice (tN _)}
theorem jM {E:Tab} {f:FuncId} {s:Sig} (h:Enters E.P f):cO E f (bX (never s)) where
 enters:=h
 calls:=by
  rintro args hh n K ⟨m,vs,h2,h3,h4,h5,cr,h6,h7,h8⟩
  exfalso
  unfold qQ at h6
  split at h6
  ·split at h6
   ·split at h6
    ·split at h6
     ·cases h6
      have:=h7 false (List.mem_append_right _ (List.mem_singleton.2 rfl))
      cases this
     ·cases h6
    ·cases h6
   ·cases h6
  ·cases h6
abbrev ar6:Sig:={args:=[.c (.rows true .u8)],objs:=[],res:=[.c .bool],dO:=[]}
def entry (W:World):Ctx:={K:=fun _ b=>b<W.heap.size,μ:=fun _=>none,n:=0}
theorem Sc (W:World):bE (entry W) W []:=
 ⟨fun l o h=>(by cases h),fun l o l' o' b h=>(by cases h),fun f b ⟨l,o,h,_⟩=>(by cases h),fun f b h=>h,fun b h=>h⟩
theorem Oz {W W':World} {c':Ctx} {h':Heap} (g:Grow (entry W) W [] c' W' h'):RowKit.Below W.heap.size W W':=
 ⟨g.os,g.tape,g.output,g.size,fun k hk=>g.kept k hk fun⟨l,o,h,_⟩=>by cases h⟩
theorem acp {c:Ctx} {w:World} {v:Value} {r:PV} {N:NM} {b:Bool} (h1:bD c w v r) (h2:PVR N r (.c (.d true (.bool b)))):v= .bool b:=by
 cases h2 with
 | one h=>
  cases h with
  | c h=>
   cases h with
   | d h3 _=>
    subst h3
    cases h1 with
    | c _ _ h4=>cases h4 with
     | d _ _ _ h5=>cases h5;rfl
  | agg h=>cases h
theorem ar7 {E:Tab} {f:FuncId} {c:Ct aC ar6} (hc:cO E f (bX c)) {xs:List Int} {W:World} {v:Value} (hv:dM (fun b=>b<W.heap.size) W v (.rows 1 (aK .u8 xs)))
  (hg:qF E (entry W) W) (hp:c.pre (xs,())=true):Go.Calls E.P f #[v] W fun e W'=>e= .returned (.bool (c.fn (xs,())).1)∧RowKit.Below W.heap.size W W':=by
 refine(hc.calls [.c (.d true (.rows 1 (aK .u8 xs)))] [] 0 (fun r _ _=>PVR (nmh []) r (.c (.d true (.bool (c.fn (xs,())).1)))) ?_ (entry W) W [v] rfl (.cons (.c _ _ (.d true _ _ hv)) .nil) (Sc W) hg).mono ?_
 ·refine⟨0,[.c (.d true (.rows .u8 xs))],[],.cons (.one (.c (.d rfl fun _=> .inl rfl))) .nil,⟨fun l o h=>(by cases h),fun _ _=>rfl⟩,rfl,_,rfl,?_,_,_,rfl,?_⟩
  ·intro b hb
   rcases List.mem_append.1 hb with h | h
   ·cases h
   ·rw [List.mem_singleton]at h;rw [h];exact hp
  ·intro r _ _ h _ _ _;exact h
 ·rintro e W' he
  cases e with
  | returned u=>
   obtain⟨c',r,h',j,g,_,_,h1,h2⟩:=he
   exact⟨by rw [acp h1 h2],Oz g⟩
  | outgrown=>exact he.elim
  | panicked _=>exact he.elim
open Go.RowKit Go.ChangeShapes Go.WideShapes Go.ChangeAt in
theorem aar {H:Type} {enc:TypeId×Value→H} {P:Program} {t e:TypeId} (ht:P.underlying t=some (.slice e)) (he:P.underlying e=some (.int .u8)) (hc:P.cellsOf e=1) {W:World} {base:Nat} {v:Value} {d:DataW H} {p:List MemPlace}
  (hval:Value.okWide P W .any base t v) (h:DataW.Trod enc P W 0 (fun _=>true) true t v d p) (hlt:∀x∈p,x.block<W.heap.size):
  ∃xs:List Int,dM (fun b=>b<W.heap.size) W v (.rows 1 (aK .u8 xs))∧∀z∈xs,0≤z∧z≤255:=by
 obtain⟨a0,len,cap,rfl⟩:=okWide_slice ht hval
 obtain⟨fuel,hf⟩:=h
 rcases open_ints ht he hc hf with⟨hcs,hx⟩ | ⟨a,len',cap',zs,hcs,_,hl,hm,hz,hx,hcell,hwz⟩
 ·simp [Value.cells]at hcs
  obtain⟨rfl,rfl,rfl⟩:=hcs
  exact⟨[],.none _ _ _,fun _ h=>by cases h⟩
 ·simp [Value.cells]at hcs
  obtain⟨rfl,rfl,rfl⟩:=hcs
  simp only [Prod.mk.injEq]at hx
  obtain⟨rfl,rfl⟩:=hx
  simp only [if_true]at hz
  have rng:∀z∈zs,0≤z∧z≤255:=fun z hz=>by
   obtain⟨i,hi,rfl⟩:=List.getElem_of_mem hz
   have:=range_u8 hwz i
   rwa [List.getElem?_eq_getElem hi]at this
  refine⟨zs.take len,?_,fun z h=>rng z (List.mem_of_mem_take h)⟩
  by_cases h0:len=0
  ·subst h0;exact .none _ _ _
  ·obtain⟨b,off,spot⟩:=a
   have hspot:spot=none:=by simpa [Addr.add]using World.cell?_spot (hcell 0 (by omega))
   subst hspot
   have hbW:b<W.heap.size:=hlt (.cell b off) (MemPlace.mem_row.2 ⟨0,by omega,by simp⟩)
   have hlen:(aK .u8 (zs.take len)).length=len:=by simp only [aK,List.length_map,List.length_take];omega
   have hget:∀i,i<len→(aK .u8 (zs.take len)).getD i []=[.int .u8 (zs.getD i 0)]:=fun i hi=>by
    simp only [aK,List.getD,List.getElem?_map,List.getElem?_take_of_lt hi,List.getElem?_eq_getElem (show i<zs.length by omega)]
    rfl
   refine .rows b off cap 1 len _ (fun i j=> .int .u8 (zs.getD i 0)) hbW hlen.symm hl (fun i j hi hj=> ?_) (fun i hi=> ?_) (fun i j hi hj=> ?_)
   ·rw [hlen]at hi
    have:=hcell i (by omega)
    rw [add_plain]at this
    rw [show off+i*1+j=off+i by omega]
    exact this
   ·rw [hlen]at hi;rw [hget i hi];rfl
   ·rw [hlen]at hi
    have hj0:j=0:=by omega
    subst hj0
    unfold gd;rw [hget i hi];exact .int _ _
end Go.TX
namespace Go.TX.Seat
open Go Go.AE Go.TX Go.TX.F Go.Proofs
set_option maxRecDepth 100000
theorem ar8:∀t n,E.ieq t=some n→∀(xs ys:List Int),xs.length=n→ys.length=n→∀w,
  (Op.equal t (.agg (xs.map (Value.int .i64)).toArray) (.agg (ys.map (Value.int .i64)).toArray)).run E.P w= .ok (xs==ys) w∧
  (eqGuard .eql t (.tmp 0) (.tmp 0) (.agg (xs.map (Value.int .i64)).toArray) (.agg (ys.map (Value.int .i64)).toArray)).run E.P w= .ok () w:=by
 intro t n h
 obtain⟨c,hc,rfl⟩:∃c,ieq t=some c∧c.size=n:=by
  have h':(ieq t).map (fun c=>c.size)=some n:=h
  cases hi:ieq t with
  | none=>rw [hi]at h';cases h'
  | some c=>rw [hi]at h';cases h';exact⟨c,rfl,rfl⟩
 unfold ieq at hc
 split at hc
 all_goals first | (cases hc;exact aiV (by kernel_rfl) (by kernel_rfl) (by kernel_rfl) (by kernel_rfl) (by kernel_rfl)) | cases hc
theorem hE:aH E:=⟨arM,ar8⟩
theorem ar9:∀t c,X.ieq t=some c→(c= .ins∧E.ieq t=some 4)∨(c= .iop∧E.ieq t=some 5):=by
 intro t c h
 have h:ieq t=some c:=h
 have e:E.ieq t=(ieq t).map fun c=>c.size:=rfl
 rw [e,h]
 unfold ieq at h
 split at h
 all_goals first | (cases h;first | exact Or.inl ⟨rfl,rfl⟩ | exact Or.inr ⟨rfl,rfl⟩) | cases h
theorem xok:XOK X E:=⟨rfl,fun g c h=>(by cases h),ar9⟩
theorem hm:E.P.follows .mixedOrders=true:=by kernel_rfl
theorem hlN:∀p∈([]:List (FuncId×Sigma (Ct aC))),cO E p.1 (bX p.2.2):=fun _ h=>by cases h
theorem hlC {f:FuncId} {s:Sig} {c:Ct aC s} {l:List (FuncId×Sigma (Ct aC))} (h:cO E f (bX c)) (r:∀p∈l,cO E p.1 (bX p.2.2)):∀p∈(f,⟨s,c⟩)::l,cO E p.1 (bX p.2.2):=fun p hp=>by
 rcases List.mem_cons.1 hp with rfl | hp
 ·exact h
 ·exact r p hp
@[reducible] def _root_.Go.TX.Fn.c {E : Tab} {f : FuncId} {s : Sig} {F : gW s.inp → (gW s.out → Prop) → Prop} {c : Ct aC s} (_ : Fn E f F c) : Ct aC s := c
theorem mk {lk:aF} {f:FuncId} {fn:Func} (hf:E.P.funcs[f]? =some fn) {l:List (FuncId×Sigma (Ct aC))} (hl:∀p∈l,cO E p.1 (bX p.2.2)) {ord:List (Nat×List fF)} {s:Sig} {an:Ann}
 {F:gW s.inp→(gW s.out→Prop)→Prop} (h:Ru X E (std 0) ord an s fn l F) (hb:fn.body.isSome=true:=by rfl) (hn:(fn.name== "runtime.NumGoroutine")=false:=by kernel_rfl):Fn E f F (cn F):=aqT hE xok hm hf hb (fun _=>enters_of hf hn) hl h
theorem aas {E:Tab} {f:FuncId} {c:Ct aC {args:=[.c (.int .u64)],objs:=[],res:=[.c (.int .i64)],dO:=[]}} {g:Int→Int} (hent:Enters E.P f) (hg:(fun x:Int=>(c.fn (x,())).1)=g)
  (h:∀(x:Int) (w:World),c.pre (x,())=true→Go.Calls E.P f #[.int .u64 x] w fun e w'=>e= .returned (.int .i64 (g x))∧w'=w):cO E f (bX c) where
 enters:=hent
 calls:=by
  rintro args hh n K ⟨m,qs,hs,hargs,HR,hlen,cr,hcall,abM,v,kT,hvk,hK⟩ c1 w vs hcn qm Hh Gl
  have key:∀f0 (x:Int),qs=[.c (.d f0 (.int .u64 x))]→qQ (std m) hs {args:=[.c (.int .u64)],objs:=[],res:=[.c (.int .i64)],dO:=[]} c qs=some {ck:=[c.pre (x,())],ts:=[.i],y:=c.fn (x,()),touched:=[],pure:=true,k:=fun y=>some (.c (.d true (.int .i64 y.1)),hs)}:=by
   intro f0 x e;subst e;rfl
  have hq:∃f0 x,qs=[.c (.d f0 (.int .u64 x))]:=by
   unfold qQ at hcall
   cases qs with
   | nil=>simp [nQ]at hcall
   | cons q r=>
    cases r with
    | cons q2 r2=>
     exfalso
     simp only [nQ]at hcall
     cases hx:Iu (std m) hs (.c (.int .u64)) q (es0 (std m) 0 [])with
     | none=>rw [hx]at hcall;simp at hcall
     | some s=>rw [hx]at hcall;simp [nQ]at hcall
    | nil=>
     simp only [nQ]at hcall
     cases q with
     | c y=>
      simp only [Iu,extC]at hcall
      cases y with
      | d f0 y=>
       cases y with
       | int k x=>
        by_cases hk:IntKind.u64=k
        ·subst hk;exact⟨f0,x,rfl⟩
        ·simp [hk]at hcall
       | _=>simp at hcall
      | _=>simp at hcall
     | _=>simp [Iu]at hcall
  obtain⟨f0,x,rfl⟩:=hq
  rw [key f0 x rfl]at hcall
  simp only [Option.some.injEq]at hcall
  subst hcall
  simp only [Option.some.injEq,Prod.mk.injEq]at hvk
  obtain⟨rfl,rfl⟩:=hvk
  have hpre:=abM _ (List.mem_singleton.2 rfl)
  have hv:vs=[.int .u64 x]:=by
   cases hargs with
   | cons h1 h2=>
    cases h2
    cases qm with
    | cons h3 h4=>
     cases h4
     cases h1 with
     | one h1=>
      cases h1 with
      | c h1=>
       cases h1 with
       | d h5 _=>
        subst h5
        cases h3 with
        | c _ _ h6=>cases h6 with
         | d _ _ _ h7=>cases h7;rfl
      | agg h1=>cases h1
  subst hv
  refine(h x w hpre).mono ?_
  rintro e w' ⟨rfl,rfl⟩
  refine⟨c1,.c (.d true (.int .i64 (g x))),hh,0,.refl _ _ _,Hh,hcn,.c _ _ (.d _ _ _ (.int _ _)),hK _ _ _ ?_ HR (.refl _ _ _) hlen⟩
  rw [←hg]
  exact .one (.c (.d rfl fun _=> .inl rfl))
end Go.TX.Seat
namespace Go.TX.F
open Go Go.AE Go.TX Go.TX.Seat Go.Proofs
set_option maxRecDepth 100000
def jN:=mk Tryz.func78 hlN (agn (std 0))
noncomputable def aR:=jN.c
def nG:=fun n b p hb h1 h2=>(jN.cs (ZW n b p hb h1 h2)).1
def nH:=fun n b p hb h1 h2=>(jN.cs (ZW n b p hb h1 h2)).2
def KL:=mk Tryz.func91 (hlC jN.ok hlN) (agp (std 0) aR)
noncomputable def pz:=KL.c
def qz:=fun n b p hb h1 h2=>KL.cs (ah3 nG nH n b p hb h1 h2)
def aat:=fun n b p hb h1 h2=>(qz n b p hb h1 h2).1
def aau:=fun n b p hb h1 h2=>(qz n b p hb h1 h2).2
def pI:=mk Tryz.func61 hlN (agq (std 0))
noncomputable def bP:=pI.c
def uK:=fun a b c=>(pI.cs (ZM a b c)).1
def uL:=fun a b c=>(pI.cs (ZM a b c)).2
def AB:=mk Tryz.func115 hlN (agr (std 0))
noncomputable def je:=AB.c
def Sd:=fun a=>(AB.cs (ZN a)).1
def Sg:=fun a=>(AB.cs (ZN a)).2
def Si:=mk Tryz.func156 (hlC pI.ok hlN) (ags (std 0) bP)
noncomputable def FW:=Si.c
def uM:=fun k=>Si.cs (ah9 uK uL k)
def aiW:=fun k=>(uM k).1
def aiX:=fun k=>(uM k).2
def KM:=mk Tryz.func116 (hlC Si.ok hlN) (agt (std 0) FW)
noncomputable def oQ:=KM.c
def zu:=fun ops x n h1=>KM.cs (aia aiW aiX ops x n h1)
def aav:=fun ops x n h1=>(zu ops x n h1).1
def aaw:=fun ops x n h1=>(zu ops x n h1).2
def Sj:=mk Tryz.func62 (hlC AB.ok (hlC pI.ok (hlC KM.ok hlN))) (agu (std 0) je bP oQ)
noncomputable def FY:=Sj.c
def BP:=fun ops i len h0 h1 h3=>Sj.cs (aib Sd Sg uK uL aav aaw ops i len h0 h1 h3)
def aiY:=fun ops i len h0 h1 h3=>(BP ops i len h0 h1 h3).1
def aiZ:=fun ops i len h0 h1 h3=>(BP ops i len h0 h1 h3).2
def Sk:=mk Tryz.func63 (hlC AB.ok (hlC KM.ok hlN)) (agv (std 0) je oQ)
noncomputable def FX:=Sk.c
def zw:=fun b=>Sk.cs (aic Sd Sg aav aaw b)
def ai0:=fun b=>(zw b).1
def ai1:=fun b=>(zw b).2
def uN:=mk Tryz.func19 (hlC pI.ok (hlC Sk.ok (hlC Sj.ok hlN))) (agw (std 0) bP FX FY)
noncomputable def dB:=uN.c
def BQ:=fun b h2=>uN.cs (aie uK uL ai0 ai1 aiY aiZ b h2)
def AJ:=fun b h2=>(BQ b h2).1
def AL:=fun b h2=>(BQ b h2).2
def yB:=mk Tryz.func59 hlN (agx (std 0))
noncomputable def gK:=yB.c
def KN:=fun b hb=>(yB.cs (aag b hb)).1
def KO:=fun b hb=>(yB.cs (aag b hb)).2
def H9:=mk Tryz.func60 (hlC pI.ok hlN) (agy (std 0) bP)
noncomputable def oU:=H9.c
def aax:=fun o al hk hx hy=>(H9.cs (aaj uK uL o al hk hx hy)).1
def aay:=fun o al hk hx hy=>(H9.cs (aaj uK uL o al hk hx hy)).2
def Ia:=mk Tryz.func18 (hlC uN.ok (hlC H9.ok (hlC yB.ok hlN))) (agz (std 0) dB oU gK)
noncomputable def jf:=Ia.c
def uO:=fun b hb=>Ia.cs (aiG AJ AL aax aay KN KO b hb)
def Sl:=fun b hb=>(uO b hb).1
def Sn:=fun b hb=>(uO b hb).2
def KQ:=mk Tryz.func130 (hlC H9.ok hlN) (agA (std 0) oU)
noncomputable def oV:=KQ.c
def uP:=fun b kp ok hk=>KQ.cs (aiC aax aay b kp ok hk)
def aaz:=fun b kp ok hk=>(uP b kp ok hk).1
def aaA:=fun b kp ok hk=>(uP b kp ok hk).2
def Sq:=mk Tryz.func131 (hlC uN.ok (hlC pI.ok hlN)) (agB (std 0) dB bP)
noncomputable def FZ:=Sq.c
def uQ:=fun b hb=>Sq.cs (aiB AJ AL uK uL b hb)
def ai2:=fun b hb=>(uQ b hb).1
def ai3:=fun b hb=>(uQ b hb).2
def Sr:=mk Tryz.func70 (hlC uN.ok (hlC Sq.ok (hlC KQ.ok hlN))) (agC (std 0) dB FZ oV)
noncomputable def F9:=Sr.c
def uR:=fun b hb=>Sr.cs (aiD AJ AL ai2 ai3 aaz aaA b hb)
def ai4:=fun b hb=>(uR b hb).1
def ai5:=fun b hb=>(uR b hb).2
def KR:=mk Tryz.func132 hlN (agD (std 0))
noncomputable def F3:=KR.c
def ai6:=fun ops k h0 h1 h2=>(KR.cs (aak ops k h0 h1 h2)).1
def ai7:=fun ops k h0 h1 h2=>(KR.cs (aak ops k h0 h1 h2)).2
def Sv:=mk Tryz.func71 (hlC uN.ok (hlC KQ.ok (hlC KR.ok hlN))) (agE (std 0) dB oV F3)
noncomputable def Ga:=Sv.c
def uS:=fun b hb=>Sv.cs (aiE AJ AL aaz aaA ai6 ai7 b hb)
def ai8:=fun b hb=>(uS b hb).1
def ai9:=fun b hb=>(uS b hb).2
def Ib:=mk Tryz.func133 hlN (agF (std 0))
noncomputable def oW:=Ib.c
def aaB:=fun ops k=>(Ib.cs (aah ops k)).1
def aaC:=fun ops k=>(Ib.cs (aah ops k)).2
def KS:=mk Tryz.func169 hlN (agG (std 0))
noncomputable def F4:=KS.c
def aja:=fun a=>(KS.cs (ZP a)).1
def ajb:=fun a=>(KS.cs (ZP a)).2
def Sw:=mk Tryz.func134 (hlC KS.ok (hlC AB.ok hlN)) (agH (std 0) F4 je)
noncomputable def F6:=Sw.c
def zy:=fun op a b=>Sw.cs (ah1 Sd Sg aja ajb op a b)
def ajc:=fun op a b=>(zy op a b).1
def ajd:=fun op a b=>(zy op a b).2
def KT:=mk Tryz.func170 hlN (agI (std 0))
noncomputable def F5:=KT.c
def aje:=fun b k=>(KT.cs (aai b k)).1
def ajf:=fun b k=>(KT.cs (aai b k)).2
def Sy:=mk Tryz.func135 (hlC KT.ok (hlC Ib.ok hlN)) (agJ (std 0) F5 oW)
noncomputable def F7:=Sy.c
def uT:=fun b h=>Sy.cs (aix aje ajf aaB aaC b h)
def ajg:=fun b h=>(uT b h).1
def ajh:=fun b h=>(uT b h).2
def Sz:=mk Tryz.func72 (hlC uN.ok (hlC Sw.ok (hlC Sy.ok (hlC Ib.ok (hlC yB.ok hlN))))) (agK (std 0) dB F6 F7 oW gK)
noncomputable def F8:=Sz.c
def rP:=fun b hb=>Sz.cs (aiA AJ AL ajc ajd ajg ajh aaB aaC KN KO b hb)
def aji:=fun b hb=>(rP b hb).1
def ajj:=fun b hb=>(rP b hb).2
def Ic:=mk Tryz.func25 (hlC Sz.ok (hlC Ia.ok (hlC Sr.ok (hlC Sv.ok hlN)))) (agL (std 0) F8 jf F9 Ga)
noncomputable def jg:=Ic.c
def w9:=fun b hb=>Ic.cs (aiy aji ajj Sl Sn ai4 ai5 ai8 ai9 b hb)
def SA:=fun b hb=>(w9 b hb).1
def SB:=fun b hb=>(w9 b hb).2
def SE:=mk Tryz.func179 (hlC jN.ok hlN) (agM (std 0) aR)
noncomputable def Gc:=SE.c
def xg:=fun b p hb h1 h2=>SE.cs (aiu nG nH b p hb h1 h2)
def ajk:=fun b p hb h1 h2=>(xg b p hb h1 h2).1
def ajl:=fun b p hb h1 h2=>(xg b p hb h1 h2).2
def SF:=mk Tryz.func237 hlN (agN (std 0))
noncomputable def Gb:=SF.c
def ajm:=fun i=>(SF.cs (aii i)).1
def KU:=mk Tryz.func181 (hlC pI.ok (hlC SF.ok hlN)) (agO (std 0) bP Gb)
noncomputable def o7:=KU.c
def KV:=fun i=>KU.cs (aij uK uL ajm i)
def aaD:=fun i=>(KV i).1
def KW:=mk Tryz.func182 hlN (agP (std 0))
noncomputable def oZ:=KW.c
def aaE:=fun i=>(KW.cs (aik i)).1
def KY:=mk Tryz.func180 (hlC KW.ok (hlC KU.ok hlN)) (agQ (std 0) oZ o7)
noncomputable def o8:=KY.c
def Ie:=fun i=>KY.cs (ail aaE aaD i)
def aaF:=fun i=>(Ie i).1
def SG:=mk Tryz.func143 (hlC SE.ok (hlC jN.ok (hlC KY.ok hlN))) (agR (std 0) Gc aR o8)
noncomputable def Gd:=SG.c
def uU:=fun b p hb h1 h2=>SG.cs (aiv ajk ajl nG nH aaF b p hb h1 h2)
def ajn:=fun b p hb h1 h2=>(uU b p hb h1 h2).1
def ajo:=fun b p hb h1 h2=>(uU b p hb h1 h2).2
def SH:=mk Tryz.func92 (hlC SG.ok (hlC jN.ok hlN)) (agS (std 0) Gd aR)
noncomputable def Gn:=SH.c
def uV:=fun b p hb h1 h2=>SH.cs (aiw ajn ajo nG nH b p hb h1 h2)
def ajp:=fun b p hb h1 h2=>(uV b p hb h1 h2).1
def ajq:=fun b p hb h1 h2=>(uV b p hb h1 h2).2
def SK:=mk Tryz.func145 (hlC KW.ok (hlC KU.ok (hlC pI.ok (hlC KY.ok hlN)))) (agT (std 0) oZ o7 bP o8)
noncomputable def Gi:=SK.c
def KZ:=fun pc l hl=>SK.cs (ain aaE aaD uK uL aaF pc l hl)
def ajr:=fun pc l hl=>(KZ pc l hl).1
def uW:=mk Tryz.func183 hlN (agU (std 0))
noncomputable def eP:=uW.c
def yC:=fun a1 a2 a3 a4 a5 a6 o ops hl=>(uW.cs (aac a1 a2 a3 a4 a5 a6 o ops hl)).1
def yD:=fun a1 a2 a3 a4 a5 a6 o ops hl=>(uW.cs (aac a1 a2 a3 a4 a5 a6 o ops hl)).2
def Ig:=mk Tryz.func184 (hlC uW.ok hlN) (agV (std 0) eP)
noncomputable def pq:=Ig.c
def aaG:=fun a1 a2 a3 a4 a5 a6 k x ops hl=>(Ig.cs (aae yC yD a1 a2 a3 a4 a5 a6 k x ops hl)).1
def aaH:=fun a1 a2 a3 a4 a5 a6 k x ops hl=>(Ig.cs (aae yC yD a1 a2 a3 a4 a5 a6 k x ops hl)).2
def yE:=mk Tryz.func185 (hlC uW.ok hlN) (agW (std 0) eP)
noncomputable def gL:=yE.c
def Ih:=fun a1 a2 a3 a4 a5 a6 k ops hl=>(yE.cs (aad yC yD a1 a2 a3 a4 a5 a6 k ops hl)).1
def Ii:=fun a1 a2 a3 a4 a5 a6 k ops hl=>(yE.cs (aad yC yD a1 a2 a3 a4 a5 a6 k ops hl)).2
def K4:=mk Tryz.func186 (hlC yE.ok (hlC uW.ok hlN)) (agX (std 0) gL eP)
noncomputable def o9:=K4.c
def rQ:=fun a1 a2 a3 a4 a5 a6 k a o ops hl=>K4.cs (aio Ih Ii yC yD a1 a2 a3 a4 a5 a6 k a o ops hl)
def aaI:=fun a1 a2 a3 a4 a5 a6 k a o ops hl=>(rQ a1 a2 a3 a4 a5 a6 k a o ops hl).1
def aaJ:=fun a1 a2 a3 a4 a5 a6 k a o ops hl=>(rQ a1 a2 a3 a4 a5 a6 k a o ops hl).2
def SL:=mk Tryz.func187 hlN (agY (std 0))
noncomputable def Gh:=SL.c
def ajs:=fun k hk=>(SL.cs (aiq k hk)).1
def SN:=mk Tryz.func188 (hlC yE.ok (hlC uW.ok (hlC K4.ok (hlC Ig.ok hlN)))) (agZ (std 0) gL eP o9 pq)
noncomputable def Gg:=SN.c
def uX:=fun a1 a2 a3 a4 a5 a6 i k ops hl=>SN.cs (aip Ih Ii yC yD aaI aaJ aaG aaH a1 a2 a3 a4 a5 a6 i k ops hl)
def ajt:=fun a1 a2 a3 a4 a5 a6 i k ops hl=>(uX a1 a2 a3 a4 a5 a6 i k ops hl).1
def aju:=fun a1 a2 a3 a4 a5 a6 i k ops hl=>(uX a1 a2 a3 a4 a5 a6 i k ops hl).2
def K6:=mk Tryz.func189 (hlC yE.ok hlN) (ag0 (std 0) gL)
noncomputable def Gf:=K6.c
def ajv:=fun a1 a2 a3 a4 a5 a6 i ops hl=>(K6.cs (aaf Ih Ii a1 a2 a3 a4 a5 a6 i ops hl)).1
def ajw:=fun a1 a2 a3 a4 a5 a6 i ops hl=>(K6.cs (aaf Ih Ii a1 a2 a3 a4 a5 a6 i ops hl)).2
def SQ:=mk Tryz.func146 (hlC yE.ok (hlC K6.ok (hlC uW.ok (hlC SN.ok (hlC K4.ok (hlC Ig.ok (hlC SL.ok hlN))))))) (ag1 (std 0) gL Gf eP Gg o9 pq Gh)
noncomputable def Gj:=SQ.c
def zB:=fun a1 a2 a3 a4 a5 a6 i k ops hk hl=>SQ.cs (air Ih Ii ajv ajw yC yD ajt aju aaI aaJ aaG aaH ajs a1 a2 a3 a4 a5 a6 i k ops hk hl)
def ajx:=fun a1 a2 a3 a4 a5 a6 i k ops hk hl=>(zB a1 a2 a3 a4 a5 a6 i k ops hk hl).1
def ajy:=fun a1 a2 a3 a4 a5 a6 i k ops hk hl=>(zB a1 a2 a3 a4 a5 a6 i k ops hk hl).2
def SX:=mk Tryz.func94 (hlC SK.ok (hlC SQ.ok hlN)) (ag2 (std 0) Gi Gj)
noncomputable def Gm:=SX.c
def rR:=fun pc l hl hk=>SX.cs (ais ajr ajx ajy pc l hl hk)
def ajz:=fun pc l hl hk=>(rR pc l hl hk).1
def ajA:=fun pc l hl hk=>(rR pc l hl hk).2
def K7:=mk Tryz.func111 (hlC SX.ok (hlC Ic.ok (hlC Ia.ok (hlC jN.ok (hlC SH.ok hlN))))) (ag3 (std 0) Gm jg jf aR Gn)
noncomputable def pE:=K7.c
def rT:=fun b p hb h1 h2=>K7.cs (aiH ajz ajA SA SB Sl Sn nG nH ajp ajq b p hb h1 h2)
def aaK:=fun b p hb h1 h2=>(rT b p hb h1 h2).1
def aaL:=fun b p hb h1 h2=>(rT b p hb h1 h2).2
end Go.TX.F
namespace Go.TX.F
open Go Go.AE Go.TX Go.TX.Seat Go.Proofs
set_option maxRecDepth 100000
def Ij:=mk Tryz.func112 (hlC jN.ok (hlC yB.ok hlN)) (ag4 (std 0) aR gK)
noncomputable def jh:=Ij.c
def uY:=fun c b p hc hb h1 h2=>Ij.cs (aiJ nG nH KN KO c b p hc hb h1 h2)
def SY:=fun c b p hc hb h1 h2=>(uY c b p hc hb h1 h2).1
def S9:=fun c b p hc hb h1 h2=>(uY c b p hc hb h1 h2).2
def Ta:=mk Tryz.func55 (hlC KL.ok (hlC jN.ok (hlC Ij.ok (hlC K7.ok hlN)))) (ag5 (std 0) pz aR jh pE)
noncomputable def GU:=Ta.c
def og:=fun n b p hb h1 h2=>Ta.cs (aiK aat aau nG nH SY S9 aaK aaL n b p hb h1 h2)
def ajB:=fun n b p hb h1 h2=>(og n b p hb h1 h2).1
def ajC:=fun n b p hb h1 h2=>(og n b p hb h1 h2).2
def K8:=mk Tryz.func56 hlN (ag6 (std 0))
noncomputable def GX:=K8.c
def ajD:=fun b hb hl=>(K8.cs (ZV b hb hl)).1
def ajE:=fun b hb hl=>(K8.cs (ZV b hb hl)).2
def kP:=mk Tryz.func73 hlN (am8 (std 0))
noncomputable def aX:=kP.c
def kQ:=fun a b c=>(kP.cs (acT a b c)).1
def kR:=fun a b c=>(kP.cs (acT a b c)).2
def zC:=mk Tryz.func64 (hlC kP.ok hlN) (am9 (std 0) aX)
noncomputable def fO:=zC.c
def Jy:=fun a=>(zC.cs (acU kQ kR a)).1
def Jz:=fun a=>(zC.cs (acU kQ kR a)).2
def U6:=mk Tryz.func113 (hlC kP.ok hlN) (ana (std 0) aX)
noncomputable def wE:=U6.c
def rU:=fun o=>U6.cs (aoN kQ kR o)
def ac6:=fun o=>(rU o).1
def ac7:=fun o=>(rU o).2
def OA:=mk Tryz.func136 (hlC kP.ok hlN) (anb (std 0) aX)
noncomputable def wG:=OA.c
def ac8:=fun a=>(OA.cs (acW kQ kR a)).1
def ac9:=fun a=>(OA.cs (acW kQ kR a)).2
def OB:=mk Tryz.func137 (hlC kP.ok hlN) (ane (std 0) aX)
noncomputable def wF:=OB.c
def ada:=fun a=>(OB.cs (acV kQ kR a)).1
def adb:=fun a=>(OB.cs (acV kQ kR a)).2
def aaM:=mk Tryz.func171 (hlC kP.ok hlN) (anf (std 0) aX)
noncomputable def NA:=aaM.c
def kS:=fun o=>aaM.cs (aoO kQ kR o)
def ape:=fun o=>(kS o).1
def apf:=fun o=>(kS o).2
def U7:=mk Tryz.func138 (hlC aaM.ok (hlC kP.ok hlN)) (ang (std 0) NA aX)
noncomputable def wD:=U7.c
def kU:=fun b x n h0 h1 h2=>U7.cs (aoQ ape apf kQ kR b x n h0 h1 h2)
def ade:=fun b x n h0 h1 h2=>(kU b x n h0 h1 h2).1
def adf:=fun b x n h0 h1 h2=>(kU b x n h0 h1 h2).2
def aaN:=mk Tryz.func74 (hlC U7.ok (hlC U6.ok (hlC zC.ok (hlC kP.ok (hlC OB.ok (hlC OA.ok hlN)))))) (anh (std 0) wD wE fO aX wF wG)
noncomputable def ND:=aaN.c
def lJ:=fun b i h0 h1 h2 h3=>aaN.cs (aoR ade adf ac6 ac7 Jy Jz kQ kR ada adb ac8 ac9 b i h0 h1 h2 h3)
def apg:=fun b i h0 h1 h2 h3=>(lJ b i h0 h1 h2 h3).1
def aph:=fun b i h0 h1 h2 h3=>(lJ b i h0 h1 h2 h3).2
def OC:=mk Tryz.func114 hlN (ani (std 0))
noncomputable def wH:=OC.c
def adg:=fun b=>(OC.cs (ac4 b)).1
def adh:=fun b=>(OC.cs (ac4 b)).2
def aaO:=mk Tryz.func75 (hlC OC.ok (hlC U7.ok (hlC zC.ok (hlC kP.ok hlN)))) (anj (std 0) wH wD fO aX)
noncomputable def NC:=aaO.c
def kV:=fun b h2=>aaO.cs (aoS adg adh ade adf Jy Jz kQ kR b h2)
def apj:=fun b h2=>(kV b h2).1
def apk:=fun b h2=>(kV b h2).2
def U8:=mk Tryz.func26 (hlC aaO.ok (hlC aaN.ok (hlC kP.ok hlN))) (ank (std 0) NC ND aX)
noncomputable def wU:=U8.c
def BR:=fun b h2=>U8.cs (aoT apj apk apg aph kQ kR b h2)
def adi:=fun b h2=>(BR b h2).1
def adk:=fun b h2=>(BR b h2).2
def U9:=mk Tryz.func17 hlN (anl (std 0))
noncomputable def Oh:=U9.c
def apl:=fun a b ha=>(U9.cs (ac5 a b ha)).1
def apm:=fun a b ha=>(U9.cs (ac5 a b ha)).2
def aaP:=mk Tryz.func20 (hlC zC.ok hlN) (anm (std 0) fO)
noncomputable def Oi:=aaP.c
def BS:=aaP.cs (aoJ Jy Jz)
def apn:=(BS).1
def apo:=(BS).2
def K9:=mk Tryz.func117 hlN (ag7 (std 0))
noncomputable def Gp:=K9.c
def ajF:=fun a b ha=>(K9.cs (aap a b ha)).1
def ajG:=fun a b ha=>(K9.cs (aap a b ha)).2
def Va:=mk Tryz.func66 (hlC K9.ok hlN) (ano (std 0) Gp)
noncomputable def wW:=Va.c
def xk:=fun a b ha=>Va.cs (ao7 ajF ajG a b ha)
def adl:=fun a b ha=>(xk a b ha).1
def adn:=fun a b ha=>(xk a b ha).2
def Vb:=mk Tryz.func252 hlN (anp (std 0))
noncomputable def NG:=Vb.c
def apq:=fun a n=>(Vb.cs (acX a n)).1
def apr:=fun a n=>(Vb.cs (acX a n)).2
def Tc:=mk Tryz.func275 (hlC Vb.ok hlN) (ag8 (std 0) NG)
noncomputable def Gq:=Tc.c
def iI:=fun a n ha=>Tc.cs (ahP apq apr a n ha)
def ajH:=fun a n ha=>(iI a n ha).1
def ajI:=fun a n ha=>(iI a n ha).2
def Td:=mk Tryz.func251 (hlC Tc.ok hlN) (ag9 (std 0) Gq)
noncomputable def Gr:=Td.c
def gQ:=fun a n ha=>Td.cs (ahQ ajH ajI a n ha)
def ajJ:=fun a n ha=>(gQ a n ha).1
def ajK:=fun a n ha=>(gQ a n ha).2
def Vd:=mk Tryz.func210 (hlC Td.ok hlN) (anq (std 0) Gr)
noncomputable def wI:=Vd.c
def rV:=fun a n ha=>Vd.cs (aoi ajJ ajK a n ha)
def ado:=fun a n ha=>(rV a n ha).1
def adp:=fun a n ha=>(rV a n ha).2
def aaQ:=mk Tryz.func257 hlN (arN (std 0))
noncomputable def Iw:=aaQ.c
def aps:=fun a=>(aaQ.cs (aoe a)).1
def apt:=fun a=>(aaQ.cs (aoe a)).2
def aaR:=mk Tryz.func217 (hlC aaQ.ok hlN) (arO (std 0) Iw)
noncomputable def yj:=aaR.c
def oh:=fun a b=>aaR.cs (arW aps apt a b)
def ajL:=fun a b=>(oh a b).1
def ajM:=fun a b=>(oh a b).2
def aaS:=mk Tryz.func218 hlN (arP (std 0))
noncomputable def Iy:=aaS.c
def apu:=fun a b=>(aaS.cs (aof a b)).1
def apv:=fun a b=>(aaS.cs (aof a b)).2
def aaT:=mk Tryz.func258 (hlC aaR.ok hlN) (anr (std 0) yj)
noncomputable def NH:=aaT.c
def iU:=fun a b ha=>aaT.cs (aog ajL ajM a b ha)
def apw:=fun a b ha=>(iU a b ha).1
def apx:=fun a b ha=>(iU a b ha).2
def JA:=mk Tryz.func219 (hlC aaS.ok (hlC aaR.ok (hlC aaT.ok hlN))) (ant (std 0) Iy yj NH)
noncomputable def jw:=JA.c
def om:=fun a b ha=>JA.cs (aoh ajL ajM apw apx apu apv a b ha)
def Ve:=fun a b ha=>(om a b ha).1
def Vf:=fun a b ha=>(om a b ha).2
def aaU:=mk Tryz.func259 (hlC aaQ.ok hlN) (arQ (std 0) Iw)
noncomputable def yu:=aaU.c
def uZ:=fun a b=>aaU.cs (arX aps apt a b)
def apy:=fun a b=>(uZ a b).1
def apz:=fun a b=>(uZ a b).2
def Te:=mk Tryz.func221 (hlC aaU.ok hlN) (aha (std 0) yu)
noncomputable def Gt:=Te.c
def iQ:=fun a ha=>Te.cs (ahO apy apz a ha)
def ajN:=fun a ha=>(iQ a ha).1
def ajO:=fun a ha=>(iQ a ha).2
def Vg:=mk Tryz.func223 hlN (anu (std 0))
noncomputable def NI:=Vg.c
def apA:=fun m=>(Vg.cs (acY m)).1
def apB:=fun m=>(Vg.cs (acY m)).2
def Tf:=mk Tryz.func260 (hlC Vg.ok hlN) (ahb (std 0) NI)
noncomputable def Gs:=Tf.c
def dx:=fun a ha=>Tf.cs (ahR (G:=(fun m:aj=>0<m.atoms.length∧m.atoms.getD 0 default<0)) apA apB a ha)
def ajP:=fun a ha=>(dx a ha).1
def ajQ:=fun a ha=>(dx a ha).2
def Tg:=mk Tryz.func222 (hlC Tf.ok hlN) (ahc (std 0) Gs)
noncomputable def Gu:=Tg.c
def bZ:=fun a ha=>Tg.cs (ahS (G:=(fun m:aj=>0<m.atoms.length∧m.atoms.getD 0 default<0)) ajP ajQ a ha)
def ajR:=fun a ha=>(bZ a ha).1
def ajS:=fun a ha=>(bZ a ha).2
def zD:=mk Tryz.func164 (hlC kP.ok (hlC Vd.ok (hlC Te.ok (hlC JA.ok (hlC Tg.ok hlN))))) (anv (std 0) aX wI Gt jw Gu)
noncomputable def d9:=zD.c
def zF:=fun a ha=>zD.cs (aoj kQ kR ado adp ajN ajO Ve Vf ajR ajS a ha)
def Ik:=fun a ha=>(zF a ha).1
def Il:=fun a ha=>(zF a ha).2
end Go.TX.F
namespace Go.TX.F
open Go Go.AE Go.TX Go.TX.Seat Go.Proofs
set_option maxRecDepth 100000
def Vh:=mk Tryz.func158 (hlC kP.ok (hlC OB.ok (hlC Vd.ok (hlC zD.ok (hlC OA.ok hlN))))) (anw (std 0) aX wF wI d9 wG)
noncomputable def wJ:=Vh.c
def jO:=fun a n ha=>Vh.cs (aoy kQ kR ada adb ado adp Ik Il ac8 ac9 a n ha)
def adq:=fun a n ha=>(jO a n ha).1
def adr:=fun a n ha=>(jO a n ha).2
def OD:=mk Tryz.func161 (hlC aaS.ok (hlC aaR.ok (hlC JA.ok hlN))) (anx (std 0) Iy yj jw)
noncomputable def mR:=OD.c
def rW:=fun a b ha=>OD.cs (aol apu apv ajL ajM Ve Vf a b ha)
def aaV:=fun a b ha=>(rW a b ha).1
def aaW:=fun a b ha=>(rW a b ha).2
def BU:=mk Tryz.func128 (hlC OD.ok hlN) (anz (std 0) mR)
noncomputable def fP:=BU.c
def lK:=fun a b ha=>BU.cs (aom aaV aaW a b ha)
def JB:=fun a b ha=>(lK a b ha).1
def JC:=fun a b ha=>(lK a b ha).2
def aaX:=mk Tryz.func213 (hlC BU.ok hlN) (anA (std 0) fP)
noncomputable def NJ:=aaX.c
def lM:=fun a b ha=>aaX.cs (aov JB JC a b ha)
def apC:=fun a b ha=>(lM a b ha).1
def apD:=fun a b ha=>(lM a b ha).2
def aaY:=mk Tryz.func212 (hlC aaX.ok hlN) (anB (std 0) NJ)
noncomputable def NK:=aaY.c
def kW:=fun a b hb=>aaY.cs (aow apC apD a b hb)
def apE:=fun a b hb=>(kW a b hb).1
def apF:=fun a b hb=>(kW a b hb).2
def Ti:=mk Tryz.func211 (hlC aaY.ok hlN) (ahd (std 0) NK)
noncomputable def Gw:=Ti.c
def dz:=fun a b ha hb=>Ti.cs (ahT apE apF a b ha hb)
def ajT:=fun a b ha hb=>(dz a b ha hb).1
def ajU:=fun a b ha hb=>(dz a b ha hb).2
def Vi:=mk Tryz.func159 (hlC Ti.ok hlN) (anC (std 0) Gw)
noncomputable def wK:=Vi.c
def nI:=fun a b ha hb=>Vi.cs (aox ajT ajU a b ha hb)
def ads:=fun a b ha hb=>(nI a b ha hb).1
def adt:=fun a b ha hb=>(nI a b ha hb).2
def aaZ:=mk Tryz.func220 hlN (anD (std 0))
noncomputable def NP:=aaZ.c
def dU:=fun a=>aaZ.cs (aou a)
def apG:=fun a=>(dU a).1
def apH:=fun a=>(dU a).2
def Vj:=mk Tryz.func162 (hlC Vh.ok (hlC Vi.ok (hlC aaZ.ok hlN))) (anE (std 0) wJ wK NP)
noncomputable def wM:=Vj.c
def oq:=fun t a ht ha=>Vj.cs (aoA adq adr ads adt apG apH t a ht ha)
def adu:=fun t a ht ha=>(oq t a ht ha).1
def adw:=fun t a ht ha=>(oq t a ht ha).2
def Vk:=mk Tryz.func163 (hlC kP.ok hlN) (anF (std 0) aX)
noncomputable def wL:=Vk.c
def u7:=fun a=>Vk.cs (aop kQ kR a)
def adx:=fun a=>(u7 a).1
def ady:=fun a=>(u7 a).2
def Vm:=mk Tryz.func124 (hlC Vk.ok (hlC Vj.ok hlN)) (anG (std 0) wL wM)
noncomputable def wN:=Vm.c
def qA:=fun kd k t fl ht=>Vm.cs (aoX adx ady adu adw kd k t fl ht)
def adz:=fun kd k t fl ht=>(qA kd k t fl ht).1
def adA:=fun kd k t fl ht=>(qA kd k t fl ht).2
def Vn:=mk Tryz.func118 (hlC Vm.ok hlN) (anH (std 0) wN)
noncomputable def wQ:=Vn.c
def ou:=fun t fl ht hl=>Vn.cs (aoY adz adA t fl ht hl)
def adB:=fun t fl ht hl=>(ou t fl ht hl).1
def adC:=fun t fl ht hl=>(ou t fl ht hl).2
def OE:=mk Tryz.func190 hlN (anI (std 0))
noncomputable def wO:=OE.c
def adD:=fun a ha=>(OE.cs (ac0 a ha)).1
def adE:=fun a ha=>(OE.cs (ac0 a ha)).2
def OG:=mk Tryz.func157 (hlC OE.ok hlN) (anJ (std 0) wO)
noncomputable def mU:=OG.c
def kX:=fun a ha=>OG.cs (aor adD adE a ha)
def aa0:=fun a ha=>(kX a ha).1
def aa1:=fun a ha=>(kX a ha).2
def Vo:=mk Tryz.func119 (hlC OG.ok hlN) (anK (std 0) mU)
noncomputable def wP:=Vo.c
def lN:=fun a ha=>Vo.cs (aos aa0 aa1 a ha)
def adF:=fun a ha=>(lN a ha).1
def adG:=fun a ha=>(lN a ha).2
def aa2:=mk Tryz.func67 (hlC Vo.ok (hlC Vn.ok hlN)) (anL (std 0) wP wQ)
noncomputable def Od:=aa2.c
def xq:=aa2.cs (ao0 adF adG adB adC)
def apI:=(xq).1
def apJ:=(xq).2
def aa3:=mk Tryz.func76 (hlC kP.ok hlN) (anM (std 0) aX)
noncomputable def NZ:=aa3.c
def ow:=fun o=>aa3.cs (aoP kQ kR o)
def apK:=fun o=>(ow o).1
def apL:=fun o=>(ow o).2
def aa4:=mk Tryz.func120 (hlC Vh.ok (hlC Vi.ok hlN)) (anN (std 0) wJ wK)
noncomputable def N8:=aa4.c
def zG:=fun a ha=>aa4.cs (aoz adq adr ads adt a ha)
def apM:=fun a ha=>(zG a ha).1
def apN:=fun a ha=>(zG a ha).2
def aa5:=mk Tryz.func121 hlN (anO (std 0))
noncomputable def Oa:=aa5.c
def dQ:=fun a h0 h1=>aa5.cs (aoZ a h0 h1)
def apO:=fun a h0 h1=>(dQ a h0 h1).1
def apP:=fun a h0 h1=>(dQ a h0 h1).2
def OH:=mk Tryz.func122 (hlC kP.ok hlN) (anP (std 0) aX)
noncomputable def mW:=OH.c
def rX:=fun a=>OH.cs (aoo kQ kR a)
def aa6:=fun a=>(rX a).1
def aa7:=fun a=>(rX a).2
def JD:=mk Tryz.func141 hlN (anQ (std 0))
noncomputable def mV:=JD.c
def aa8:=fun a=>(JD.cs (acZ a)).1
def aa9:=fun a=>(JD.cs (acZ a)).2
def abb:=mk Tryz.func86 (hlC zC.ok (hlC JD.ok hlN)) (anR (std 0) fO mV)
noncomputable def NR:=abb.c
def zH:=fun op a b=>abb.cs (aon Jy Jz aa8 aa9 op a b)
def apQ:=fun op a b=>(zH op a b).1
def apR:=fun op a b=>(zH op a b).2
def Vp:=mk Tryz.func166 (hlC zD.ok hlN) (anS (std 0) d9)
noncomputable def wT:=Vp.c
def xu:=fun a ha=>Vp.cs (aoq Ik Il a ha)
def adH:=fun a ha=>(xu a ha).1
def adI:=fun a ha=>(xu a ha).2
def Vq:=mk Tryz.func277 (hlC JA.ok hlN) (anT (std 0) jw)
noncomputable def nY:=Vq.c
def zI:=fun a b ha=>Vq.cs (aot Ve Vf a b ha)
def adJ:=fun a b ha=>(zI a b ha).1
def adK:=fun a b ha=>(zI a b ha).2
def Tj:=mk Tryz.func309 (hlC Vq.ok hlN) (ahe (std 0) nY)
noncomputable def Gy:=Tj.c
def dH:=fun a b d hd h1 h2 h3=>Tj.cs (ahV adJ adK a b d hd h1 h2 h3)
def ajV:=fun a b d hd h1 h2 h3=>(dH a b d hd h1 h2 h3).1
def ajW:=fun a b d hd h1 h2 h3=>(dH a b d hd h1 h2 h3).2
def La:=mk Tryz.func319 hlN (ahf (std 0))
noncomputable def Gx:=La.c
def ajX:=fun a b n d hl h1 h2 h3 h4=>(La.cs (ZH a b n d hl h1 h2 h3 h4)).1
def ajY:=fun a b n d hl h1 h2 h3 h4=>(La.cs (ZH a b n d hl h1 h2 h3 h4)).2
def Tk:=mk Tryz.func317 (hlC La.ok hlN) (ahg (std 0) Gx)
noncomputable def qY:=Tk.c
def fD:=fun a m b d hl h1 h2 h3 h4=>Tk.cs (ahU ajX ajY a m b d hl h1 h2 h3 h4)
def ajZ:=fun a m b d hl h1 h2 h3 h4=>(fD a m b d hl h1 h2 h3 h4).1
def aj0:=fun a m b d hl h1 h2 h3 h4=>(fD a m b d hl h1 h2 h3 h4).2
noncomputable def cK:Nat→Ct aC mO
 | 0=>never mO
 | k+1=>cn (FT (std 0) nY.pre nY.fn qY.pre qY.fn (cK k).pre (cK k).fn)
theorem kK:∀k:Nat,cO E 310 (bX (cK k))∧∀(a m b:Int) (d:List aj),Aq a m b d→b-a<k→(cK k).pre (a,m,b,d,())=true∧Mrg d ((cK k).fn (a,m,b,d,())).1 a b
 | 0=>⟨jM (enters_of Tryz.func310 (by kernel_rfl) rfl),fun a m b d h1 h2=>(by have g1:=h1.h2;have g2:=h1.h3;omega)⟩
 | k+1=>by
  have ih:=kK k
  have t:Fn E 310 (FT (std 0) nY.pre nY.fn qY.pre qY.fn (cK k).pre (cK k).fn) (cK (k+1)):=mk Tryz.func310 (hlC Vq.ok (hlC Tk.ok (hlC ih.1 hlN))) (ahh (std 0) nY qY (cK k))
  exact⟨t.ok,fun a m b d h1 h2=>t.cs (ahW adJ adK ajZ aj0 (k:Int) (fun a m b d h1 h2=>(ih.2 a m b d h1 h2).1) (fun a m b d h1 h2=>(ih.2 a m b d h1 h2).2) a m b d h1 (by omega))⟩
noncomputable def pF:Ct aC mO:=cK 1000000000
theorem aj1:cO E 310 (bX pF):=(kK 1000000000).1
theorem adL {a m b:Int} {d:List aj} (h:Aq a m b d):b-a< ((1000000000:Nat):Int):=by have g0:=h.sh.1;have g1:=h.h1;have g2:=h.h4;omega
def aj2:=fun a m b d h=>((kK 1000000000).2 a m b d h (adL h)).1
def aj3:=fun a m b d h=>((kK 1000000000).2 a m b d h (adL h)).2
def Tm:=mk Tryz.func291 (hlC Tj.ok (hlC aj1 hlN)) (ahi (std 0) Gy pF)
noncomputable def Gz:=Tm.c
def fE:=fun n d hd hn=>Tm.cs (ahX ajV ajW aj2 aj3 n d hd hn)
def aj4:=fun n d hd hn=>(fE n d hd hn).1
def aj5:=fun n d hd hn=>(fE n d hd hn).2
def Tn:=mk Tryz.func276 (hlC Tm.ok hlN) (ahj (std 0) Gz)
noncomputable def GA:=Tn.c
def bT:=fun d hd=>Tn.cs (ahY aj4 aj5 d hd)
def aj6:=fun d hd=>(bT d hd).1
def aj7:=fun d hd=>(bT d hd).2
def Vr:=mk Tryz.func253 (hlC JA.ok (hlC zD.ok (hlC JD.ok (hlC OE.ok (hlC Tn.ok hlN))))) (anU (std 0) jw d9 mV wO GA)
noncomputable def wR:=Vr.c
def Im:=fun l hl hc=>Vr.cs (aoC Ve Vf Ik Il aa8 aa9 adD adE aj6 aj7 l hl hc)
def adM:=fun l hl hc=>(Im l hl hc).1
def adN:=fun l hl hc=>(Im l hl hc).2
end Go.TX.F
namespace Go.TX.F
open Go Go.AE Go.TX Go.TX.Seat Go.Proofs
set_option maxRecDepth 100000
def Tp:=mk Tryz.func278 hlN (ahk (std 0))
noncomputable def GD:=Tp.c
def dV:=fun n h1 h2=>Tp.cs (ahZ n h1 h2)
def aj8:=fun n h1 h2=>(dV n h1 h2).1
def aj9:=fun n h1 h2=>(dV n h1 h2).2
def abd:=mk Tryz.func254 (hlC Tp.ok hlN) (anV (std 0) GD)
noncomputable def NQ:=abd.c
def dK:=fun a b ha hb=>abd.cs (aoD aj8 aj9 a b ha hb)
def apS:=fun a b ha hb=>(dK a b ha hb).1
def apT:=fun a b ha hb=>(dK a b ha hb).2
def abe:=mk Tryz.func214 (hlC zD.ok (hlC Vr.ok (hlC abd.ok hlN))) (anW (std 0) d9 wR NQ)
noncomputable def NS:=abe.c
def xw:=fun a b ha hb=>abe.cs (aoE Ik Il adM adN apS apT a b ha hb)
def apU:=fun a b ha hb=>(xw a b ha hb).1
def apV:=fun a b ha hb=>(xw a b ha hb).2
def Lb:=mk Tryz.func279 hlN (ahl (std 0))
noncomputable def GH:=Lb.c
def akb:=fun n h1 h2=>(Lb.cs (ZJ n h1 h2)).1
def akc:=fun n h1 h2=>(Lb.cs (ZJ n h1 h2)).2
def Tq:=mk Tryz.func255 (hlC Lb.ok hlN) (ahm (std 0) GH)
noncomputable def GK:=Tq.c
def jB:=fun a b ha hb=>Tq.cs (ah0 akb akc a b ha hb)
def akd:=fun a b ha hb=>(jB a b ha hb).1
def ake:=fun a b ha hb=>(jB a b ha hb).2
def Tt:=mk Tryz.func292 (hlC aaU.ok hlN) (ahn (std 0) yu)
noncomputable def GI:=Tt.c
def fQ:=fun a b d hd h1 h2=>Tt.cs (ah4 apy apz a b d hd h1 h2)
def akf:=fun a b d hd h1 h2=>(fQ a b d hd h1 h2).1
def akg:=fun a b d hd h1 h2=>(fQ a b d hd h1 h2).2
noncomputable def Ai:Ct aC E5:=never E5
theorem akh:cO E 293 (bX Ai):=jM (enters_of Tryz.func293 (by kernel_rfl) rfl)
noncomputable def Aj:Ct aC E8:=never E8
theorem aki:cO E 294 (bX Aj):=jM (enters_of Tryz.func294 (by kernel_rfl) rfl)
noncomputable def Ak:Ct aC E9:=never E9
theorem akj:cO E 295 (bX Ak):=jM (enters_of Tryz.func295 (by kernel_rfl) rfl)
noncomputable def Al:Ct aC Fa:=never Fa
theorem akk:cO E 296 (bX Al):=jM (enters_of Tryz.func296 (by kernel_rfl) rfl)
noncomputable def Am:Ct aC Fb:=never Fb
theorem akl:cO E 297 (bX Am):=jM (enters_of Tryz.func297 (by kernel_rfl) rfl)
noncomputable def Ao:Ct aC Fe:=never Fe
theorem akm:cO E 298 (bX Ao):=jM (enters_of Tryz.func298 (by kernel_rfl) rfl)
noncomputable def Ap:Ct aC Fg:=never Fg
theorem akn:cO E 299 (bX Ap):=jM (enters_of Tryz.func299 (by kernel_rfl) rfl)
noncomputable def iw:Ct aC oL:=never oL
theorem lF:cO E 280 (bX iw):=jM (enters_of Tryz.func280 (by kernel_rfl) rfl)
def Tv:=mk Tryz.func280 (hlC aaU.ok (hlC Tt.ok (hlC akh (hlC aki (hlC akj (hlC akk (hlC akl (hlC akm (hlC akn (hlC lF hlN)))))))))) (aho (std 0) yu GI Ai Aj Ak Al Am Ao Ap iw)
noncomputable def qZ:=Tv.c
def iB:=fun a b k d hd h1 h2=>Tv.cs (ah5 akf akg _ _ _ _ _ _ _ _ _ _ _ _ _ _ _ _ a b k d hd h1 h2)
def ako:=fun a b k d hd h1 h2=>(iB a b k d hd h1 h2).1
def akp:=fun a b k d hd h1 h2=>(iB a b k d hd h1 h2).2
noncomputable def GJ:Ct aC Uw:={pre:=fun x=>decide ((0:Int)≤x.1)&&decide ((x.1:Int)≤18446744073709551615),fn:=fun x=>((Lib.bitLen (x.1:Int).toNat:Int),())}
theorem apW (n:Int) (h1:0≤n) (h2:n≤18446744073709551615):GJ.pre (n,())=true:=by
 show(decide _&&decide _)=true;simp only [Bool.and_eq_true,decide_eq_true_eq];exact⟨h1,h2⟩
theorem apX:cO E 281 (bX GJ):=
 aas (enters_of Tryz.func281 (by kernel_rfl) rfl) rfl fun x w h=>by
  have h':(decide ((0:Int)≤x)&&decide (x≤18446744073709551615))=true:=h
  simp only [Bool.and_eq_true,decide_eq_true_eq]at h'
  exact bits_Len x w h'.1 h'.2
def Tw:=mk Tryz.func256 (hlC Tv.ok (hlC apX hlN)) (ahp (std 0) qZ GJ)
noncomputable def GL:=Tw.c
def jS:=fun a ha=>Tw.cs (ah6 ako akp apW a ha)
def akq:=fun a ha=>(jS a ha).1
def akr:=fun a ha=>(jS a ha).2
def Vs:=mk Tryz.func216 (hlC zD.ok (hlC JD.ok (hlC Vr.ok (hlC Tq.ok (hlC Tw.ok hlN))))) (anX (std 0) d9 mV wR GK GL)
noncomputable def wS:=Vs.c
def xA:=fun a b ha hb=>Vs.cs (aoF Ik Il aa8 aa9 adM adN akd ake akq akr a b ha hb)
def adO:=fun a b ha hb=>(xA a b ha hb).1
def adP:=fun a b ha hb=>(xA a b ha hb).2
def abf:=mk Tryz.func215 (hlC zD.ok (hlC OH.ok (hlC zC.ok (hlC Vs.ok hlN)))) (anY (std 0) d9 mW fO wS)
noncomputable def NT:=abf.c
def rY:=fun a n ha=>abf.cs (aoG Ik Il aa6 aa7 Jy Jz adO adP a n ha)
def apY:=fun a n ha=>(rY a n ha).1
def apZ:=fun a n ha=>(rY a n ha).2
def abg:=mk Tryz.func160 (hlC BU.ok (hlC OH.ok (hlC abb.ok (hlC abe.ok (hlC Vs.ok (hlC abf.ok (hlC Vp.ok hlN))))))) (anZ (std 0) fP mW NR NS wS NT wT)
noncomputable def NU:=abg.c
def xB:=fun op x y hx hy=>abg.cs (aoH JB JC aa6 aa7 apQ apR apU apV adO adP apY apZ adH adI op x y hx hy)
def ap0:=fun op x y hx hy=>(xB op x y hx hy).1
def ap1:=fun op x y hx hy=>(xB op x y hx hy).2
def abh:=mk Tryz.func123 (hlC OD.ok (hlC abg.ok (hlC Vj.ok (hlC Vk.ok hlN)))) (an0 (std 0) mR NU wM wL)
noncomputable def N9:=abh.c
def qB:=fun t op x y ht hx hy=>abh.cs (aoI aaV aaW ap0 ap1 adu adw adx ady t op x y ht hx hy)
def ap2:=fun t op x y ht hx hy=>(qB t op x y ht hx hy).1
def ap3:=fun t op x y ht hx hy=>(qB t op x y ht hx hy).2
def abj:=mk Tryz.func87 (hlC zC.ok hlN) (an1 (std 0) fO)
noncomputable def NY:=abj.c
def xC:=fun r a b=>abj.cs (aoU Jy Jz r a b)
def ap4:=fun r a b=>(xC r a b).1
def ap5:=fun r a b=>(xC r a b).2
def abk:=mk Tryz.func224 (hlC OG.ok hlN) (an2 (std 0) mU)
noncomputable def NV:=abk.c
def oC:=fun a ha=>abk.cs (aoV aa0 aa1 a ha)
def ap6:=fun a ha=>(oC a ha).1
def ap7:=fun a ha=>(oC a ha).2
def abl:=mk Tryz.func165 (hlC OG.ok (hlC abk.ok hlN)) (an3 (std 0) mU NV)
noncomputable def NW:=abl.c
def lQ:=fun s hs=>abl.cs (aoW aa0 aa1 ap6 ap7 s hs)
def ap8:=fun s hs=>(lQ s hs).1
def ap9:=fun s hs=>(lQ s hs).2
def abm:=mk Tryz.func125 (hlC Vp.ok (hlC zD.ok (hlC OD.ok (hlC abl.ok (hlC BU.ok (hlC abj.ok hlN)))))) (an4 (std 0) wT d9 mR NW fP NY)
noncomputable def N7:=abm.c
def xD:=fun s n hs h0 h1=>abm.cs (ao1 adH adI Ik Il aaV aaW ap8 ap9 JB JC ap4 ap5 s n hs h0 h1)
def aqa:=fun s n hs h0 h1=>(xD s n hs h0 h1).1
def aqb:=fun s n hs h0 h1=>(xD s n hs h0 h1).2
def abn:=mk Tryz.func68 (hlC OC.ok (hlC U8.ok (hlC aa3.ok (hlC U6.ok (hlC OH.ok (hlC abm.ok (hlC aa4.ok (hlC Vo.ok (hlC abh.ok (hlC Vm.ok (hlC Vn.ok (hlC aa5.ok hlN)))))))))))) (an5 (std 0) wH wU NZ wE mW N7 N8 wP N9 wN wQ Oa)
noncomputable def Oe:=abn.c
def xE:=fun t b ht hb=>abn.cs (ao2 adg adh adi adk apK apL ac6 ac7 aa6 aa7 aqa aqb apM apN adF adG ap2 ap3 adz adA adB adC apO apP t b ht hb)
def aqc:=fun t b ht hb=>(xE t b ht hb).1
def aqd:=fun t b ht hb=>(xE t b ht hb).2
def abo:=mk Tryz.func168 (hlC BU.ok hlN) (an6 (std 0) fP)
noncomputable def Ob:=abo.c
def nJ:=fun a b ha=>abo.cs (ao8 JB JC a b ha)
def aqe:=fun a b ha=>(nJ a b ha).1
def aqf:=fun a b ha=>(nJ a b ha).2
def Tx:=mk Tryz.func167 (hlC abo.ok hlN) (ahq (std 0) Ob)
noncomputable def GN:=Tx.c
def aZ:=fun a b ha=>Tx.cs (aiM aqe aqf a b ha)
def aks:=fun a b ha=>(aZ a b ha).1
def akt:=fun a b ha=>(aZ a b ha).2
def Vt:=mk Tryz.func129 (hlC Tx.ok hlN) (an7 (std 0) GN)
noncomputable def wV:=Vt.c
def qC:=fun a b ha=>Vt.cs (ao9 aks akt a b ha)
def adQ:=fun a b ha=>(qC a b ha).1
def adR:=fun a b ha=>(qC a b ha).2
def abp:=mk Tryz.func127 (hlC BU.ok (hlC Vt.ok hlN)) (an8 (std 0) fP wV)
noncomputable def Oc:=abp.c
def qD:=fun a b ha=>abp.cs (apa JB JC adQ adR a b ha)
def aqg:=fun a b ha=>(qD a b ha).1
def aqh:=fun a b ha=>(qD a b ha).2
def Tz:=mk Tryz.func126 (hlC abp.ok hlN) (ahr (std 0) Oc)
noncomputable def GQ:=Tz.c
def aV:=fun a b ha=>Tz.cs (aiN aqg aqh a b ha)
def aku:=fun a b ha=>(aV a b ha).1
def akv:=fun a b ha=>(aV a b ha).2
end Go.TX.F
namespace Go.TX.F
open Go Go.AE Go.TX Go.TX.Seat Go.Proofs
set_option maxRecDepth 100000
def abq:=mk Tryz.func69 (hlC BU.ok (hlC Vt.ok (hlC Tz.ok hlN))) (an9 (std 0) fP wV GQ)
noncomputable def Og:=abq.c
def vg:=fun a b ha=>abq.cs (apb JB JC adQ adR aku akv a b ha)
def aqi:=fun a b ha=>(vg a b ha).1
def aqj:=fun a b ha=>(vg a b ha).2
def Vu:=mk Tryz.func22 (hlC U8.ok (hlC Va.ok (hlC aa2.ok (hlC abn.ok (hlC abq.ok hlN))))) (aoa (std 0) wU wW Od Oe Og)
noncomputable def wX:=Vu.c
def vk:=fun b c hb hc=>Vu.cs (apc adi adk adl adn apI apJ aqc aqd aqi aqj b c hb hc)
def adS:=fun b c hb hc=>(vk b c hb hc).1
def adT:=fun b c hb hc=>(vk b c hb hc).2
def TA:=mk Tryz.func77 (hlC Ic.ok (hlC KL.ok (hlC jN.ok (hlC Ij.ok (hlC K7.ok hlN))))) (ahs (std 0) jg pz aR jh pE)
noncomputable def GZ:=TA.c
def rZ:=fun n b p hb h1 h2=>TA.cs (aiT SA SB aat aau nG nH SY S9 aaK aaL n b p hb h1 h2)
def akw:=fun n b p hb h1 h2=>(rZ n b p hb h1 h2).1
def akx:=fun n b p hb h1 h2=>(rZ n b p hb h1 h2).2
def TB:=mk Tryz.func139 (hlC jN.ok (hlC yB.ok hlN)) (aht (std 0) aR gK)
noncomputable def GV:=TB.c
def qE:=fun c b p ok hc hb h1 h2=>TB.cs (aiI nG nH KN KO c b p ok hc hb h1 h2)
def aky:=fun c b p ok hc hb h1 h2=>(qE c b p ok hc hb h1 h2).1
def akz:=fun c b p ok hc hb h1 h2=>(qE c b p ok hc hb h1 h2).2
def TD:=mk Tryz.func79 (hlC uN.ok (hlC Ic.ok (hlC Ia.ok (hlC jN.ok (hlC Ij.ok (hlC Ta.ok (hlC TB.ok hlN))))))) (ahu (std 0) dB jg jf aR jh GU GV)
noncomputable def GY:=TD.c
def vo:=fun n b p hb h1 h2=>TD.cs (aiL AJ AL SA SB Sl Sn nG nH SY S9 ajB ajC aky akz n b p hb h1 h2)
def akA:=fun n b p hb h1 h2=>(vo n b p hb h1 h2).1
def akB:=fun n b p hb h1 h2=>(vo n b p hb h1 h2).2
def TF:=mk Tryz.func28 (hlC K8.ok (hlC jN.ok (hlC TD.ok (hlC TA.ok hlN)))) (ahv (std 0) GX aR GY GZ)
noncomputable def Hl:=TF.c
def oD:=fun c hc hl=>TF.cs (aiU ajD ajE nG nH akA akB akw akx c hc hl)
def akC:=fun c hc hl=>(oD c hc hl).1
def akD:=fun c hc hl=>(oD c hc hl).2
def akE:=mk Tryz.func81 (hlC Va.ok hlN) (arR (std 0) wW)
noncomputable def Zv:=akE.c
def r9:=fun q b c h1 h2=>akE.cs (ar2 adl adn q b c h1 h2)
def asa:=fun q b c h1 h2=>(r9 q b c h1 h2).1
def asb:=fun q b c h1 h2=>(r9 q b c h1 h2).2
def akF:=mk Tryz.func83 (hlC Vu.ok hlN) (arS (std 0) wX)
noncomputable def Zw:=akF.c
def vw:=fun q h1 h2=>akF.cs (ar3 adS adT q h1 h2)
def asc:=fun q h1 h2=>(vw q h1 h2).1
def ase:=fun q h1 h2=>(vw q h1 h2).2
def TG:=mk Tryz.func140 (hlC akE.ok hlN) (ahw (std 0) Zv)
noncomputable def G5:=TG.c
def dA:=fun l b c h=>TG.cs (aiO asa asb l b c h)
def akG:=fun l b c h=>(dA l b c h).1
def akH:=fun l b c h=>(dA l b c h).2
def TH:=mk Tryz.func140 (hlC akF.ok hlN) (ahx (std 0) Zw)
noncomputable def G6:=TH.c
def cu:=fun l h=>TH.cs (aiP asc ase l h)
def akI:=fun l h=>(cu l h).1
def akJ:=fun l h=>(cu l h).2
def TI:=mk Tryz.func80 (hlC TG.ok hlN) (ahy (std 0) G5)
noncomputable def G7:=TI.c
def cB:=fun l b c h=>TI.cs (aiQ akG akH l b c h)
def akK:=fun l b c h=>(cB l b c h).1
def akL:=fun l b c h=>(cB l b c h).2
def TJ:=mk Tryz.func80 (hlC TH.ok hlN) (ahz (std 0) G6)
noncomputable def G9:=TJ.c
def bQ:=fun l h=>TJ.cs (aiR akI akJ l h)
def akM:=fun l h=>(bQ l h).1
def akN:=fun l h=>(bQ l h).2
def akO:=mk Tryz.func29 (hlC TI.ok hlN) (arT (std 0) G7)
noncomputable def Zx:=akO.c
def xG:=fun l b c h=>akO.cs (ar4 akK akL l b c h)
def asf:=fun l b c h=>(xG l b c h).1
def asg:=fun l b c h=>(xG l b c h).2
def Lc:=mk Tryz.func82 hlN (ahA (std 0))
noncomputable def G8:=Lc.c
def akP:=fun a b ha=>(Lc.cs (aaq a b ha)).1
def akQ:=fun a b ha=>(Lc.cs (aaq a b ha)).2
def TK:=mk Tryz.func30 (hlC Lc.ok hlN) (ahB (std 0) G8)
noncomputable def Hg:=TK.c
def xH:=fun l b c h=>TK.cs (aiS akP akQ l b c h)
def akR:=fun l b c h=>(xH l b c h).1
def akS:=fun l b c h=>(xH l b c h).2
def akT:=mk Tryz.func31 (hlC TJ.ok hlN) (arU (std 0) G9)
noncomputable def Zy:=akT.c
def zJ:=fun l h=>akT.cs (ar5 akM akN l h)
def ash:=fun l h=>(zJ l h).1
def asi:=fun l h=>(zJ l h).2
def adU:=mk Tryz.func5 (hlC akO.ok (hlC akT.ok (hlC Vu.ok (hlC U9.ok (hlC aaP.ok (hlC TK.ok (hlC TF.ok hlN))))))) (aob (std 0) Zx Zy wX Oh Oi Hg Hl)
def sj:=fun c hc=>adU.cs (apd asf asg ash asi adS adT apl apm apn apo akR akS akC akD c hc)
def aqk:=fun c hc=>(sj c hc).1
def aql:=fun c hc=>(sj c hc).2
end Go.TX.F
namespace Go.TX.F
open Go Go.AE Go.TX Go.TX.Seat Go.Proofs
set_option maxRecDepth 100000
end Go.TX.F
namespace Go.Proofs.YtkecklmejhogoaaGreat
open Go.ChangeShapes Go.WideShapes Go.ChangeAt Go.RowKit
theorem asj:ownKnob Tryz.prog.godebug=Option.none:=by kernel_rfl
theorem aqm:laidOutB Tryz.prog=true:=by kernel_rfl
theorem akU:Tryz.prog.cellsOf 5=1:=by kernel_rfl
set_option maxRecDepth 100000 in
theorem lifted (os:Os) (started:os.Started) (H:Type) (enc:TypeId×Value→H):
  ReturnsInHanded {} Tryz.checked os 5 .any (Rows.fnCerHasSpec.pre6 enc Tryz.prog Tryz.f5 Rows.fnCerHasRow.domain false) (Rows.fnCerHasSpec.post enc Tryz.prog Tryz.f5 false true false false):=by
 refine returnsInHanded_of_change (C:=Tryz.checked) asj started (by kernel_rfl) Tryz.func5
  (ChangeSpec.witness6 (enc:=enc) (C:=Tryz.checked) false ⟨#[], #[.slice none 0 0],[]⟩ 8 (by kernel_rfl) (by kernel_rfl) (by kernel_rfl) (by kernel_rfl)) ?_
 intro W base args ds gs before hval0 hW _ _
 have hval:∀(j:Nat) t v,Tryz.f5.params[j]? =some t→args[j]? =some v→Value.okWide Tryz.prog W .any base t v:=hval0
 have hW':=hW
 obtain⟨p,q,hA0,hV,rfl,_,_⟩:=hW
 have hA:DataW.TrodAll enc Tryz.prog W 0 (fun _=>true) true Tryz.f5.params.toList args.toList ds p:=hA0
 rw [Tryz.params5]at hA hval
 obtain⟨v0,d0,rfl,rfl,h0⟩:=trodAll_one hA
 obtain⟨rfl,rfl⟩:=trodVars_none hV
 clear hA0 hval0
 simp only [List.append_nil]at hW'
 have hlt:∀x∈p,x.block<W.heap.size:=fun x hx=>by simpa using hW'.lt x hx
 obtain⟨xs,hr,hb⟩:=Go.TX.aar Tryz.underlying22 Tryz.underlying5 akU (hval 0 22 v0 rfl rfl) h0 hlt
 have hp:=Go.TX.F.aqk xs hb
 have hq:=Go.TX.F.aql xs hb
 refine(Go.TX.ar7 Go.TX.F.adU.ok hr (fun g d h=>by cases h) hp).mono fun e W' ⟨he,hw⟩=> ?_
 have he:e= .returned (.bool true):=he.trans (congrArg (fun z:Bool×Unit=>Ending.returned (.bool z.1)) hq)
 refine⟨_,he,[d0],[],p,[],p,[],hW',trodAll_mk1 (shut_bool Tryz.underlying4 true),?_,rfl,hw.frame _,fun h=>by cases h⟩
 exact trodAll_mk1 (Below.trod aqm (by kernel_rfl) (of_decide_eq_true (by kernel_rfl)) h0 hw hlt)
theorem y1:Tryz.pinned.checked.prog.funcNamed Rows.fnCerHasRow.func=some 5:=by kernel_rfl
theorem aS {a b:Bool} (h:a=true) (k:b=true):(a&&b)=true:=by rw [h,k];rfl
set_option maxHeartbeats 4000000 in
theorem y2:joinedFacts Tryz.pinned.checked.prog 5 Tryz.f5 Rows.fnCerHasSpec Rows.fnCerHasRow=true:=by
 unfold joinedFacts
 repeat' with_reducible apply aS
 all_goals (as_aux_lemma=>kernel_rfl)
theorem y3:Func.isWrapper Tryz.prog Tryz.f5 Rows.fnCerHasRow.wrapper Rows.fnCerHasRow.mainSum:=(by unfold Func.isWrapper;first | (rw [if_pos (by decide+kernel)];kernel_rfl) | (rw [if_neg (by decide+kernel)];exact⟨rfl,rfl⟩))
theorem x_holds:Rows.FnCerHasSaid:=
 OpenClaim.holds_of_wide 5 Tryz.f5 rfl rfl rfl rfl rfl rfl rfl ⟨rfl,rfl,rfl,rfl,rfl⟩ rfl rfl rfl rfl rfl y1 Tryz.func5 y2
  (of_decide_eq_true (by kernel_rfl)) y3
  (fun os started H enc _=>lifted os started H enc)
end Go.Proofs.YtkecklmejhogoaaGreat
