/- For every input the law returns true, and the input reads as it did. No condition. -/
import Derived.Test.YtkecklmejhogoaaGreatZe
import Derived.ChangeSlices
import Derived.ChangeSame
import Derived.JoinedOf
import Derived.JoinedAt
import Derived.Handed
import Derived.Below
import Derived.Carry
import Derived.OpenShut
import Derived.ChangeKeysEq
import Derived.Test.YtkecklmejhogoaaGreatY
import Derived.Test.YtkecklmejhogoaaGreatRows
set_option linter.all false
set_option linter.unusedSectionVars false
set_option linter.unusedVariables false
set_option linter.unusedSimpArgs false
namespace Go.TX.F
open Go Go.AE Go.TX
theorem agW {p1:Int×Int×Int×Unit→Bool} {f1:Int×Int×Int×Unit→Bool×Unit} (hp1:∀a b c,p1 (a,b,c,())=true) (hf1:∀a b c,f1 (a,b,c,())=(inB a b c,())) (k:Int):
  Pz (std 0) p1 f1 (k,()) (fun y=>y=(decide ((1≤k∧k≤4)∨k=6),())):=by
 dsimp only [Pz,Alg.cl,Alg.cg,Alg.rb,Alg.bd,Alg.l1,Tup.q,Tup.o]
 simp (disch:=omega) only [RR,hp1,hf1]
 refine Prod.ext ?_ rfl
 rw [Bool.eq_iff_iff];simp [inB]
theorem agX {p1:Int×Unit→Bool} {f1:Int×Unit→Bool×Unit} (hp1:∀k,p1 (k,())=true) (hf1:∀k,f1 (k,())=(decide ((1≤k∧k≤4)∨k=6),())) (ops:List IOp) (x n:Int) (h1:n≤ops.length):
  PD (std 0) p1 f1 (ops,x,n,()) (fun y=>y=(bp (Vl ops x n),())):=by
 dsimp only [PD,Alg.cl,Alg.cg,Alg.rb,Alg.bd,Alg.l1,Tup.q,Tup.o]
 simp (disch:=omega) only [RR,RB,hp1,hf1]
 refine⟨by simp only [Bool.and_eq_false_iff,decide_eq_false_iff_not];omega,by simp only [Bool.and_eq_false_iff,decide_eq_false_iff_not];omega,?_⟩
 refine Prod.ext ?_ rfl
 dsimp only
 rw [Bool.eq_iff_iff,bL,Bool.and_eq_true,Bool.and_eq_true,decide_eq_true_eq,decide_eq_true_eq,decide_eq_true_eq,and_assoc]
 rfl
theorem agY {p4:Int×Unit→Bool} {f4:Int×Unit→Bool×Unit} (hp4:∀a,p4 (a,())=true) (hf4:∀a,f4 (a,())=(inB a 0 65535,()))
  {p1:Int×Int×Int×Unit→Bool} {f1:Int×Int×Int×Unit→Bool×Unit} (hp1:∀a b c,p1 (a,b,c,())=true) (hf1:∀a b c,f1 (a,b,c,())=(inB a b c,()))
  {p3:List IOp×Int×Int×Unit→Bool} {f3:List IOp×Int×Int×Unit→Bool×Unit} (hp3:∀(ops:List IOp) (x n:Int),n≤ops.length→p3 (ops,x,n,())=true) (hf3:∀(ops:List IOp) (x n:Int),n≤ops.length→f3 (ops,x,n,())=(bp (Vl ops x n),()))
  (ops:List IOp) (i len:Int) (h0:0≤i) (h1:i<ops.length) (h3:1≤len∧len≤8):PE (std 0) p4 f4 p1 f1 p3 f3 (ops,i,len,()) (fun y=>y=(bp (Bz ops len i ((ops).getD (i).toNat default)),())):=by
 have Rt:=fun x=>hp3 ops x i (by omega)
 have Rv:=fun x=>hf3 ops x i (by omega)
 have e:∀ {a:Int},(0≤a∧a≤len-1)↔(0≤a∧a<len):=fun {a}=>by omega
 dsimp only [PE,Alg.cl,Alg.cg,Alg.rb,Alg.bd,Alg.l1,Tup.q,Tup.o]
 simp (disch:=omega) only [RR,RB,hp1,hf1,Rt,Rv,hp4,hf4]
 refine⟨by omega,by omega,?_⟩
 rw [show bp (Bz ops len i ((ops).getD (i).toNat default))=bp (_)from uw Oa]
 generalize ((ops).getD (i).toNat default)=o
 have go:∀ {c:Bool} {P:Prop},(c=true↔P)→(c,())=(bp P,()):=fun {c P} h=>Prod.ext (by dsimp only;rw [Bool.eq_iff_iff,bL];exact h) rfl
 refine⟨fun c=> ?_,fun c1=>⟨fun c=> ?_,fun c2=>⟨fun c=> ?_,fun c3=> ?_⟩⟩⟩
 ·refine go ?_
  simp only [Bool.and_eq_true,decide_eq_true_eq,bL,eP,c,hX,hY,hK,evO,e]
  simp [and_assoc]
 ·refine go ?_
  simp only [Bool.and_eq_true,decide_eq_true_eq,bL,eP,c,hX,hY,hK,evO,e]
  simp [and_assoc]
 ·refine go ?_
  simp only [Bool.and_eq_true,decide_eq_true_eq,bL,eP,c,hX,hY,hK,evO,e]
  simp [and_assoc]
 ·by_cases c4:o.kind=4∨o.kind=7
  ·have c5:o.kind≠8:=by omega
   rcases c4 with c | c<;>simp (disch:=omega) only [RR,c,Int.reduceEq]<;>(refine go ?_)<;>simp only [Bool.and_eq_true,decide_eq_true_eq,bL,eP,c,hX,hY,hK,evO,e]<;>simp [and_assoc]
  ·by_cases c:o.kind=5
   ·simp (disch:=omega) only [RR,c,Int.reduceEq]
    refine go ?_
    simp only [Bool.and_eq_true,decide_eq_true_eq,bL,eP,c,hX,hY,hK,evO,e]
    simp [and_assoc]
   ·by_cases c':o.kind=6
    ·simp (disch:=omega) only [RR,c',Int.reduceEq]
     refine go ?_
     simp only [Bool.and_eq_true,decide_eq_true_eq,bL,eP,c',hX,hY,hK,evO,e]
     simp [and_assoc]
    ·by_cases c8:o.kind=8
     ·simp (disch:=omega) only [RR,c8,Int.reduceEq]
      refine go ?_
      simp only [Bool.and_eq_true,decide_eq_true_eq,bL,eP,c8,hX,hY,hK,evO,e]
      simp [and_assoc]
     ·have n4:¬o.kind=4:=fun h=>c4 (Or.inl h)
      have n7:¬o.kind=7:=fun h=>c4 (Or.inr h)
      simp (disch:=omega) only [RR,n4,n7,c,c',c8]
      rw [gV (fun h=>by have:=h.1;omega)]
theorem agZ {p4:Int×Unit→Bool} {f4:Int×Unit→Bool×Unit} (hp4:∀a,p4 (a,())=true) (hf4:∀a,f4 (a,())=(inB a 0 65535,()))
  {p3:List IOp×Int×Int×Unit→Bool} {f3:List IOp×Int×Int×Unit→Bool×Unit} (hp3:∀(ops:List IOp) (x n:Int),n≤ops.length→p3 (ops,x,n,())=true) (hf3:∀(ops:List IOp) (x n:Int),n≤ops.length→f3 (ops,x,n,())=(bp (Vl ops x n),()))
  (b:Blk):PG (std 0) p4 f4 p3 f3 (b,()) (fun y=>y=(bp (yV b),())):=by
 have Rt:=fun x=>hp3 b.ops x b.ops.length (Int.le_refl _)
 have Rv:=fun x=>hf3 b.ops x b.ops.length (Int.le_refl _)
 dsimp only [PG,Alg.cl,Alg.cg,Alg.rb,Alg.bd,Alg.l1,Tup.q,Tup.o]
 simp (disch:=omega) only [RR,RB,Rt,Rv,hp4,hf4]
 rw [show bp (yV b)=bp (_)from uw I6]
 have go:∀ {c:Bool} {P:Prop},(c=true↔P)→(c,())=(bp P,()):=fun {c P} h=>Prod.ext (by dsimp only;rw [Bool.eq_iff_iff,bL];exact h) rfl
 refine⟨fun c=> ?_,fun c1=>⟨fun c=> ?_,fun c2=> ?_⟩⟩
 ·refine go ?_
  simp only [Bool.and_eq_true,decide_eq_true_eq,bL,eP,c]
  simp [and_assoc]
 ·refine go ?_
  simp only [Bool.and_eq_true,decide_eq_true_eq,bL,eP,c]
  simp [and_assoc]
 ·by_cases c:b.fin=3
  ·simp (disch:=omega) only [RR,c,Int.reduceEq]
   refine go ?_
   simp only [Bool.and_eq_true,decide_eq_true_eq,bL,eP,c]
   simp [and_assoc]
  ·by_cases c4:b.fin=4
   ·simp (disch:=omega) only [RR,c4,Int.reduceEq]
    refine go ?_
    simp only [Bool.and_eq_true,decide_eq_true_eq,bL,eP,c4]
    simp [and_assoc]
   ·simp (disch:=omega) only [RR,c,c4]
    rw [gV (fun h=>by have:=h.1;omega)]
theorem ag0 {p1:Int×Int×Int×Unit→Bool} {f1:Int×Int×Int×Unit→Bool×Unit} (hp1:∀a b c,p1 (a,b,c,())=true) (hf1:∀a b c,f1 (a,b,c,())=(inB a b c,()))
  {p2:Blk×Unit→Bool} {f2:Blk×Unit→Bool×Unit} (hp2:∀b,p2 (b,())=true) (hf2:∀b,f2 (b,())=(bp (yV b),()))
  {p3:List IOp×Int×Int×Unit→Bool} {f3:List IOp×Int×Int×Unit→Bool×Unit} (hp3:∀(ops:List IOp) (i len:Int),0≤i→i<ops.length→1≤len∧len≤8→p3 (ops,i,len,())=true) (hf3:∀(ops:List IOp) (i len:Int),0≤i→i<ops.length→1≤len∧len≤8→f3 (ops,i,len,())=(bp (Bz ops len i ((ops).getD (i).toNat default)),())) (b:Blk) (h2:b.ops.length<1000000000):
  PI (std 0) p1 f1 p2 f2 p3 f3 (b,()) (fun y=>y=(bp (cu b),())):=by
 dsimp only [PI,Alg.cl,Alg.cg,Alg.rb,Alg.bd,Alg.l1,Tup.q,Tup.o]
 simp (disch:=omega) only [RR,RB,hp1,hf1]
 by_cases hl:1≤b.len∧b.len≤8
 ·have hl':=eP.2 hl
  simp (disch:=omega) only [RR,hl',eP,rP]
  refine⟨fun h=> ?_,fun h=> ?_⟩
  ·rw [gV (fun g=> ?_)]
   have g1:=g.pc
   have g2:=g.sz
   omega
  ·refine ay (fun(y:Int×Blk×Unit)=>y.2.1=b∧0≤y.1∧y.1≤b.ops.length∧All y.1 (fun i=>Bz b.ops b.len i ((b.ops).getD (i).toNat default))) (fun y=>(b.ops.length-y.1).toNat) ⟨rfl,by simp,by simp,All.zero⟩ ?_
   rintro⟨(i:Int),(b':Blk),⟨⟩⟩ hI
   dsimp only at hI ⊢
   obtain⟨rfl,h3,h4,h5⟩:=hI
   simp (disch:=omega) only [RR,hp2 b',hf2 b']
   refine⟨fun h6=>⟨hp3 b'.ops i b'.len h3 h6 hl,?_⟩,fun h6=> ?_⟩
   ·rw [hf3 b'.ops i b'.len h3 h6 hl]
    dsimp only
    refine⟨fun h7=> ?_,fun h7=>⟨⟨by omega,by omega,h5.snoc (bL.1 h7)⟩,by omega⟩⟩
    rw [gV (fun g=>rO.1 h7 (g.op i h3 h6))]
   ·by_cases he:yV b'
    ·rw [dK he,dK (show cu b' from⟨hl,by omega,by omega,fun j j1 j2=>h5 j j1 (by omega),he⟩)]
    ·rw [gV he,gV (fun g=>he g.en)]
 ·have hl':=rP.2 hl
  simp (disch:=omega) only [RR,hl']
  rw [gV (fun g=>hl g.ln)]
  exact⟨rfl,fun h=>h.1.1.elim⟩
theorem anE {p4:Int×Unit→Bool} {f4:Int×Unit→Bool×Unit} (hp4:∀a,p4 (a,())=true) (hf4:∀a,f4 (a,())=(inB a 0 65535,())) (r a b:Int):
  Yv (std 0) p4 f4 (r,a,b,()) (fun y=>y=(inB a 0 65535&&inB b 0 65535&& (decide (r=1∧a=b∨r=2∧a<b)),())):=by
 dsimp only [Yv,Alg.cl,Alg.cg,Alg.rb,Alg.bd,Alg.l1,Tup.q,Tup.o]
 simp (disch:=omega) only [RR,hp4,hf4]
 refine Prod.ext ?_ rfl
 rw [Bool.eq_iff_iff];simp
theorem anF {p1:List aj×Unit→Bool} {f1:List aj×Unit→List aj×Unit} (hp1:∀a,Sh a→p1 (a,())=true) (hf1:∀a,Sh a→f1 (a,())=(a,())) (a:List (List aj)) (ha:ShP a):
  Yw (std 0) p1 f1 (a,()) (fun y=>y=(a,())):=by
 have hlen:=ha.1
 dsimp only [Yw,Alg.cl,Alg.cg,Alg.rb,Alg.bd,Alg.l1,Tup.q,Tup.o]
 refine ay (fun(y:List (List aj)×Int×Int×List (List aj)×Unit)=>y.1=a∧y.2.1=a.length∧y.2.2.2.1=a.take y.2.2.1.toNat∧0≤y.2.2.1∧y.2.2.1≤a.length) (fun y=>(a.length-y.2.2.1).toNat) ⟨rfl,rfl,by simp,by simp,by simp⟩ ?_
 rintro⟨(l:List (List aj)),(m:Int),(i:Int),(o:List (List aj)),⟨⟩⟩ hI
 dsimp only at hI ⊢
 obtain⟨rfl,rfl,rfl,h1,h2⟩:=hI
 simp (disch:=omega) only [RR,hp1 _ (ha.at _),hf1 _ (ha.at _)]
 refine⟨fun h4=>⟨by omega,by omega,?_,⟨iG h1 h4 rfl,by omega,by omega⟩,by omega⟩,fun h4=>by rw [List.take_of_length_le (by omega)]⟩
 have:=List.length_take_le' i.toNat l
 simp only [List.length_cons,List.length_nil];omega
theorem anG {p1:List aj×Unit→Bool} {f1:List aj×Unit→List aj×Unit} (hp1:∀a,Sh a→p1 (a,())=true) (hf1:∀a,Sh a→f1 (a,())=(a,()))
  {p2:List (List aj)×Unit→Bool} {f2:List (List aj)×Unit→List (List aj)×Unit} (hp2:∀a,ShP a→p2 (a,())=true) (hf2:∀a,ShP a→f2 (a,())=(a,())) (s:Sym) (hs:ShY s):
  Yx (std 0) p1 f1 p2 f2 (s,()) (fun y=>y=(s.fin,s.k,s.events,s.regs,s.x,s.y,())):=by
 have hlen:=hs.e.1
 dsimp only [Yx,Alg.cl,Alg.cg,Alg.rb,Alg.bd,Alg.l1,Tup.q,Tup.o]
 simp (disch:=omega) only [RR,RB,hp1 _ hs.x,hf1 _ hs.x,hp1 _ hs.y,hf1 _ hs.y,hp2 _ hs.r,hf2 _ hs.r]
 refine ay (fun(y:List Ev×Int×Int×Int×Int×Int×Int×List Ev×List (List aj)×List aj×List aj×Unit)=>y.1=s.events∧y.2.1=s.events.length∧y.2.2.2.2.2.1=s.fin∧y.2.2.2.2.2.2.1=s.k∧y.2.2.2.2.2.2.2.1=s.events.take y.2.2.1.toNat∧y.2.2.2.2.2.2.2.2.1=s.regs∧y.2.2.2.2.2.2.2.2.2.1=s.x∧y.2.2.2.2.2.2.2.2.2.2.1=s.y∧0≤y.2.2.1∧y.2.2.1≤s.events.length) (fun y=>(s.events.length-y.2.2.1).toNat) ⟨rfl,rfl,rfl,rfl,by simp,rfl,rfl,rfl,by simp,by simp⟩ ?_
 rintro⟨(l:List Ev),(m:Int),(i:Int),(q1:Int),(q2:Int),(q3:Int),(q4:Int),(o:List Ev),(r:List (List aj)),(u:List aj),(v:List aj),⟨⟩⟩ hI
 dsimp only at hI ⊢
 obtain⟨rfl,rfl,rfl,rfl,rfl,rfl,rfl,rfl,h1,h2⟩:=hI
 have he:=hs.e.at i.toNat
 simp (disch:=omega) only [RR,RB,hp1 _ he.1,hf1 _ he.1,hp1 _ he.2.1,hf1 _ he.2.1,hp2 _ he.2.2,hf2 _ he.2.2]
 refine⟨fun h4=>⟨by omega,by omega,?_,⟨iG h1 h4 rfl,by omega,by omega⟩,by omega⟩,fun h4=>by rw [List.take_of_length_le (by omega)]⟩
 have:=List.length_take_le' i.toNat s.events
 simp only [List.length_cons,List.length_nil];omega
end Go.TX.F
namespace Go.TX.F
open Go Go.AE Go.TX
theorem anH {p1:Int×Unit→Bool} {f1:Int×Unit→List aj×Unit} (hp1:∀n,p1 (n,())=true) (hf1:∀n,f1 (n,())=(gW n,()))
  {p2:List Atom×Atom×Unit→Bool} {f2:List Atom×Atom×Unit→List Atom×Int×Unit} (hp2:∀(t:List Atom) a,t.length<1000000000→ShA a→p2 (t,a,())=true) (hf2:∀(t:List Atom) a,t.length<1000000000→ShA a→f2 (t,a,())=((bJ t a).1,(bJ t a).2,()))
  (kd k:Int) (t:List Atom) (fl:Bool) (ht:t.length<1000000000):
  XO (std 0) p1 f1 p2 f2 (kd,k,t,fl,()) (fun y=>y=if(bJ t ⟨kd,k,[],[]⟩).2<0 then([],t,true,())else(gW (bJ t ⟨kd,k,[],[]⟩).2,(bJ t ⟨kd,k,[],[]⟩).1,fl,())):=by
 have sa:ShA ⟨kd,k,[],[]⟩:=⟨mW,mW⟩
 dsimp only [XO,Alg.cl,Alg.cg,Alg.rb,Alg.bd,Alg.l1,Tup.q,Tup.o]
 simp (disch:=omega) only [RR,hp1,hf1,hp2 _ _ ht sa,hf2 _ _ ht sa]
 exact⟨fun h=>by rw [if_pos h],fun h=>by rw [if_neg h]⟩
theorem Ug (t:List Atom) (n:Nat):rN t (n+1)=((bJ (rN t n).1 ⟨1,n,[],[]⟩).1,(rN t n).2++ [gW (bJ (rN t n).1 ⟨1,n,[],[]⟩).2]):=rfl
theorem anI {p1:Int×Int×List Atom×Bool×Unit→Bool} {f1:Int×Int×List Atom×Bool×Unit→List aj×List Atom×Bool×Unit} (hp1:∀kd k (t:List Atom) fl,t.length<1000000000→p1 (kd,k,t,fl,())=true)
  (hf1:∀kd k (t:List Atom) fl,t.length<1000000000→f1 (kd,k,t,fl,())=if(bJ t ⟨kd,k,[],[]⟩).2<0 then([],t,true,())else(gW (bJ t ⟨kd,k,[],[]⟩).2,(bJ t ⟨kd,k,[],[]⟩).1,fl,()))
  (t:List Atom) (fl:Bool) (ht:aH t) (hl:t.length≤196):XV (std 0) p1 f1 (t,fl,()) (fun y=>y=((rN t 4).1,fl,(rN t 4).2,())):=by
 dsimp only [XV,Alg.cl,Alg.cg,Alg.rb,Alg.bd,Alg.l1,Tup.q,Tup.o]
 refine ay (fun(y:Int×List Atom×Bool×List (List aj)×Unit)=>0≤y.1∧y.1≤4∧y.2.2.1=fl∧y.2.1=(rN t y.1.toNat).1∧y.2.2.2.1=(rN t y.1.toNat).2) (fun y=>(4-y.1).toNat) ⟨by simp,by simp,rfl,rfl,rfl⟩ ?_
 rintro⟨(i:Int),(u:List Atom),(g:Bool),(r:List (List aj)),⟨⟩⟩ hI
 dsimp only at hI ⊢
 obtain⟨h1,h2,rfl,rfl,rfl⟩:=hI
 have ok:=I4 ht hl i.toNat (by omega)
 have l1:=ok.tl
 have l2:=ok.r4
 simp (disch:=omega) only [RR,hp1 _ _ (rN t i.toNat).1 _ (by omega),hf1 _ _ (rN t i.toNat).1 _ (by omega),List.length_cons,List.length_nil]
 refine⟨fun h3=> ?_,fun h3=> ?_⟩
 ·have hp:=J4 ht hl (n:=i.toNat) (by omega)
  rw [show((i.toNat:Nat):Int)=i by omega]at hp
  rw [if_neg (by omega)]
  have e:(i+1).toNat=i.toNat+1:=by omega
  have e2:((i.toNat:Nat):Int)=i:=by omega
  refine⟨by omega,⟨by omega,by omega,rfl,?_,?_⟩,by omega⟩
  ·rw [e,Ug,e2]
  ·rw [e,Ug,e2]
 ·rw [show i.toNat=4 by omega]
theorem anJ (a:List (List aj)) (h0:0<a.length) (h1:a.length<1000000000):Yb (std 0) (a,()) (fun y=>y=(a,a,())):=by
 dsimp only [Yb,Alg.cl,Alg.cg,Alg.rb,Alg.bd,Alg.l1,Tup.q,Tup.o]
 simp (disch:=omega) only [RR,List.length_nil]
 exact⟨by omega,by omega,rfl⟩
theorem anK {p2:List Atom×Unit→Bool} {f2:List Atom×Unit→List Atom×Unit} (hp2:∀a,ShT a→p2 (a,())=true) (hf2:∀a,ShT a→f2 (a,())=(a,()))
  {p1:List Atom×Bool×Unit→Bool} {f1:List Atom×Bool×Unit→List Atom×Bool×List (List aj)×Unit} (hp1:∀(t:List Atom) fl,aH t→t.length≤196→p1 (t,fl,())=true) (hf1:∀(t:List Atom) fl,aH t→t.length≤196→f1 (t,fl,())=((rN t 4).1,fl,(rN t 4).2,())):
  X4 (std 0) p2 f2 p1 f1 () (fun y=>y.1=t4):=by
 have s4:ShT t4:=Y9.1.sh
 unfold t4 at s4 ⊢
 dsimp only [X4,Alg.cl,Alg.cg,Alg.rb,Alg.bd,Alg.l1,Tup.q,Tup.o]
 simp (disch:=omega) only [RR,hp1 [] false vM (by simp),hf1 [] false vM (by simp),hp2 _ s4,hf2 _ s4]
theorem anL {p1:List aj×Unit→Bool} {f1:List aj×Unit→Int×Bool×Unit} (hp1:∀a,Sh a→p1 (a,())=true) (hf1:∀a,Sh a→f1 (a,())=((dV a).1,(dV a).2,()))
  {p2:List aj×Unit→Bool} {f2:List aj×Unit→Bool×Unit} (hp2:∀a,Sh a→p2 (a,())=true) (hf2:∀a,Sh a→f2 (a,())=(bp (aR a),()))
  {p3:List aj×List aj×Unit→Bool} {f3:List aj×List aj×Unit→Int×Unit} (hp3:∀a b,Sh a→p3 (a,b,())=true) (hf3:∀a b,Sh a→f3 (a,b,())=(iM a b,()))
  {p4:Sym×Unit→Bool} {f4:Sym×Unit→Int×Int×List Ev×List (List aj)×List aj×List aj×Unit} (hp4:∀s,ShY s→p4 (s,())=true) (hf4:∀s,ShY s→f4 (s,())=(s.fin,s.k,s.events,s.regs,s.x,s.y,()))
  {p5:List aj×List aj×Unit→Bool} {f5:List aj×List aj×Unit→Bool×Unit} (hp5:∀a b,Sh a→p5 (a,b,())=true) (hf5:∀a b,Sh a→f5 (a,b,())=(decide (iM a b=0),()))
  {p6:Int×Int×Int×Unit→Bool} {f6:Int×Int×Int×Unit→Bool×Unit} (hp6:∀r a b,p6 (r,a,b,())=true) (hf6:∀r a b,f6 (r,a,b,())=(inB a 0 65535&&inB b 0 65535&& (decide (r=1∧a=b∨r=2∧a<b)),()))
  (s:Sym) (n:Int) (hs:ShY s) (h0:0≤s.fin) (h1:s.fin≤4):Yy (std 0) p1 f1 p2 f2 p3 f3 p4 f4 p5 f5 p6 f6 (s,n,()) (fun y=>y=(symEnd s n,())):=by
 dsimp only [Yy,Alg.cl,Alg.cg,Alg.rb,Alg.bd,Alg.l1,Tup.q,Tup.o]
 simp (disch:=omega) only [RR,RB,hp1 _ hs.x,hf1 _ hs.x,hp1 _ hs.y,hf1 _ hs.y,hp2 _ hs.x,hf2 _ hs.x,hp2 _ hs.y,hf2 _ hs.y,hp3 _ _ hs.x,hf3 _ _ hs.x,hp4 s hs,hf4 s hs,hp5 _ _ hs.x,hf5 _ _ hs.x,hp6,hf6]
 have xy:iM s.x s.y=0↔s.x=s.y:=lY
 have rx:(dV s.x).2=true→inB (dV s.x).1 0 65535=true:=fun h=>eP.2 (GI h).2.2
 have ry:(dV s.y).2=true→inB (dV s.y).1 0 65535=true:=fun h=>eP.2 (GI h).2.2
 unfold symEnd
 refine⟨fun h=> ?_,fun h=>⟨fun g=> ?_,fun g=>⟨fun k=> ?_,fun k=>⟨fun l=>⟨fun m=> ?_,fun m=> ?_⟩,fun l=>⟨fun m=> ?_,fun m=> ?_⟩⟩⟩⟩⟩
 ·rw [if_pos (by rw [uo,Bool.and_eq_false_iff];exact h)];rfl
 all_goals rw [if_neg (by rw [uo,h.1,h.2];simp)]
 ·rw [if_pos g]
 all_goals rw [if_neg (show¬(s.fin=2∧(dV s.x).2=true) by
  rintro⟨a,b⟩;rw [decide_eq_true a,b]at g;cases g)]
 ·rw [if_pos k]
 all_goals rw [if_neg (show¬(s.fin≠3∧s.fin≠4) by
  rintro⟨a,b⟩;rw [decide_eq_false a,decide_eq_false b]at k;cases k)]
 ·rw [if_pos (by rw [←xy];exact l),if_neg]
  rintro(⟨q1,q2⟩ | ⟨⟨q1,q2⟩,q3⟩)
  ·have:=m.1;rw [decide_eq_true (xy.2 q1),decide_eq_true q2]at this;cases this
  ·have:=m.2
   rw [q1,q2,rx q1,ry q2,decide_eq_true (by omega)]at this;cases this
 ·rw [if_pos (by rw [←xy];exact l),if_pos]
  rcases m with⟨q1,q2⟩ | ⟨q1,_,q3⟩
  ·exact Or.inl ⟨xy.1 q1,q2⟩
  ·exact Or.inr ⟨q1,by omega⟩
 all_goals rw [if_neg (show¬(s.x=s.y∨(dV s.x).2=true∧(dV s.y).2=true) by
  rintro(q | ⟨q1,q2⟩)
  ·exact l.1 (xy.2 q)
  ·have:=l.2;rw [q1,q2]at this;cases this)]
 ·rw [if_pos m]
 ·rw [if_neg]
  rintro⟨a,b⟩;rw [decide_eq_true a,decide_eq_true b]at m;cases m
end Go.TX.F
namespace Go.TX.F
open Go Go.AE Go.TX
noncomputable def SW (t:List Atom) (b:Blk) (i:Nat):SS:=(b.ops.take i).foldl stp (s0 t)
structure At (t:List Atom) (b:Blk) (i:Nat) (ld inn:Int) (tb:List Atom) (V:List (List aj)) (ev:List Ev) (rg:List (List aj)):Prop where
 ld:ld=(SW t b i).ld
 inn:inn=(SW t b i).inn
 tb:tb=(SW t b i).t
 V:V=(SW t b i).vals++List.replicate (b.ops.length-i) []
 ev:ev=(SW t b i).evs
 rg:rg=(SW t b i).regs
theorem At.aqH {t:List Atom} {b:Blk} {i:Nat} {ld inn:Int} {tb:List Atom} {V:List (List aj)} {ev:List Ev} {rg:List (List aj)} (h:At t b i ld inn tb V ev rg) (hv:(SW t b i).vals.length=i) (hi:i≤b.ops.length):V.length=b.ops.length:=by
 rw [h.V,List.length_append,List.length_replicate,hv];omega
theorem Uh (t:List Atom):∀(l:List IOp) (s:SS),(l.foldl stp s).evs.length≤s.evs.length+l.length
 | [],s=>Nat.le_refl _
 | o::r,s=>by
  rw [List.foldl_cons,List.length_cons]
  have h1:=Uh t r (stp s o)
  have h2:(stp s o).evs.length≤s.evs.length+1:=by
   show(nE s o).length≤_
   unfold nE;split
   ·rw [List.length_append];exact Nat.le_refl _
   ·omega
  omega
theorem ag1 {t:List Atom} {b:Blk} (i:Nat) (hi:i≤b.ops.length):(SW t b i).evs.length≤i:=by
 have:=Uh t (b.ops.take i) (s0 t)
 rw [List.length_take,Nat.min_eq_left hi]at this
 show((b.ops.take i).foldl stp (s0 t)).evs.length≤i
 have e:(s0 t).evs.length=0:=rfl
 omega
theorem abr {t:List Atom} {b:Blk} {i:Nat} (hi:i<b.ops.length):SW t b (i+1)=stp (SW t b i) (b.ops.getD i default):=by
 unfold SW;rw [mZ _ _ hi,getD_lt hi]
theorem At.next {t:List Atom} {b:Blk} {i:Nat} {ld inn:Int} {tb:List Atom} {V:List (List aj)} {ev:List Ev} {rg:List (List aj)} (h:At t b i ld inn tb V ev rg) (hv:(SW t b i).vals.length=i) (hi:i<b.ops.length) {o:IOp} (ho:b.ops.getD i default=o)
  {ld' Ze:Int} {tb':List Atom} {V':List (List aj)} {ev':List Ev} {rg':List (List aj)} (h1:ld'=if o.kind=4 then ld+1 else ld) (h2:Ze=if o.kind=6 then inn+1 else inn) (h3:tb'=nT (SW t b i) o) (h4:V'=V.set i (nV (SW t b i) o)) (h5:ev'=nE (SW t b i) o) (h6:rg'=nR (SW t b i) o):At t b (i+1) ld' Ze tb' V' ev' rg':=by
 have e:=abr (t:=t) hi
 rw [ho]at e
 refine⟨?_,?_,?_,?_,?_,?_⟩<;>rw [e]
 ·rw [h1,h.ld];rfl
 ·rw [h2,h.inn];rfl
 ·exact h3
 ·rw [h4,h.V]
  show _=((SW t b i).vals++ [nV (SW t b i) o])++_
  rw [List.set_append_right _ _ (by omega),hv,Nat.sub_self,show b.ops.length-i=(b.ops.length- (i+1))+1 by omega,List.replicate_succ,List.set_cons_zero,List.append_assoc];rfl
 ·exact h5
 ·exact h6
set_option maxHeartbeats 1000000 in
theorem anM {p1:Blk×Unit→Bool} {f1:Blk×Unit→Bool×Bool×Bool×Unit} (hp1:∀b,p1 (b,())=true) (hf1:∀b,f1 (b,())=(decide (b.fin≠1),decide (3≤b.fin),decide (b.fin≠2),()))
  {p2:Blk×Unit→Bool} {f2:Blk×Unit→Bool×Unit} (hp2:∀b,b.ops.length<1000000000→p2 (b,())=true) (hf2:∀b,b.ops.length<1000000000→f2 (b,())=(bp (cu b),()))
  {p3:IOp×Unit→Bool} {f3:IOp×Unit→Bool×Unit} (hp3:∀o,p3 (o,())=true) (hf3:∀o,f3 (o,())=(decide (evO o),()))
  {p4:IOp×Unit→Bool} {f4:IOp×Unit→Bool×Bool×Bool×Bool×Unit} (hp4:∀o,p4 (o,())=true) (hf4:∀o,f4 (o,())=(decide (hX o),decide (hY o),decide (hK o),decide (evO o),()))
  {p5:Int×Unit→Bool} {f5:Int×Unit→List aj×Unit} (hp5:∀n,p5 (n,())=true) (hf5:∀n,f5 (n,())=(aW n,()))
  {p6:Sym×Int×Unit→Bool} {f6:Sym×Int×Unit→Sym×Unit} (hp6:∀s n,ShY s→0≤s.fin→s.fin≤4→p6 (s,n,())=true) (hf6:∀s n,ShY s→0≤s.fin→s.fin≤4→f6 (s,n,())=(symEnd s n,()))
  {p7:List Atom×Unit→Bool} {f7:List Atom×Unit→Bool×Unit} (hp7:∀a,ShT a→p7 (a,())=true) (hf7:∀a,ShT a→f7 (a,())=(bp (aH a),()))
  {p8:List Atom×Unit→Bool} {f8:List Atom×Unit→List Atom×Unit} (hp8:∀a,ShT a→p8 (a,())=true) (hf8:∀a,ShT a→f8 (a,())=(a,()))
  {p9:List Atom×Int×List aj×List aj×Unit→Bool} {f9:List Atom×Int×List aj×List aj×Unit→List Atom×List aj×Bool×Unit} (hp9:∀(t:List Atom) op x y,t.length<1000000000→Sh x→Sh y→p9 (t,op,x,y,())=true)
  (hf9:∀(t:List Atom) op x y,t.length<1000000000→Sh x→Sh y→(f9 (t,op,x,y,())).1=(tDo t op x y).1∧(f9 (t,op,x,y,())).2.1=(tDo t op x y).2∧(f9 (t,op,x,y,())).2.2.1=tOk t op x y)
  {p10:Int×Int×List Atom×Bool×Unit→Bool} {f10:Int×Int×List Atom×Bool×Unit→List aj×List Atom×Bool×Unit} (anN:∀kd k (t:List Atom) fl,t.length<1000000000→p10 (kd,k,t,fl,())=true)
  (aqI:∀kd k (t:List Atom) fl,t.length<1000000000→f10 (kd,k,t,fl,())=if(bJ t ⟨kd,k,[],[]⟩).2<0 then([],t,true,())else(gW (bJ t ⟨kd,k,[],[]⟩).2,(bJ t ⟨kd,k,[],[]⟩).1,fl,()))
  {p11:List Atom×Bool×Unit→Bool} {f11:List Atom×Bool×Unit→List Atom×Bool×List (List aj)×Unit} (aqJ:∀(t:List Atom) fl,aH t→t.length≤196→p11 (t,fl,())=true) (aqK:∀(t:List Atom) fl,aH t→t.length≤196→f11 (t,fl,())=((rN t 4).1,fl,(rN t 4).2,()))
  {p12:List (List aj)×Unit→Bool} {f12:List (List aj)×Unit→List (List aj)×List (List aj)×Unit} (anO:∀a:List (List aj),0<a.length→a.length<1000000000→p12 (a,())=true) (anP:∀a:List (List aj),0<a.length→a.length<1000000000→f12 (a,())=(a,a,()))
  (t:List Atom) (b:Blk) (ht:ShT t) (hb:b.ops.length<1000000000):Yz (std 0) p1 f1 p2 f2 p3 f3 p4 f4 p5 f5 p6 f6 p7 f7 p8 f8 p9 f9 p10 f10 p11 f11 p12 f12 (t,b,()) (fun y=>y=((bI t b).1,(bI t b).2,())):=by
 have hlt:=ht.1
 dsimp only [Yz,Alg.cl,Alg.cg,Alg.rb,Alg.bd,Alg.l1,Tup.q,Tup.o]
 simp (disch:=omega) only [RR,RB,hp7 t ht,hf7 t ht,hp2 b hb,hf2 b hb]
 by_cases c:aH t∧t.length≤100∧cu b
 case neg=>
  refine⟨fun _=> ?_,fun h=> ?_⟩
  ·unfold bI;rw [gV c];rfl
  ·exact absurd ⟨bL.1 h.1.1,by omega,bL.1 h.2⟩ c
 obtain⟨c1,c2,c3⟩:=c
 simp (disch:=omega) only [RR,dK c1,dK c3,aqJ t false c1 (by omega),aqK t false c1 (by omega)]
 have sz:=c3.sz
 have hop:=c3.op
 have hk3:=c3.k3
 have i0:=GK c1 (by omega)
 have siw:∀j:Nat,j≤b.ops.length→SI (t.length+4) j (SW t b j):=fun j hj=>by
  have:=(z8 (b.ops.take j) 0 (s0 t) i0 (fun o ho=>hk3 o (List.mem_of_mem_take ho)) (by rw [List.length_take];omega) (by rw [List.length_take];omega)).1
  rw [List.length_take,Nat.min_eq_left hj,Nat.zero_add]at this;exact this
 refine⟨fun h=>absurd h (by omega),fun _=>⟨by omega,by omega,?_⟩⟩
 refine ay (fun(y:Int×Int×List IOp×Int×Int×Blk×Int×Int×List Atom×Bool×Int×Int×List (List aj)×List Ev×List (List aj)×Unit)=>y.2.2.2.2.2.1=b∧y.2.2.1=b.ops∧y.2.2.2.1=b.ops.length∧y.2.2.2.2.2.2.2.2.2.1=false∧y.2.2.2.2.2.2.2.2.2.2.1=b.fin∧y.2.2.2.2.2.2.2.2.2.2.2.1=b.k∧
   0≤y.2.2.2.2.1∧y.2.2.2.2.1≤b.ops.length∧At t b y.2.2.2.2.1.toNat y.1 y.2.1 y.2.2.2.2.2.2.2.2.1 y.2.2.2.2.2.2.2.2.2.2.2.2.1 y.2.2.2.2.2.2.2.2.2.2.2.2.2.1 y.2.2.2.2.2.2.2.2.2.2.2.2.2.2.1) (fun y=>(b.ops.length-y.2.2.2.2.1).toNat)
  ⟨rfl,rfl,rfl,rfl,rfl,rfl,by simp,by simp,⟨rfl,rfl,rfl,rfl,rfl,rfl⟩⟩ ?_
 rintro⟨(ld:Int),(inn:Int),(ops:List IOp),(n:Int),(i:Int),(b':Blk),(z1:Int),(z2:Int),(tb:List Atom),(fl:Bool),(fin:Int),(kk:Int),(V:List (List aj)),(ev:List Ev),(rg:List (List aj)),⟨⟩⟩ hI
 dsimp only at hI ⊢
 obtain⟨e1,e2,e3,e4,e5,e6,h1,h2,hA⟩:=hI
 subst e1 e2 e3 e4 e5 e6
 have hl:V.length=b'.ops.length:=hA.aqH (siw i.toNat (by omega)).vl (by omega)
 have si:=siw i.toNat (by omega)
 obtain⟨a1,a2,a3,a4,a5,a6⟩:=hA
 have tl:tb.length<1000000000:=by rw [a3];have:=si.tl;omega
 have r4:rg.length=4:=by rw [a6];exact si.r4
 have evl:ev.length≤i.toNat:=by rw [a5];exact ag1 i.toNat (by omega)
 by_cases h7:i<b'.ops.length
 case neg=>
  have en:=c3.en
  have hf:=en.f
  have hpc:=c3.pc
  have hln:=c3.ln
  have ein:i.toNat=b'.ops.length:=by omega
  have eS:SW t b' i.toNat=gH t b':=by unfold SW gH;rw [ein,List.take_of_length_le (Nat.le_refl _)]
  rw [eS]at a1 a2 a3 a4 a5 a6 si
  have eV:V=(gH t b').vals:=by rw [a4,ein,Nat.sub_self];simp
  clear a4
  have pk:=J7 (b:=b') si
  have eR:=xR c1 c2 c3
  have sh:ShY (kZ b' (gH t b')):=by
   have i0:=GK c1 (by omega)
   have hs:=Rm b'.ops 0 (s0 t) i0 hk3 (by omega) (by omega) ⟨by simp [s0],fun e he=>absurd he (by simp [s0])⟩
   exact⟨⟨by have:=hs.1;show(b'.ops.foldl stp (s0 t)).evs.length<_;omega,hs.2⟩,si.regs,pk.1.sh,pk.2.sh⟩
  have st:=si.tok.sh
  have q6:=hp6 (kZ b' (gH t b')) (b'.pc+b'.len) sh (by show 0≤b'.fin;omega) hf.2
  have r6:=hf6 (kZ b' (gH t b')) (b'.pc+b'.len) sh (by show 0≤b'.fin;omega) hf.2
  subst a1 a2 a3 a5 a6 eV
  have x1:=en.x1
  have y1:=en.y1
  have sl:=si.vl
  have E:kZ b' (gH t b')=⟨(gH t b').evs,(gH t b').regs,b'.fin,if b'.fin=1 then []else(((gH t b').vals).getD (b'.x).toNat default),if 3≤b'.fin then(((gH t b').vals).getD (b'.y).toNat default)else [],b'.k⟩:=rfl
  rw [E]at q6 r6
  rcases(by omega:b'.fin=1∨b'.fin=2∨3≤b'.fin)with c | c | c
  ·have n2:¬3≤b'.fin:=by omega
   rw [if_pos c,if_neg n2]at q6 r6
   simp (disch:=omega) only [RR,RB,h7,hp1,hf1,decide_eq_false n2,c,ne_eq,not_true_eq_false,decide_false,hp8 _ st,hf8 _ st]
   rw [c]at q6 r6
   rw [eR,E,if_pos c,if_neg n2,c]
   exact⟨fun h=>absurd h (by omega),fun _=>⟨q6,by rw [r6]⟩⟩
  ·have n1:b'.fin≠1:=by omega
   have n2:¬3≤b'.fin:=by omega
   obtain⟨v1,v2,_⟩:=x1 n1
   rw [if_neg n1,if_neg n2]at q6 r6
   simp (disch:=omega) only [RR,RB,h7,hp1,hf1,decide_eq_true n1,decide_eq_false n2,hp8 _ st,hf8 _ st]
   rw [eR,E,if_neg n1,if_neg n2]
   exact⟨v1,by omega,v1,by omega,q6,by rw [r6]⟩
  ·have n1:b'.fin≠1:=by omega
   obtain⟨v1,v2,_⟩:=x1 n1
   obtain⟨w1,w2,_⟩:=y1 c
   rw [if_neg n1,if_pos c]at q6 r6
   simp (disch:=omega) only [RR,RB,h7,hp1,hf1,decide_eq_true n1,decide_eq_true c,hp8 _ st,hf8 _ st]
   rw [eR,E,if_neg n1,if_pos c]
   exact⟨v1,by omega,v1,by omega,w1,by omega,w1,by omega,q6,by rw [r6]⟩
 have hok:=hop i h1 h7
 have nxt:=fun {ld' Ze:Int} {tb':List Atom} {V':List (List aj)} {ev':List Ev} {rg':List (List aj)}=>At.next (t:=t) (b:=b') (i:=i.toNat) (o:=((b'.ops).getD (i).toNat default)) ⟨a1,a2,a3,a4,a5,a6⟩ si.vl (by omega) rfl (ld':=ld') (Ze:=Ze) (tb':=tb') (V':=V') (ev':=ev') (rg':=rg')
 have ei:(i+1).toNat=i.toNat+1:=by omega
 have vx:∀j:Int,0≤j→j<i→((V).getD (j).toNat default)=(((SW t b' i.toNat).vals).getD (j).toNat default):=fun j j1 j2=>by
  have:=si.vl
  rw [a4,getD_lt (by rw [List.length_append];omega),getD_lt (by omega),List.getElem_append_left]
 have ex:hX ((b'.ops).getD (i).toNat default)→((V).getD ((((b'.ops).getD (i).toNat default)).x).toNat default)=xOf (SW t b' i.toNat) ((b'.ops).getD (i).toNat default):=fun h=>by
  unfold xOf;rw [if_pos h];exact vx _ (hok.x1 h).1 (hok.x1 h).2.1
 have ey:hY ((b'.ops).getD (i).toNat default)→((V).getD ((((b'.ops).getD (i).toNat default)).y).toNat default)=yOf (SW t b' i.toNat) ((b'.ops).getD (i).toNat default):=fun h=>by
  unfold yOf;rw [if_pos h];exact vx _ (hok.y1 h).1 (hok.y1 h).2.1
 have v0:V.set i.toNat []=V:=by
  have:=si.vl
  rw [a4,List.set_append_right _ _ (by omega),this,Nat.sub_self,show b'.ops.length-i.toNat=(b'.ops.length- (i.toNat+1))+1 by omega,List.replicate_succ,List.set_cons_zero]
 obtain⟨sn,so⟩:=J3 (o:=((b'.ops).getD (i).toNat default)) si hok.k3 (by omega) (by omega)
 have gl:=si.ld
 have gi:=si.inn
 have shx:=(si.x ((b'.ops).getD (i).toNat default)).1.sh
 have shy:=(si.y ((b'.ops).getD (i).toNat default)).1.sh
 generalize hs:SW t b' i.toNat=s at*
 generalize ho:((b'.ops).getD (i).toNat default)=o at*
 have kd:=hok.kd
 subst a1 a2 a3 a5 a6
 have L0:o.kind≠4→s.ld=if o.kind=4 then s.ld+1 else s.ld:=fun h=>by rw [if_neg h]
 have I0:o.kind≠6→s.inn=if o.kind=6 then s.inn+1 else s.inn:=fun h=>by rw [if_neg h]
 have T0:o.kind≠3→o.kind≠4→o.kind≠6→s.t=nT s o:=fun h3 h4 h6=>by unfold nT;rw [if_neg h3,if_neg (by omega)]
 have R0:o.kind≠8→s.regs=nR s o:=fun h=>by unfold nR;rw [if_neg h]
 have E0:¬evO o→s.evs=nE s o:=fun h=>by unfold nE;rw [if_neg h]
 have V0:o.kind=5∨o.kind=7∨o.kind=8→V=V.set i.toNat (nV s o):=fun h=>by
  rw [show nV s o=[] by unfold nV;rw [if_neg (by omega),if_neg (by omega),if_neg (by omega),if_neg (by omega)],v0]
 have P0:∀kd k,0≤(bJ s.t ⟨kd,k,[],[]⟩).2→f10 (kd,k,s.t,false,())=(gW (bJ s.t ⟨kd,k,[],[]⟩).2,(bJ s.t ⟨kd,k,[],[]⟩).1,false,()):=fun kd k h=>by
  rw [aqI _ _ _ _ tl,if_neg (by omega)]
 have y0:¬hY o→yOf s o=[]:=fun h=>by unfold yOf;rw [if_neg h]
 have x0:¬hX o→xOf s o=[]:=fun h=>by unfold xOf;rw [if_neg h]
 rcases(by omega:o.kind=1∨o.kind=2∨o.kind=3∨o.kind=4∨o.kind=5∨o.kind=6∨o.kind=7∨o.kind=8)with c | c | c | c | c | c | c | c
 ·have dX:decide (hX o)=false:=decide_eq_false (by unfold hX;omega)
  have dY:decide (hY o)=false:=decide_eq_false (by unfold hY;omega)
  have dE:decide (evO o)=false:=decide_eq_false (by unfold evO;omega)
  have N:At t b' (i.toNat+1) s.ld s.inn s.t (V.set i.toNat (aW o.k)) s.evs s.regs:=nxt (L0 (by omega)) (I0 (by omega)) (T0 (by omega) (by omega) (by omega)) (by unfold nV;rw [if_pos c]) (E0 (by unfold evO;omega)) (R0 (by omega))
  simp (disch:=omega) only [RR,RB,ho,h7,hp4,hf4,hp3,hf3,dX,dY,dE,c,Int.reduceEq,List.length_cons,List.length_nil,hp5,hf5]
  repeat' apply And.intro
  all_goals first | omega | (rw [ei];exact N)
 ·have dX:decide (hX o)=false:=decide_eq_false (by unfold hX;omega)
  have dY:decide (hY o)=false:=decide_eq_false (by unfold hY;omega)
  have dE:decide (evO o)=false:=decide_eq_false (by unfold evO;omega)
  have k2:=hok.k2 (Or.inl c)
  have N:At t b' (i.toNat+1) s.ld s.inn s.t (V.set i.toNat ((s.regs).getD (o.k).toNat default)) s.evs s.regs:=nxt (L0 (by omega)) (I0 (by omega)) (T0 (by omega) (by omega) (by omega)) (by unfold nV;rw [if_neg (by omega),if_pos c]) (E0 (by unfold evO;omega)) (R0 (by omega))
  simp (disch:=omega) only [RR,RB,ho,h7,hp4,hf4,hp3,hf3,dX,dY,dE,c,Int.reduceEq,List.length_cons,List.length_nil,r4]
  repeat' apply And.intro
  all_goals first | omega | (rw [ei];exact N)
 ·have dX:decide (hX o)=true:=decide_eq_true (by unfold hX;omega)
  have dY:decide (hY o)=true:=decide_eq_true (by unfold hY;omega)
  have dE:decide (evO o)=false:=decide_eq_false (by unfold evO;omega)
  have v1:=hok.x1 (by unfold hX;omega)
  have v2:=hok.y1 (by unfold hY;omega)
  have u1:=v1.2.1
  have u2:=v2.2.1
  have w1:=v1.1
  have w2:=v2.1
  obtain⟨d1,d2,d3⟩:=hf9 s.t o.k _ _ tl shx shy
  have d4:=(so.d c).ok
  have N:At t b' (i.toNat+1) s.ld s.inn (tDo s.t o.k (xOf s o) (yOf s o)).1 (V.set i.toNat (tDo s.t o.k (xOf s o) (yOf s o)).2) s.evs s.regs:=nxt (L0 (by omega)) (I0 (by omega)) (by unfold nT;rw [if_pos c]) (by unfold nV;rw [if_neg (by omega),if_neg (by omega),if_pos c]) (E0 (by unfold evO;omega)) (R0 (by omega))
  simp (disch:=omega) only [RR,RB,ho,h7,hp4,hf4,hp3,hf3,dX,dY,dE,c,Int.reduceEq,List.length_cons,List.length_nil,ex (by unfold hX;omega),ey (by unfold hY;omega),hp9 s.t o.k _ _ tl shx shy,d1,d2,d3,d4]
  repeat' apply And.intro
  all_goals first | omega | (rw [ei];exact N)
 ·have dX:decide (hX o)=true:=decide_eq_true (by unfold hX;omega)
  have dY:decide (hY o)=false:=decide_eq_false (by unfold hY;omega)
  have dE:decide (evO o)=true:=decide_eq_true (by unfold evO;omega)
  have v1:=hok.x1 (by unfold hX;omega)
  have u1:=v1.2.1
  have w1:=v1.1
  have ea:aOf s o=⟨2,s.ld,[],[]⟩:=by unfold aOf;rw [if_pos c]
  have pp:=so.p (Or.inl c)
  rw [ea]at pp
  have N:At t b' (i.toNat+1) (s.ld+1) s.inn (bJ s.t ⟨2,s.ld,[],[]⟩).1 (V.set i.toNat (gW (bJ s.t ⟨2,s.ld,[],[]⟩).2)) (s.evs++ [⟨4,o.at_,xOf s o,[],s.regs⟩]) s.regs:=nxt (by rw [if_pos c]) (I0 (by omega)) (by unfold nT;rw [if_neg (by omega),if_pos (Or.inl c),ea]) (by unfold nV;rw [if_neg (by omega),if_neg (by omega),if_neg (by omega),if_pos (Or.inl c),ea]) (by unfold nE;rw [if_pos (by unfold evO;omega),if_pos (Or.inl c),c,y0 (by unfold hY;omega)]) (R0 (by omega))
  simp (disch:=omega) only [RR,RB,ho,h7,hp4,hf4,hp3,hf3,dX,dY,dE,c,Int.reduceEq,List.length_cons,List.length_nil,ex (by unfold hX;omega),anO s.regs (by omega) (by omega),anP s.regs (by omega) (by omega),anN 2 s.ld s.t false tl,P0 2 s.ld pp]
  repeat' apply And.intro
  all_goals first | omega | (rw [ei];exact N)
 ·have dX:decide (hX o)=true:=decide_eq_true (by unfold hX;omega)
  have dY:decide (hY o)=true:=decide_eq_true (by unfold hY;omega)
  have dE:decide (evO o)=true:=decide_eq_true (by unfold evO;omega)
  have v1:=hok.x1 (by unfold hX;omega)
  have v2:=hok.y1 (by unfold hY;omega)
  have u1:=v1.2.1
  have u2:=v2.2.1
  have w1:=v1.1
  have w2:=v2.1
  have N:At t b' (i.toNat+1) s.ld s.inn s.t V (s.evs++ [⟨5,o.at_,xOf s o,yOf s o,s.regs⟩]) s.regs:=nxt (L0 (by omega)) (I0 (by omega)) (T0 (by omega) (by omega) (by omega)) (V0 (by omega)) (by unfold nE;rw [if_pos (by unfold evO;omega),if_pos (Or.inr c),c]) (R0 (by omega))
  simp (disch:=omega) only [RR,RB,ho,h7,hp4,hf4,hp3,hf3,dX,dY,dE,c,Int.reduceEq,List.length_cons,List.length_nil,ex (by unfold hX;omega),ey (by unfold hY;omega),anO s.regs (by omega) (by omega),anP s.regs (by omega) (by omega)]
  repeat' apply And.intro
  all_goals first | omega | (rw [ei];exact N)
 ·have dX:decide (hX o)=false:=decide_eq_false (by unfold hX;omega)
  have dY:decide (hY o)=false:=decide_eq_false (by unfold hY;omega)
  have dE:decide (evO o)=true:=decide_eq_true (by unfold evO;omega)
  have ea:aOf s o=⟨3,s.inn,[],[]⟩:=by unfold aOf;rw [if_neg (by omega)]
  have pp:=so.p (Or.inr c)
  rw [ea]at pp
  have N:At t b' (i.toNat+1) s.ld (s.inn+1) (bJ s.t ⟨3,s.inn,[],[]⟩).1 (V.set i.toNat (gW (bJ s.t ⟨3,s.inn,[],[]⟩).2)) (s.evs++ [⟨6,o.at_,[],[],[]⟩]) s.regs:=nxt (L0 (by omega)) (by rw [if_pos c]) (by unfold nT;rw [if_neg (by omega),if_pos (Or.inr c),ea]) (by unfold nV;rw [if_neg (by omega),if_neg (by omega),if_neg (by omega),if_pos (Or.inr c),ea]) (by unfold nE;rw [if_pos (by unfold evO;omega),if_neg (by omega),c,x0 (by unfold hX;omega),y0 (by unfold hY;omega)]) (R0 (by omega))
  simp (disch:=omega) only [RR,RB,ho,h7,hp4,hf4,hp3,hf3,dX,dY,dE,c,Int.reduceEq,List.length_cons,List.length_nil,anN 3 s.inn s.t false tl,P0 3 s.inn pp]
  repeat' apply And.intro
  all_goals first | omega | (rw [ei];exact N)
 ·have dX:decide (hX o)=true:=decide_eq_true (by unfold hX;omega)
  have dY:decide (hY o)=false:=decide_eq_false (by unfold hY;omega)
  have dE:decide (evO o)=true:=decide_eq_true (by unfold evO;omega)
  have v1:=hok.x1 (by unfold hX;omega)
  have u1:=v1.2.1
  have w1:=v1.1
  have N:At t b' (i.toNat+1) s.ld s.inn s.t V (s.evs++ [⟨7,o.at_,xOf s o,[],[]⟩]) s.regs:=nxt (L0 (by omega)) (I0 (by omega)) (T0 (by omega) (by omega) (by omega)) (V0 (by omega)) (by unfold nE;rw [if_pos (by unfold evO;omega),if_neg (by omega),c,y0 (by unfold hY;omega)]) (R0 (by omega))
  simp (disch:=omega) only [RR,RB,ho,h7,hp4,hf4,hp3,hf3,dX,dY,dE,c,Int.reduceEq,List.length_cons,List.length_nil,ex (by unfold hX;omega)]
  repeat' apply And.intro
  all_goals first | omega | (rw [ei];exact N)
 ·have dX:decide (hX o)=true:=decide_eq_true (by unfold hX;omega)
  have dY:decide (hY o)=false:=decide_eq_false (by unfold hY;omega)
  have dE:decide (evO o)=false:=decide_eq_false (by unfold evO;omega)
  have v1:=hok.x1 (by unfold hX;omega)
  have u1:=v1.2.1
  have w1:=v1.1
  have k2:=hok.k2 (Or.inr c)
  have N:At t b' (i.toNat+1) s.ld s.inn s.t V s.evs (s.regs.set o.k.toNat (xOf s o)):=nxt (L0 (by omega)) (I0 (by omega)) (T0 (by omega) (by omega) (by omega)) (V0 (by omega)) (E0 (by unfold evO;omega)) (by unfold nR;rw [if_pos c])
  simp (disch:=omega) only [RR,RB,ho,h7,hp4,hf4,hp3,hf3,dX,dY,dE,c,Int.reduceEq,List.length_cons,List.length_nil,ex (by unfold hX;omega),r4]
  repeat' apply And.intro
  all_goals first | omega | (rw [ei];exact N)
end Go.TX.F
namespace Go.TX.F
open Go Go.AE Go.TX
theorem ag2 (i:Ins):Qj (std 0) (i,()) (fun _=>True):=by
 dsimp only [Qj,Alg.cl,Alg.cg,Alg.rb,Alg.bd,Alg.l1,Tup.q,Tup.o]
 simp (disch:=omega) only [RR]
theorem ag3 {p1:Int×Int×Int×Unit→Bool} {f1:Int×Int×Int×Unit→Bool×Unit} (hp1:∀a b c,p1 (a,b,c,())=true) (hf1:∀a b c,f1 (a,b,c,())=(inB a b c,())) {p2:Ins×Unit→Bool} {f2:Ins×Unit→Bool×Unit} (hp2:∀i,p2 (i,())=true) (i:Ins):Qk (std 0) p1 f1 p2 f2 (i,()) (fun _=>True):=by
 dsimp only [Qk,Alg.cl,Alg.cg,Alg.rb,Alg.bd,Alg.l1,Tup.q,Tup.o]
 simp (disch:=omega) only [RR,hp1,hp2]
theorem ag4 (i:Int):Ql (std 0) (i,()) (fun _=>True):=by
 dsimp only [Ql,Alg.cl,Alg.cg,Alg.rb,Alg.bd,Alg.l1,Tup.q,Tup.o]
theorem ag5 {p1:Int×Unit→Bool} {f1:Int×Unit→Bool×Unit} (hp1:∀i,p1 (i,())=true) {p2:Ins×Unit→Bool} {f2:Ins×Unit→Bool×Unit} (hp2:∀i,p2 (i,())=true) (i:Ins):Qm (std 0) p1 f1 p2 f2 (i,()) (fun _=>True):=by
 dsimp only [Qm,Alg.cl,Alg.cg,Alg.rb,Alg.bd,Alg.l1,Tup.q,Tup.o]
 simp (disch:=omega) only [RR,hp1,hp2]
theorem ag6 {p1:Int×Unit→Bool} {f1:Int×Unit→Bool×Unit} (hp1:∀i,p1 (i,())=true) {p2:Ins×Unit→Bool} {f2:Ins×Unit→Bool×Unit} (hp2:∀i,p2 (i,())=true) {p3:Int×Int×Int×Unit→Bool} {f3:Int×Int×Int×Unit→Bool×Unit} (hp3:∀a b c,p3 (a,b,c,())=true) (hf3:∀a b c,f3 (a,b,c,())=(inB a b c,())) {p4:Ins×Unit→Bool} {f4:Ins×Unit→Bool×Unit} (hp4:∀i,p4 (i,())=true) (pc:Int) (l:List Ins) (hl:(l.length:Int)<1000):Qv (std 0) p1 f1 p2 f2 p3 f3 p4 f4 (pc,l,()) (fun _=>True):=by
 dsimp only [Qv,Alg.cl,Alg.cg,Alg.rb,Alg.bd,Alg.l1,Tup.q,Tup.o]
 simp (disch:=omega) only [RR,hp1,hp2,hp3,hp4]
 refine fun _=> ?_
 refine ay (fun(y:List Ins×Int×Unit)=>y.1=l∧0≤y.2.1) (fun y=>((l.length:Int)-y.2.1).toNat) ⟨rfl,by simp⟩ ?_
 rintro⟨(l':List Ins),(j:Int),⟨⟩⟩ hI
 dsimp only at hI ⊢
 obtain⟨rfl,h1⟩:=hI
 simp (disch:=omega) only [RR,hp1,hp2,hp3,hp4,or_true]
 refine fun h=>⟨h1,h,by omega,by omega,by omega,by omega,fun _=> ?_⟩
 rw [w64 (by omega) (by omega)];constructor<;>omega
theorem Zf (a1 a2 a3 a4 a5 a6:Int) (o:IOp) (ops:List IOp) (hl:(ops.length:Int)<1000000):Qw (std 0) (a1,a2,a3,a4,a5,a6,o,ops,()) (fun y=>(y.2.2.2.2.2.2.2.1.length:Int)=ops.length+1):=by
 dsimp only [Qw,Alg.cl,Alg.cg,Alg.rb,Alg.bd,Alg.l1,Tup.q,Tup.o]
 simp (disch:=omega) only [RR,List.length_append,List.length_cons,List.length_nil]
 omega
theorem Zg {p1:Int×Int×Int×Int×Int×Int×IOp×List IOp×Unit→Bool} {f1:Int×Int×Int×Int×Int×Int×IOp×List IOp×Unit→Int×Int×Int×Int×Int×Int×Int×List IOp×Unit} (hp1:∀a1 a2 a3 a4 a5 a6 o ops,(ops.length:Int)<1000000→p1 (a1,a2,a3,a4,a5,a6,o,ops,())=true) (hf1:∀a1 a2 a3 a4 a5 a6 o ops,(ops.length:Int)<1000000→((f1 (a1,a2,a3,a4,a5,a6,o,ops,())).2.2.2.2.2.2.2.1.length:Int)=ops.length+1) (a1 a2 a3 a4 a5 a6:Int) (k:Int) (ops:List IOp) (hl:(ops.length:Int)<1000000):Qy (std 0) p1 f1 (a1,a2,a3,a4,a5,a6,k,ops,()) (fun y=>(y.2.2.2.2.2.2.2.1.length:Int)=ops.length+1):=by
 dsimp only [Qy,Alg.cl,Alg.cg,Alg.rb,Alg.bd,Alg.l1,Tup.q,Tup.o]
 simp (disch:=omega) only [RR,hp1,hf1]
theorem Zh {p1:Int×Int×Int×Int×Int×Int×IOp×List IOp×Unit→Bool} {f1:Int×Int×Int×Int×Int×Int×IOp×List IOp×Unit→Int×Int×Int×Int×Int×Int×Int×List IOp×Unit} (hp1:∀a1 a2 a3 a4 a5 a6 o ops,(ops.length:Int)<1000000→p1 (a1,a2,a3,a4,a5,a6,o,ops,())=true) (hf1:∀a1 a2 a3 a4 a5 a6 o ops,(ops.length:Int)<1000000→((f1 (a1,a2,a3,a4,a5,a6,o,ops,())).2.2.2.2.2.2.2.1.length:Int)=ops.length+1) (a1 a2 a3 a4 a5 a6:Int) (k x:Int) (ops:List IOp) (hl:(ops.length:Int)<1000000):Qx (std 0) p1 f1 (a1,a2,a3,a4,a5,a6,k,x,ops,()) (fun y=>(y.2.2.2.2.2.2.1.length:Int)=ops.length+1):=by
 dsimp only [Qx,Alg.cl,Alg.cg,Alg.rb,Alg.bd,Alg.l1,Tup.q,Tup.o]
 simp (disch:=omega) only [RR,hp1,hf1]
theorem ag7 {p1:Int×Int×Int×Int×Int×Int×Int×List IOp×Unit→Bool} {f1:Int×Int×Int×Int×Int×Int×Int×List IOp×Unit→Int×Int×Int×Int×Int×Int×Int×List IOp×Unit} (hp1:∀a1 a2 a3 a4 a5 a6 k ops,(ops.length:Int)<1000000→p1 (a1,a2,a3,a4,a5,a6,k,ops,())=true) (hf1:∀a1 a2 a3 a4 a5 a6 k ops,(ops.length:Int)<1000000→((f1 (a1,a2,a3,a4,a5,a6,k,ops,())).2.2.2.2.2.2.2.1.length:Int)=ops.length+1) {p2:Int×Int×Int×Int×Int×Int×IOp×List IOp×Unit→Bool} {f2:Int×Int×Int×Int×Int×Int×IOp×List IOp×Unit→Int×Int×Int×Int×Int×Int×Int×List IOp×Unit} (hp2:∀a1 a2 a3 a4 a5 a6 o ops,(ops.length:Int)<1000000→p2 (a1,a2,a3,a4,a5,a6,o,ops,())=true) (hf2:∀a1 a2 a3 a4 a5 a6 o ops,(ops.length:Int)<1000000→((f2 (a1,a2,a3,a4,a5,a6,o,ops,())).2.2.2.2.2.2.2.1.length:Int)=ops.length+1) (a1 a2 a3 a4 a5 a6:Int) (k a:Int) (o:IOp) (ops:List IOp) (hl:(ops.length:Int)<999000):Qz (std 0) p1 f1 p2 f2 (a1,a2,a3,a4,a5,a6,k,a,o,ops,()) (fun y=>(y.2.2.2.2.2.2.2.1.length:Int)=ops.length+3):=by
 dsimp only [Qz,Alg.cl,Alg.cg,Alg.rb,Alg.bd,Alg.l1,Tup.q,Tup.o]
 simp (disch:=(first | omega | (simp (disch:=(first | omega | (simp (disch:=(first | omega | (simp (disch:=omega) only [hf1,hf2];omega))) only [hf1,hf2];omega))) only [hf1,hf2];omega))) only [RR,hp1,hp2,hf1,hf2]
 omega
theorem ag8 {p1:Int×Int×Int×Int×Int×Int×Int×List IOp×Unit→Bool} {f1:Int×Int×Int×Int×Int×Int×Int×List IOp×Unit→Int×Int×Int×Int×Int×Int×Int×List IOp×Unit} (hp1:∀a1 a2 a3 a4 a5 a6 k ops,(ops.length:Int)<1000000→p1 (a1,a2,a3,a4,a5,a6,k,ops,())=true) (hf1:∀a1 a2 a3 a4 a5 a6 k ops,(ops.length:Int)<1000000→((f1 (a1,a2,a3,a4,a5,a6,k,ops,())).2.2.2.2.2.2.2.1.length:Int)=ops.length+1) {p2:Int×Int×Int×Int×Int×Int×IOp×List IOp×Unit→Bool} {f2:Int×Int×Int×Int×Int×Int×IOp×List IOp×Unit→Int×Int×Int×Int×Int×Int×Int×List IOp×Unit} (hp2:∀a1 a2 a3 a4 a5 a6 o ops,(ops.length:Int)<1000000→p2 (a1,a2,a3,a4,a5,a6,o,ops,())=true) (hf2:∀a1 a2 a3 a4 a5 a6 o ops,(ops.length:Int)<1000000→((f2 (a1,a2,a3,a4,a5,a6,o,ops,())).2.2.2.2.2.2.2.1.length:Int)=ops.length+1) {p3:Int×Int×Int×Int×Int×Int×Int×Int×IOp×List IOp×Unit→Bool} {f3:Int×Int×Int×Int×Int×Int×Int×Int×IOp×List IOp×Unit→Int×Int×Int×Int×Int×Int×Int×List IOp×Unit} (hp3:∀a1 a2 a3 a4 a5 a6 k a o ops,(ops.length:Int)<999000→p3 (a1,a2,a3,a4,a5,a6,k,a,o,ops,())=true) (hf3:∀a1 a2 a3 a4 a5 a6 k a o ops,(ops.length:Int)<999000→((f3 (a1,a2,a3,a4,a5,a6,k,a,o,ops,())).2.2.2.2.2.2.2.1.length:Int)=ops.length+3) {p4:Int×Int×Int×Int×Int×Int×Int×Int×List IOp×Unit→Bool} {f4:Int×Int×Int×Int×Int×Int×Int×Int×List IOp×Unit→Int×Int×Int×Int×Int×Int×List IOp×Unit} (hp4:∀a1 a2 a3 a4 a5 a6 k x ops,(ops.length:Int)<1000000→p4 (a1,a2,a3,a4,a5,a6,k,x,ops,())=true) (hf4:∀a1 a2 a3 a4 a5 a6 k x ops,(ops.length:Int)<1000000→((f4 (a1,a2,a3,a4,a5,a6,k,x,ops,())).2.2.2.2.2.2.1.length:Int)=ops.length+1) (a1 a2 a3 a4 a5 a6:Int) (i:Ins) (k:Int) (ops:List IOp) (hl:(ops.length:Int)<998000):QB (std 0) p1 f1 p2 f2 p3 f3 p4 f4 (a1,a2,a3,a4,a5,a6,i,k,ops,()) (fun y=>(y.2.2.2.2.2.2.1.length:Int)=ops.length+5):=by
 dsimp only [QB,Alg.cl,Alg.cg,Alg.rb,Alg.bd,Alg.l1,Tup.q,Tup.o]
 simp (disch:=(first | omega | (simp (disch:=(first | omega | (simp (disch:=(first | omega | (simp (disch:=omega) only [hf1,hf2,hf3,hf4];omega))) only [hf1,hf2,hf3,hf4];omega))) only [hf1,hf2,hf3,hf4];omega))) only [RR,hp1,hp2,hp3,hp4,hf1,hf2,hf3,hf4]
 constructor<;>intro _<;>omega
theorem Zi {p1:Int×Int×Int×Int×Int×Int×Int×List IOp×Unit→Bool} {f1:Int×Int×Int×Int×Int×Int×Int×List IOp×Unit→Int×Int×Int×Int×Int×Int×Int×List IOp×Unit} (hp1:∀a1 a2 a3 a4 a5 a6 k ops,(ops.length:Int)<1000000→p1 (a1,a2,a3,a4,a5,a6,k,ops,())=true) (hf1:∀a1 a2 a3 a4 a5 a6 k ops,(ops.length:Int)<1000000→((f1 (a1,a2,a3,a4,a5,a6,k,ops,())).2.2.2.2.2.2.2.1.length:Int)=ops.length+1) (a1 a2 a3 a4 a5 a6:Int) (i:Ins) (ops:List IOp) (hl:(ops.length:Int)<999000):QC (std 0) p1 f1 (a1,a2,a3,a4,a5,a6,i,ops,()) (fun y=>(y.2.2.2.2.2.2.1.length:Int)≤ops.length+5):=by
 dsimp only [QC,Alg.cl,Alg.cg,Alg.rb,Alg.bd,Alg.l1,Tup.q,Tup.o]
 simp (disch:=(first | omega | (simp (disch:=(first | omega | (simp (disch:=(first | omega | (simp (disch:=omega) only [hf1];omega))) only [hf1];omega))) only [hf1];omega))) only [RR,hp1,hf1]
 refine⟨fun _=>by omega,fun _=>⟨fun _=>by omega,fun _=>by omega⟩⟩
theorem ag9 (k:Int) (hk:k<1000):QA (std 0) (k,()) (fun _=>True):=by
 dsimp only [QA,Alg.cl,Alg.cg,Alg.rb,Alg.bd,Alg.l1,Tup.q,Tup.o]
 simp (disch:=omega) only [RR]
 refine ay (fun(y:Int×Int×Int×Unit)=>y.1=k∧0≤y.2.2.1) (fun y=>(k-y.2.2.1).toNat) ⟨rfl,by simp⟩ ?_
 rintro⟨(k':Int),(z:Int),(j:Int),⟨⟩⟩ hI
 dsimp only at hI ⊢
 obtain⟨rfl,h1⟩:=hI
 simp (disch:=omega) only [RR]
 refine fun h=> ?_
 rw [w64 (by omega) (by omega)];constructor<;>omega
theorem aha {p1:Int×Int×Int×Int×Int×Int×Int×List IOp×Unit→Bool} {f1:Int×Int×Int×Int×Int×Int×Int×List IOp×Unit→Int×Int×Int×Int×Int×Int×Int×List IOp×Unit} (hp1:∀a1 a2 a3 a4 a5 a6 k ops,(ops.length:Int)<1000000→p1 (a1,a2,a3,a4,a5,a6,k,ops,())=true) (hf1:∀a1 a2 a3 a4 a5 a6 k ops,(ops.length:Int)<1000000→((f1 (a1,a2,a3,a4,a5,a6,k,ops,())).2.2.2.2.2.2.2.1.length:Int)=ops.length+1) {p2:Int×Int×Int×Int×Int×Int×Ins×List IOp×Unit→Bool} {f2:Int×Int×Int×Int×Int×Int×Ins×List IOp×Unit→Int×Int×Int×Int×Int×Int×List IOp×Unit} (hp2:∀a1 a2 a3 a4 a5 a6 i ops,(ops.length:Int)<999000→p2 (a1,a2,a3,a4,a5,a6,i,ops,())=true) (hf2:∀a1 a2 a3 a4 a5 a6 i ops,(ops.length:Int)<999000→((f2 (a1,a2,a3,a4,a5,a6,i,ops,())).2.2.2.2.2.2.1.length:Int)≤ops.length+5) {p3:Int×Int×Int×Int×Int×Int×IOp×List IOp×Unit→Bool} {f3:Int×Int×Int×Int×Int×Int×IOp×List IOp×Unit→Int×Int×Int×Int×Int×Int×Int×List IOp×Unit} (hp3:∀a1 a2 a3 a4 a5 a6 o ops,(ops.length:Int)<1000000→p3 (a1,a2,a3,a4,a5,a6,o,ops,())=true) (hf3:∀a1 a2 a3 a4 a5 a6 o ops,(ops.length:Int)<1000000→((f3 (a1,a2,a3,a4,a5,a6,o,ops,())).2.2.2.2.2.2.2.1.length:Int)=ops.length+1) {p4:Int×Int×Int×Int×Int×Int×Ins×Int×List IOp×Unit→Bool} {f4:Int×Int×Int×Int×Int×Int×Ins×Int×List IOp×Unit→Int×Int×Int×Int×Int×Int×List IOp×Unit} (hp4:∀a1 a2 a3 a4 a5 a6 i k ops,(ops.length:Int)<998000→p4 (a1,a2,a3,a4,a5,a6,i,k,ops,())=true) (hf4:∀a1 a2 a3 a4 a5 a6 i k ops,(ops.length:Int)<998000→((f4 (a1,a2,a3,a4,a5,a6,i,k,ops,())).2.2.2.2.2.2.1.length:Int)=ops.length+5) {p5:Int×Int×Int×Int×Int×Int×Int×Int×IOp×List IOp×Unit→Bool} {f5:Int×Int×Int×Int×Int×Int×Int×Int×IOp×List IOp×Unit→Int×Int×Int×Int×Int×Int×Int×List IOp×Unit} (hp5:∀a1 a2 a3 a4 a5 a6 k a o ops,(ops.length:Int)<999000→p5 (a1,a2,a3,a4,a5,a6,k,a,o,ops,())=true) (hf5:∀a1 a2 a3 a4 a5 a6 k a o ops,(ops.length:Int)<999000→((f5 (a1,a2,a3,a4,a5,a6,k,a,o,ops,())).2.2.2.2.2.2.2.1.length:Int)=ops.length+3) {p6:Int×Int×Int×Int×Int×Int×Int×Int×List IOp×Unit→Bool} {f6:Int×Int×Int×Int×Int×Int×Int×Int×List IOp×Unit→Int×Int×Int×Int×Int×Int×List IOp×Unit} (hp6:∀a1 a2 a3 a4 a5 a6 k x ops,(ops.length:Int)<1000000→p6 (a1,a2,a3,a4,a5,a6,k,x,ops,())=true) (hf6:∀a1 a2 a3 a4 a5 a6 k x ops,(ops.length:Int)<1000000→((f6 (a1,a2,a3,a4,a5,a6,k,x,ops,())).2.2.2.2.2.2.1.length:Int)=ops.length+1) {p7:Int×Unit→Bool} {f7:Int×Unit→Int×Unit} (hp7:∀k,k<1000→p7 (k,())=true) (a1 a2 a3 a4 a5 a6:Int) (i:Ins) (k:Int) (ops:List IOp) (hk:i.k<1000) (hl:(ops.length:Int)<997000):QD (std 0) p1 f1 p2 f2 p3 f3 p4 f4 p5 f5 p6 f6 p7 f7 (a1,a2,a3,a4,a5,a6,i,k,ops,()) (fun y=>(y.2.2.2.2.2.2.1.length:Int)≤ops.length+5):=by
 have e4:=fun i k=>hf4 a1 a2 a3 a4 a5 a6 i k ops (by omega)
 have e2:=fun i=>hf2 a1 a2 a3 a4 a5 a6 i ops (by omega)
 dsimp only [QD,Alg.cl,Alg.cg,Alg.rb,Alg.bd,Alg.l1,Tup.q,Tup.o]
 simp (disch:=(first | omega | (simp (disch:=(first | omega | (simp (disch:=(first | omega | (simp (disch:=omega) only [hf1,hf3,hf5,RB];omega))) only [hf1,hf3,hf5,RB];omega))) only [hf1,hf3,hf5,RB];omega))) only [RR,RB,hp1,hp2,hp3,hp4,hp5,hp6,hp7,hf1,hf3,hf4,hf5,hf6]
 have:=e2 i
 repeat' (first | (refine⟨?_,?_⟩) | intro _)
 all_goals omega
def KB (l:List Ins):Prop:=∀i∈l,i.k<1000
theorem KB.at {l:List Ins} (h:KB l) (n:Nat):(l.getD n default).k<1000:=by
 by_cases h1:n<l.length
 ·rw [getD_lt h1];exact h _ (List.getElem_mem _)
 ·simp only [List.getD,List.getElem?_eq_none (by omega:l.length≤n)];decide
theorem ahb {p1:Int×List Ins×Unit→Bool} {f1:Int×List Ins×Unit→Bool×Unit} (hp1:∀pc l,(l.length:Int)<1000→p1 (pc,l,())=true) {p2:Int×Int×Int×Int×Int×Int×Ins×Int×List IOp×Unit→Bool} {f2:Int×Int×Int×Int×Int×Int×Ins×Int×List IOp×Unit→Int×Int×Int×Int×Int×Int×List IOp×Unit} (hp2:∀a1 a2 a3 a4 a5 a6 i k ops,i.k<1000→(ops.length:Int)<997000→p2 (a1,a2,a3,a4,a5,a6,i,k,ops,())=true) (hf2:∀a1 a2 a3 a4 a5 a6 i k ops,i.k<1000→(ops.length:Int)<997000→((f2 (a1,a2,a3,a4,a5,a6,i,k,ops,())).2.2.2.2.2.2.1.length:Int)≤ops.length+5) (pc:Int) (l:List Ins) (hl:(l.length:Int)<1000) (hk:KB l):QE (std 0) p1 f1 p2 f2 (pc,l,()) (fun y=>(y.2.2.2.2.2.2.1.length:Int)≤5000):=by
 dsimp only [QE,Alg.cl,Alg.cg,Alg.rb,Alg.bd,Alg.l1,Tup.q,Tup.o]
 simp (disch:=omega) only [RR,hp1,List.length_nil]
 refine⟨fun _=>by omega,fun _=> ?_⟩
 refine ay (fun(y:List Ins×Int×Int×Int×Int×Int×Int×Int×Int×Int×Int×Int×Int×Int×List IOp×Unit)=>y.1=l∧0≤y.2.1∧y.2.1≤l.length∧(y.2.2.2.2.2.2.2.2.2.2.2.2.2.2.1.length:Int)≤5*y.2.1) (fun y=>((l.length:Int)-y.2.1).toNat) ⟨rfl,by simp,by simp,by simp⟩ ?_
 rintro⟨(l':List Ins),(j:Int),u1,u2,u3,u4,u5,u6,b1,b2,b3,b4,b5,b6,(ops:List IOp),⟨⟩⟩ hI
 dsimp only at hI ⊢
 obtain⟨rfl,h1,h2,h3⟩:=hI
 have hk':=hk.at j.toNat
 simp (disch:=omega) only [RR,hp2]
 refine⟨fun h=> ?_,fun h=>by omega⟩
 have:=hf2 b1 b2 b3 b4 b5 b6 ((l').getD (j).toNat default) j ops hk' (by omega)
 exact⟨h1,h,⟨by omega,by omega,by omega⟩,by omega⟩
end Go.TX.F
namespace Go.TX.F
open Go Go.AE Go.TX
structure InD (m:Int) (b:List Int) (p:Int) (y:Int×Int×Int×Int×List Int×Int×Unit):Prop where
 b:y.2.2.2.2.1=b
 lo:p≤y.2.2.2.2.2.1
 hi:y.2.2.2.2.2.1≤p+m
 k:0≤y.2.2.2.1∧y.2.2.2.1≤255
@[reducible] def ahc : List Int → Prop
 | []=>True
 | x::l=>(0≤x∧x≤255)∧ahc l
theorem Ob:∀(l:List Int) (n:Nat),ahc l→0≤l.getD n default∧l.getD n default≤255
 | [],n,_=>by simp only [List.getD_nil];decide
 | x::l,0,h=>h.1
 | x::l,n+1,h=>Ob l n h.2
theorem pkR {f1:Int×List Int×Int×Unit→Int×List Int×Int×Unit} {b:List Int} (hb:Bt b) (hf1:∀n b p,Bt b→0≤p→p<1000000000→Pk n b p (f1 (n,b,p,()))):
  (∀n p,0≤p→p<1000000000→(f1 (n,b,p,())).2.1=b)∧(∀n p,0≤p→p<1000000000→(f1 (n,b,p,())).2.2.1=p+1)∧
  (∀n p,0≤p→p<1000000000→(0≤(f1 (n,b,p,())).1)=True)∧(∀n p k,0≤p→p<1000000000→n≤k→0<k→((f1 (n,b,p,())).1<k)=True)∧
  (∀n p k,0≤p→p<1000000000→n≤k+1→0≤k→((f1 (n,b,p,())).1≤k)=True):=
 ⟨fun n p h1 h2=>(hf1 n b p hb h1 h2).1,fun n p h1 h2=>(hf1 n b p hb h1 h2).2.1,fun n p h1 h2=>eq_true (hf1 n b p hb h1 h2).2.2.1,
  fun n p k h1 h2 h3 h4=>eq_true (by have:=(hf1 n b p hb h1 h2).2.2;omega),fun n p k h1 h2 h3 h4=>eq_true (by have:=(hf1 n b p hb h1 h2).2.2;omega)⟩
theorem ahd {p1:Int×List Int×Int×Unit→Bool} {f1:Int×List Int×Int×Unit→Int×List Int×Int×Unit} (hp1:∀n b p,Bt b→0≤p→p<1000000000→p1 (n,b,p,())=true) (hf1:∀n b p,Bt b→0≤p→p<1000000000→Pk n b p (f1 (n,b,p,()))) (b:List Int) (p:Int) (hb:Bt b) (h1:0≤p) (h2:p<900000000):Qi (std 0) p1 f1 (b,p,()) (fun y=>InD 20 b p y):=by
 have R:=pkR hb hf1
 have P:=fun n p h1 h2=>hp1 n b p hb h1 h2
 dsimp only [Qi,Alg.cl,Alg.cg,Alg.rb,Alg.bd,Alg.l1,Tup.q,Tup.o]
 simp (disch:=omega) only [RR,R,P,List.length_cons,List.length_nil]
 repeat' (first | (refine⟨?_,?_⟩) | intro _)
 all_goals try omega
 all_goals refine⟨rfl,by dsimp only;omega,by dsimp only;omega,?_⟩
 all_goals dsimp only
 all_goals first | omega | (refine Ob _ _ ?_;simp (disch:=omega) only [ahc,R,Int.reduceLE,and_self,true_and,and_true]) | (simp (disch:=omega) only [R,Int.reduceLE,and_self,true_and,and_true])
theorem ahe {p1:List Int×Int×Unit→Bool} {f1:List Int×Int×Unit→Int×Int×Int×Int×List Int×Int×Unit} (hp1:∀b p,Bt b→0≤p→p<900000000→p1 (b,p,())=true) (hf1:∀b p,Bt b→0≤p→p<900000000→InD 20 b p (f1 (b,p,()))) {p2:Int×List Int×Int×Unit→Bool} {f2:Int×List Int×Int×Unit→Int×List Int×Int×Unit} (hp2:∀n b p,Bt b→0≤p→p<1000000000→p2 (n,b,p,())=true) (hf2:∀n b p,Bt b→0≤p→p<1000000000→Pk n b p (f2 (n,b,p,()))) {p3:Ins×Unit→Bool} {f3:Ins×Unit→Bool×Unit} (hp3:∀i,p3 (i,())=true) (b:List Int) (p:Int) (hb:Bt b) (h1:0≤p) (h2:p<800000000):Qr (std 0) p1 f1 p2 f2 p3 f3 (b,p,()) (fun y=>InD 30 b p y):=by
 obtain⟨a1,a2,a3,a4⟩:=hf1 b p hb h1 (by omega)
 have R:=pkR hb hf2
 have P:=fun n p h1 h2=>hp2 n b p hb h1 h2
 dsimp only [Qr,Alg.cl,Alg.cg,Alg.rb,Alg.bd,Alg.l1,Tup.q,Tup.o]
 simp (disch:=omega) only [RR,hp1 b p hb h1 (by omega),hp3,a1,R,P]
 refine⟨fun _=>⟨rfl,by dsimp only;omega,by dsimp only;omega,?_⟩,fun _=>⟨rfl,a2,by dsimp only;omega,a4⟩⟩
 dsimp only
 simp (disch:=omega) only [R,Int.reduceLE,and_self]
structure LiD (b:List Int) (p:Int) (y:List Int×Int×List Ins×Unit):Prop where
 b:y.1=b
 lo:p≤y.2.1
 hi:y.2.1≤p+1000
 len:(y.2.2.1.length:Int)≤20
 k:KB y.2.2.1
theorem KB.app {l:List Ins} {i:Ins} (h:KB l) (h2:i.k≤255):KB (l++ [i]):=fun x hx=>by
 rw [List.mem_append,List.mem_singleton]at hx
 rcases hx with hx | rfl
 ·exact h x hx
 ·omega
theorem ahf {p1:List Int×Int×Unit→Bool} {f1:List Int×Int×Unit→Int×Int×Int×Int×List Int×Int×Unit} (hp1:∀b p,Bt b→0≤p→p<800000000→p1 (b,p,())=true) (hf1:∀b p,Bt b→0≤p→p<800000000→InD 30 b p (f1 (b,p,()))) {p2:Int×List Int×Int×Unit→Bool} {f2:Int×List Int×Int×Unit→Int×List Int×Int×Unit} (hp2:∀n b p,Bt b→0≤p→p<1000000000→p2 (n,b,p,())=true) (hf2:∀n b p,Bt b→0≤p→p<1000000000→Pk n b p (f2 (n,b,p,()))) (b:List Int) (p:Int) (hb:Bt b) (h1:0≤p) (h2:p<700000000):Qu (std 0) p1 f1 p2 f2 (b,p,()) (fun y=>LiD b p y):=by
 obtain⟨e1,e2,e3,e4⟩:=hf2 8 b p hb h1 (by omega)
 dsimp only [Qu,Alg.cl,Alg.cg,Alg.rb,Alg.bd,Alg.l1,Tup.q,Tup.o]
 simp (disch:=omega) only [RR,hp2 8 b p hb h1 (by omega),e1,e2]
 refine ay (fun(y:Int×List Int×Int×List Ins×Unit)=>0≤y.1∧y.1≤8∧y.2.1=b∧p≤y.2.2.1∧y.2.2.1+40*y.1≤p+400∧(y.2.2.2.1.length:Int)+y.1≤8∧KB y.2.2.2.1) (fun y=>y.1.toNat)
  ⟨e3,by dsimp only;omega,rfl,by dsimp only;omega,by dsimp only;omega,by dsimp only [List.length_nil];omega,fun x hx=>by cases hx⟩ ?_
 rintro⟨(k:Int),(b':List Int),(q:Int),(l:List Ins),⟨⟩⟩ hI
 dsimp only at hI ⊢
 obtain⟨k1,k2,rfl,k3,k4,k5,k6⟩:=hI
 have R:=pkR hb hf2
 have P:=fun n p h1 h2=>hp2 n b' p hb h1 h2
 obtain⟨a1,a2,a3,a4⟩:=hf1 b' q hb (by omega) (by omega)
 obtain⟨b1,b2,b3,b4⟩:=hf1 b' (q+1) hb (by omega) (by omega)
 simp (disch:=omega) only [RR,RB,hp1 b' q hb (by omega) (by omega),hp1 b' (q+1) hb (by omega) (by omega),a1,b1,R,P,List.length_cons,List.length_nil,List.length_append]
 refine⟨fun c=>⟨by omega,⟨by omega,by omega,by omega,by omega,by omega,k6.app a4.2⟩,by omega⟩,fun c=>⟨fun _=>⟨by omega,rfl,by dsimp only;omega,by dsimp only;omega,?_,?_⟩,fun _=>⟨fun _=>⟨by omega,rfl,by dsimp only;omega,by dsimp only;omega,?_,?_⟩,fun _=>⟨by omega,rfl,by dsimp only;omega,by dsimp only;omega,?_,?_⟩⟩⟩⟩
 ·dsimp only;rw [List.length_append];simp only [List.length_cons,List.length_nil];omega
 ·refine k6.app ?_
  dsimp only
  simp (disch:=omega) only [R]
 ·dsimp only;rw [List.length_append];simp only [List.length_cons,List.length_nil];omega
 ·exact k6.app (by dsimp only;omega)
 ·dsimp only;rw [List.length_append];simp only [List.length_cons,List.length_nil];omega
 ·exact k6.app b4.2
end Go.TX.F
namespace Go.TX.F
open Go Go.AE Go.TX
theorem Zj (b:Blk) (hb:b.ops.length<1000000):PK (std 0) (b,()) (fun y=>y=(b.pc,b.len,b.fin,b.x,b.y,b.k,b.ops,())):=by
 dsimp only [PK,Alg.cl,Alg.cg,Alg.rb,Alg.bd,Alg.l1,Tup.q,Tup.o]
 simp (disch:=omega) only [RR,RB,List.nil_append,List.length_nil]
 omega
def kn (ops:List IOp) (k:Int):Int×Bool:=if 0≤k∧k<ops.length∧(((ops).getD (k).toNat default)).kind=1 then((((ops).getD (k).toNat default)).k,true)else(0,false)
@[reducible] def bk7 (b : Blk) : Int × Int × Int × Int × Int × Int × List IOp × Unit := (b.pc, b.len, b.fin, b.x, b.y, b.k, b.ops, ())
structure FE (b:Blk):Prop where
 f:1≤b.fin∧b.fin≤4
 x:b.fin≠1→0≤b.x∧b.x<b.ops.length
 y:3≤b.fin→0≤b.y∧b.y<b.ops.length
 y0:b.fin≤2→b.y=0
 p:0≤b.pc∧b.pc≤100∧0≤b.len∧b.len≤100
theorem Zk (ops:List IOp) (k:Int):P7 (std 0) (ops,k,()) (fun y=>y=((kn ops k).1,(kn ops k).2,())):=by
 dsimp only [P7,Alg.cl,Alg.cg,Alg.rb,Alg.bd,Alg.l1,Tup.q,Tup.o]
 simp (disch:=omega) only [RR,RB]
 unfold kn
 refine⟨by omega,by omega,fun h=> ?_,fun h=>⟨by omega,by omega,?_⟩⟩
 ·rw [if_neg (by omega)]
 ·rw [if_pos (by omega)]
theorem Zl (b:Blk) (k:Int):Qc (std 0) (b,k,()) (fun y=>y=(b.pc,b.len,b.ops,1,0,0,k,())):=by
 dsimp only [Qc,Alg.cl,Alg.cg,Alg.rb,Alg.bd,Alg.l1,Tup.q,Tup.o]
 simp (disch:=omega) only [RR,RB]
theorem ahg {p1:Blk×Int×Unit→Bool} {f1:Blk×Int×Unit→Int×Int×List IOp×Int×Int×Int×Int×Unit} (hp1:∀b k,p1 (b,k,())=true) (hf1:∀b k,f1 (b,k,())=(b.pc,b.len,b.ops,1,0,0,k,())) {p2:List IOp×Int×Unit→Bool} {f2:List IOp×Int×Unit→Int×Bool×Unit} (hp2:∀ops k,p2 (ops,k,())=true) (hf2:∀ops k,f2 (ops,k,())=((kn ops k).1,(kn ops k).2,())) (b:Blk) (h:FE b):Qd (std 0) p1 f1 p2 f2 (b,()) (fun y=>y=(fcB b b.ops,())):=by
 have hp:=h.p
 have hf:=h.f
 have k1:b.fin≠1→kn b.ops b.x=if(((b.ops).getD (b.x).toNat default)).kind=1 then((((b.ops).getD (b.x).toNat default)).k,true)else(0,false):=fun c=>by
  have:=h.x c
  unfold kn;simp only [this,true_and]
 have k2:3≤b.fin→kn b.ops b.y=if(((b.ops).getD (b.y).toNat default)).kind=1 then((((b.ops).getD (b.y).toNat default)).k,true)else(0,false):=fun c=>by
  have:=h.y c
  unfold kn;simp only [this,true_and]
 have y0:=h.y0
 have mkE:∀p l o f x y k,Co.mk .blk (p,l,o,f,x,y,k,())=Blk.mk p l o f x y k:=fun _ _ _ _ _ _ _=>rfl
 dsimp only [Qd,Alg.cl,Alg.cg,Alg.rb,Alg.bd,Alg.l1,Tup.q,Tup.o]
 simp (disch:=omega) only [RR,RB,hp1,hf1,hp2,hf2,mkE,Bool.and_eq_false_iff]
 by_cases c1:b.fin=1
 ·have e:fcB b b.ops=b:=by unfold fcB;rw [if_neg (by omega),if_neg (by omega)]
  rw [e]
  refine⟨fun h=>absurd h.1 (by omega),fun _=>⟨fun h=>absurd h.1.1.1 (by omega),fun _=>⟨fun h=>absurd h.1.1.1 (by omega),fun _=>⟨fun h=>absurd h.1.1 (by omega),fun _=>rfl⟩⟩⟩⟩
 ·rw [k1 c1]
  by_cases c2:b.fin=2
  ·by_cases d:(((b.ops).getD (b.x).toNat default)).kind=1
   ·have e:fcB b b.ops=⟨b.pc,b.len,b.ops,1,0,0,(((b.ops).getD (b.x).toNat default)).k⟩:=by unfold fcB;rw [if_pos ⟨c2,d⟩,y0 (by omega)]
    rw [if_pos d,e]
    refine⟨fun _=>rfl,fun h=> ?_⟩
    rcases h with h | h
    ·exact absurd c2 h
    ·cases h
   ·have e:fcB b b.ops=b:=by unfold fcB;rw [if_neg (fun g=>d g.2),if_neg (by omega)]
    rw [if_neg d,e]
    refine⟨fun h=>absurd h.2 (by decide),fun _=>⟨fun h=>absurd h.1.1.1 (by omega),fun _=>⟨fun h=>absurd h.1.1.1 (by omega),fun _=>⟨fun h=>absurd h.1.1 (by omega),fun _=>rfl⟩⟩⟩⟩
  ·rw [k2 (by omega)]
   refine⟨fun h=>absurd h.1 c2,fun _=> ?_⟩
   by_cases d:(((b.ops).getD (b.x).toNat default)).kind=1∧(((b.ops).getD (b.y).toNat default)).kind=1
   ·have e:fcB b b.ops=⟨b.pc,b.len,b.ops,1,0,0,if b.fin=3∧(((b.ops).getD (b.x).toNat default)).k=(((b.ops).getD (b.y).toNat default)).k∨b.fin=4∧(((b.ops).getD (b.x).toNat default)).k< (((b.ops).getD (b.y).toNat default)).k then b.k else b.pc+b.len⟩:=by
     unfold fcB;rw [if_neg (by omega),if_pos ⟨by omega,d⟩]
    rw [if_pos d.1,if_pos d.2,e]
    dsimp only
    simp only [and_true,Bool.true_eq_false,or_false,Prod.mk.injEq,Blk.mk.injEq,true_and]
    refine⟨fun h=>⟨fun _=>by rw [if_pos (Or.inl h)],fun g=>by omega⟩,fun h=>⟨fun g=>by rw [if_pos (Or.inr g)],fun g=>⟨fun _=>by rw [if_neg (by omega)],fun q=>by omega⟩⟩⟩
   ·have e:fcB b b.ops=b:=by unfold fcB;rw [if_neg (by omega),if_neg (fun g=>d g.2)]
    rw [e]
    have n:¬((if(((b.ops).getD (b.x).toNat default)).kind=1 then((((b.ops).getD (b.x).toNat default)).k,true)else((0:Int),false)).2=true∧(if(((b.ops).getD (b.y).toNat default)).kind=1 then((((b.ops).getD (b.y).toNat default)).k,true)else((0:Int),false)).2=true):=fun⟨g1,g2⟩=>by
     split at g1
     ·split at g2
      ·exact d ⟨by assumption,by assumption⟩
      ·cases g2
     ·cases g1
    exact⟨fun h=>absurd ⟨h.1.1.2,h.1.2⟩ n,fun _=>⟨fun h=>absurd ⟨h.1.1.2,h.1.2⟩ n,fun _=>⟨fun h=>absurd ⟨h.1.2,h.2⟩ n,fun _=>rfl⟩⟩⟩
theorem Zm {p1:Int×Int×Int×Unit→Bool} {f1:Int×Int×Int×Unit→Bool×Unit} (hp1:∀a b c,p1 (a,b,c,())=true) (hf1:∀a b c,f1 (a,b,c,())=(inB a b c,())) (o:IOp) (al:List Int) (hk:1≤o.kind∧o.kind≤8) (hx:hX o→0≤o.x∧o.x< (al.length:Int)) (hy:hY o→0≤o.y∧o.y< (al.length:Int)):PL (std 0) p1 f1 (o,al,()) (fun y=>y=(ren al o,())):=by
 dsimp only [PL,Alg.cl,Alg.cg,Alg.rb,Alg.bd,Alg.l1,Tup.q,Tup.o]
 simp (disch:=omega) only [RR,RB,hp1,hf1,eP,rP]
 have X:((3≤o.kind∧o.kind≤5)∨o.kind=7)∨o.kind=8→hX o:=fun c=>by unfold hX;omega
 have Xn:(¬(3≤o.kind∧o.kind≤5)∧¬o.kind=7)∧¬o.kind=8→¬hX o:=fun c g=>by unfold hX at g;omega
 unfold ren
 refine⟨fun c=>⟨(hx (X c)).1,(hx (X c)).2,fun d=>⟨(hy d).1,(hy d).2,?_⟩,fun d=> ?_⟩,fun c=>⟨fun d=>⟨(hy d).1,(hy d).2,?_⟩,fun d=> ?_⟩⟩
 ·rw [if_pos (X c),if_pos (show hY o from d)]
 ·rw [if_pos (X c),if_neg (show¬hY o from fun g=>g.elim d.1 d.2)]
 ·rw [if_neg (Xn c),if_pos (show hY o from d)]
 ·rw [if_neg (Xn c),if_neg (show¬hY o from fun g=>g.elim d.1 d.2)]
theorem Zn (ops:List IOp) (k:Int) (h0:0≤k) (h1:k<ops.length) (h2:(ops.length:Int)<1000000):P5 (std 0) (ops,k,()) (fun y=>y=(qw (ops.drop (k.toNat+1)) (((ops).getD (k).toNat default)).k,())):=by
 dsimp only [P5,Alg.cl,Alg.cg,Alg.rb,Alg.bd,Alg.l1,Tup.q,Tup.o]
 simp (disch:=omega) only [RR,RB]
 refine ay (fun(y:List IOp×Int×Int×Unit)=>y.1=ops∧y.2.1=k∧0≤y.2.2.1∧y.2.2.1≤ops.length∧qw (ops.drop (k.toNat+1)) (((ops).getD (k).toNat default)).k=qw (ops.drop y.2.2.1.toNat) (((ops).getD (k).toNat default)).k) (fun y=>((ops.length:Int)-y.2.2.1).toNat) ⟨rfl,rfl,by dsimp only;omega,by dsimp only;omega,by dsimp only;rw [show(k+1).toNat=k.toNat+1 by omega]⟩ ?_
 rintro⟨(l:List IOp),(k':Int),(j:Int),⟨⟩⟩ hI
 dsimp only at hI ⊢
 obtain⟨rfl,rfl,h3,h4,h5⟩:=hI
 rw [h5]
 simp (disch:=omega) only [RR,RB,Bool.and_eq_false_iff]
 have st:j<l.length→qw (l.drop j.toNat) (((l).getD (k').toNat default)).k=if(((l).getD (j).toNat default)).kind=4∨(((l).getD (j).toNat default)).kind=5∨(((l).getD (j).toNat default)).kind=2∧(((l).getD (j).toNat default)).k=(((l).getD (k').toNat default)).k then false else if(((l).getD (j).toNat default)).kind=8∧(((l).getD (j).toNat default)).k=(((l).getD (k').toNat default)).k then true else qw (l.drop (j+1).toNat) (((l).getD (k').toNat default)).k:=fun h=>by
  rw [List.drop_eq_getElem_cons (show j.toNat<l.length by omega),Rq,←getD_lt (d:=default) (show j.toNat<l.length by omega),show(j+1).toNat=j.toNat+1 by omega]
 refine⟨fun h=>⟨h3,h,by omega,by omega,by omega,by omega,by omega,by omega,by omega,by omega,fun c=> ?_,fun c=>⟨h3,h,by omega,by omega,by omega,by omega,fun d=> ?_,fun d=>⟨⟨by omega,by omega,?_⟩,by omega⟩⟩⟩,fun h=> ?_⟩
 ·rw [st h,if_pos (by omega)]
 ·rw [st h,if_neg (by omega),if_pos (by omega)]
 ·rw [st h,if_neg (by omega),if_neg (by omega)]
 ·rw [List.drop_of_length_le (by omega)];rfl
theorem ahh {p1:Blk×Unit→Bool} {f1:Blk×Unit→Blk×Unit} (hp1:∀b,b.ops.length<1000000→p1 (b,())=true) (hf1:∀b,b.ops.length<1000000→f1 (b,())=(dL b,())) {p2:Blk×Unit→Bool} {f2:Blk×Unit→Int×Int×Int×Int×Int×Int×List IOp×Unit} (hp2:∀b,b.ops.length<1000000→p2 (b,())=true) (hf2:∀b,b.ops.length<1000000→f2 (b,())=bk7 (aL b)) {p3:Blk×Unit→Bool} {f3:Blk×Unit→Int×Int×Int×Int×Int×Int×List IOp×Unit} (hp3:∀b,b.ops.length<1000000→p3 (b,())=true) (hf3:∀b,b.ops.length<1000000→f3 (b,())=bk7 (kr b)) {p4:Blk×Unit→Bool} {f4:Blk×Unit→Int×Int×Int×Int×Int×Int×List IOp×Unit} (hp4:∀b,b.ops.length<1000000→p4 (b,())=true) (hf4:∀b,b.ops.length<1000000→f4 (b,())=bk7 (nY b)) (b:Blk) (hb:b.ops.length<1000000):Qh (std 0) p1 f1 p2 f2 p3 f3 p4 f4 (b,()) (fun y=>y=bk7 (Rs b)):=by
 have m1:(aL b).ops.length<1000000:=Nat.lt_of_le_of_lt (rz b) hb
 have m2:=Nat.lt_of_le_of_lt (Bf (aL b)) m1
 have m3:=Nat.lt_of_le_of_lt (xS (dL (aL b))) m2
 have m4:=Nat.lt_of_le_of_lt (GQ (kr (dL (aL b)))) m3
 have mkE:∀c:Blk,Co.mk .blk (c.pc,c.len,c.ops,c.fin,c.x,c.y,c.k,())=c:=fun _=>rfl
 dsimp only [Qh,Alg.cl,Alg.cg,Alg.rb,Alg.bd,Alg.l1,Tup.q,Tup.o]
 simp (disch:=omega) only [RR,hp2 b hb,hf2 b hb,mkE,hp1 _ m1,hf1 _ m1,hp3 _ m2,hf3 _ m2,hp4 _ m3,hf4 _ m3,hp3 _ m4,hf3 _ m4]
 rfl
theorem Rw {α:Type} {d:α} {f l:List α} {k:Nat} (hf:f.length=k) (h:k<l.length):(f++l.drop k).getD k d=l.getD k d:=by
 rw [getD_lt (by rw [List.length_append,List.length_drop];omega),getD_lt h,List.getElem_append_right (by omega),List.getElem_drop]
 simp only [hf,Nat.sub_self,Nat.add_zero]
theorem ahi {α:Type} {d:α} {f l:List α} {k j:Nat} (hf:f.length=k) (h:j<k):(f++l.drop k).getD j d=f.getD j d:=by
 rw [getD_lt (by rw [List.length_append];omega),getD_lt (by omega),List.getElem_append_left]
theorem BO {α:Type} {x:α} {f l:List α} {k:Nat} (hf:f.length=k) (h:k<l.length):(f++l.drop k).set k x=(f++ [x])++l.drop (k+1):=by
 rw [List.set_append_right _ _ (by omega),hf,Nat.sub_self,List.drop_eq_getElem_cons h,List.set_cons_zero,List.append_assoc];rfl
theorem Oc {α:Type} {d:α} {f l:List α} {k:Nat} (h:k<l.length):f++l.drop k=(f++ [l.getD k d])++l.drop (k+1):=by
 rw [List.drop_eq_getElem_cons h,getD_lt h,List.append_assoc];rfl
theorem BP {α:Type} {f l:List α} {k:Nat} (hf:f.length=k) (h:k≤l.length):(f++l.drop k).length=l.length:=by
 rw [List.length_append,hf,List.length_drop];omega
theorem cu.fe {b:Blk} (ok:cu b) {f:List IOp} (h:f.length=b.ops.length):FE ⟨b.pc,b.len,f,b.fin,b.x,b.y,b.k⟩:=by
 have en:=ok.en
 have hp:=ok.pc
 have hl:=ok.ln
 exact⟨en.f,fun c=>⟨(en.x1 c).1,by dsimp only;rw [h];exact(en.x1 c).2.1⟩,fun c=>⟨(en.y1 c).1,by dsimp only;rw [h];exact(en.y1 c).2.1⟩,en.y0,by dsimp only;omega⟩
theorem ahj {p1:Blk×Unit→Bool} {f1:Blk×Unit→Bool×Unit} (hp1:∀b,b.ops.length<1000000000→p1 (b,())=true) (hf1:∀b,b.ops.length<1000000000→f1 (b,())=(bp (cu b),())) {p2:Int×Int×Int×Unit→Bool} {f2:Int×Int×Int×Unit→Int×Unit} (hp2:∀op a b,p2 (op,a,b,())=true) (hf2:∀op a b,f2 (op,a,b,())=(wdo op a b,())) {p3:Blk×Unit→Bool} {f3:Blk×Unit→Blk×Unit} (hp3:∀b,FE b→p3 (b,())=true) (hf3:∀b,FE b→f3 (b,())=(fcB b b.ops,())) {p4:List IOp×Int×Unit→Bool} {f4:List IOp×Int×Unit→Int×Bool×Unit} (hp4:∀ops k,p4 (ops,k,())=true) (hf4:∀ops k,f4 (ops,k,())=((kn ops k).1,(kn ops k).2,())) {p5:Blk×Unit→Bool} {f5:Blk×Unit→Int×Int×Int×Int×Int×Int×List IOp×Unit} (hp5:∀b,b.ops.length<1000000→p5 (b,())=true) (hf5:∀b,b.ops.length<1000000→f5 (b,())=(b.pc,b.len,b.fin,b.x,b.y,b.k,b.ops,())) (b:Blk) (hb:b.ops.length<1000000):Qg (std 0) p1 f1 p2 f2 p3 f3 p4 f4 p5 f5 (b,()) (fun y=>y=(dL b,())):=by
 have mkE:∀p l o f x y k,Co.mk .blk (p,l,o,f,x,y,k,())=Blk.mk p l o f x y k:=fun _ _ _ _ _ _ _=>rfl
 dsimp only [Qg,Alg.cl,Alg.cg,Alg.rb,Alg.bd,Alg.l1,Tup.q,Tup.o]
 simp (disch:=omega) only [RR,RB,hp1 b (by omega),hf1 b (by omega),hp5 b hb,hf5 b hb,mkE]
 refine⟨fun h=>by unfold dL;rw [h,if_neg (by decide)];rfl,fun h=> ?_⟩
 have ok:=bL.1 h
 rw [Ka ok]
 refine ay (fun(y:Int×Int×Int×Int×Int×Int×Int×Int×Int×Int×Int×Int×Int×List IOp×Unit)=>0≤y.1∧y.1≤b.ops.length∧y.2.2.2.2.2.2.2=(b.pc,b.len,b.fin,b.x,b.y,b.k,fc b.ops y.1.toNat++b.ops.drop y.1.toNat,())) (fun y=>((b.ops.length:Int)-y.1).toNat) ⟨by dsimp only;omega,by dsimp only;omega,rfl⟩ ?_
 rintro⟨(k:Int),u1,u2,u3,u4,u5,u6,b1,b2,b3,b4,b5,b6,(ops:List IOp),⟨⟩⟩ hI
 dsimp only at hI ⊢
 simp only [Prod.mk.injEq,and_true]at hI
 obtain⟨h1,h2,rfl,rfl,rfl,rfl,rfl,rfl,rfl⟩:=hI
 have fl:=pz b.ops k.toNat
 have ln:=BP (l:=b.ops) fl (by omega)
 simp (disch:=omega) only [RR,RB,hp4,hf4,hp2,hf2,ln,mkE]
 refine⟨fun h=> ?_,fun h=> ?_⟩
 ·have o:=ok.op k h1 h
  have ek:=Rw (d:=default) (l:=b.ops) fl (by omega)
  have kv:∀x:Int,Vl b.ops x k→kn (fc b.ops k.toNat++b.ops.drop k.toNat) x=if((((fc b.ops k.toNat)).getD (x).toNat default)).kind=1 then(((((fc b.ops k.toNat)).getD (x).toNat default)).k,true)else(0,false):=fun x v=>by
   have v0:=v.1
   have v1:=v.2.1
   unfold kn
   rw [ahi fl (by omega)]
   simp only [show 0≤x∧x< ((fc b.ops k.toNat++b.ops.drop k.toNat).length:Int)from⟨v0,by omega⟩,true_and]
  have nx:fc b.ops (k+1).toNat=fc b.ops k.toNat++ [fcO (fc b.ops k.toNat) ((b.ops).getD (k).toNat default)]:=by rw [show(k+1).toNat=k.toNat+1 by omega];rfl
  rw [ek]
  have hk:=Oc (d:=default) (f:=fc b.ops k.toNat) (l:=b.ops) (k:=k.toNat) (by omega)
  have hs:=fun x=>BO (x:=x) (l:=b.ops) fl (by omega)
  rw [nx,show(k+1).toNat=k.toNat+1 by omega]
  generalize ((b.ops).getD (k).toNat default)=q at o hk ⊢
  have vx:=fun c=>o.x1 c
  have vy:=fun c=>o.y1 c
  refine⟨h1,h,h1,h,fun c=>⟨h1,h,h1,h,⟨by omega,by omega,?_⟩,by omega⟩,fun c=>⟨⟨by omega,by omega,?_⟩,by omega⟩⟩
  ·have k1:=kv _ (o.x1 (by unfold hX;omega))
   have k2:=kv _ (o.y1 (Or.inl c.1.1))
   rw [k1,k2]at c ⊢
   by_cases d1:((((fc b.ops k.toNat)).getD (q.x).toNat default)).kind=1
   ·by_cases d2:((((fc b.ops k.toNat)).getD (q.y).toNat default)).kind=1
    ·rw [if_pos d1,if_pos d2,hs]
     have e:fcO (fc b.ops k.toNat) q=⟨1,0,0,wdo q.k ((((fc b.ops k.toNat)).getD (q.x).toNat default)).k ((((fc b.ops k.toNat)).getD (q.y).toNat default)).k,0⟩:=by unfold fcO;rw [if_pos ⟨c.1.1,d1,d2⟩]
     rw [e]
    ·rw [if_neg d2]at c;exact absurd c.2 (by decide)
   ·rw [if_neg d1]at c;exact absurd c.1.2 (by decide)
  ·have e:fcO (fc b.ops k.toNat) q=q:=by
    unfold fcO
    refine if_neg ?_
    rintro⟨d0,d1,d2⟩
    rw [kv _ (o.x1 (by unfold hX;omega)),kv _ (o.y1 (Or.inl d0)),if_pos d1,if_pos d2,decide_eq_true d0]at c
    cases c
   rw [e,hk]
 ·have e:fc b.ops k.toNat++b.ops.drop k.toNat=fc b.ops b.ops.length:=by rw [List.drop_of_length_le (by omega),List.append_nil,show k.toNat=b.ops.length by omega]
  rw [e]
  have fe:=ok.fe (pz b.ops b.ops.length)
  rw [hf3 _ fe]
  exact⟨hp3 _ fe,rfl⟩
theorem Zo {a b:List Bool} (h:a.length=b.length) (g:∀t:Nat,t<a.length→(a.getD t default=true↔b.getD t default=true)):a=b:=by
 refine List.ext_getElem h fun i h1 h2=> ?_
 have:=g i h1
 rw [getD_lt h1,getD_lt h2]at this
 exact Bool.eq_iff_iff.2 this
theorem ahk {p1:Blk×Unit→Bool} {f1:Blk×Unit→Bool×Unit} (hp1:∀b,b.ops.length<1000000000→p1 (b,())=true) (hf1:∀b,b.ops.length<1000000000→f1 (b,())=(bp (cu b),())) {p2:Int×Int×Int×Unit→Bool} {f2:Int×Int×Int×Unit→Bool×Unit} (hp2:∀a b c,p2 (a,b,c,())=true) (hf2:∀a b c,f2 (a,b,c,())=(inB a b c,())) (b:Blk) (hb:b.ops.length<1000000):PW (std 0) p1 f1 p2 f2 (b,()) (fun y=>y=(lV b,())):=by
 dsimp only [PW,Alg.cl,Alg.cg,Alg.rb,Alg.bd,Alg.l1,Tup.q,Tup.o]
 simp (disch:=omega) only [RR,RB,hp1 b (by omega),hf1 b (by omega)]
 unfold lV
 refine⟨fun h=>by rw [h,if_neg (by decide)],fun h=> ?_⟩
 rw [if_pos h]
 have ok:=bL.1 h
 have n48:=ok.sz
 have en:=ok.en
 refine ay (fun(y:Int×Blk×List Bool×Unit)=>0≤y.1∧y.1≤b.ops.length∧y.2.1=b∧(y.2.2.1.length:Int)=y.1∧∀t:Nat,t<y.2.2.1.length→(y.2.2.1.getD t default=true↔4≤(b.ops.getD t default).kind)) (fun y=>((b.ops.length:Int)-y.1).toNat) ⟨by dsimp only;omega,by dsimp only;omega,rfl,rfl,fun t h=>absurd h (by simp)⟩ ?_
 rintro⟨(k:Int),(b':Blk),(kp:List Bool),⟨⟩⟩ hI
 dsimp only at hI ⊢
 obtain⟨h1,h2,rfl,h3,h4⟩:=hI
 simp (disch:=omega) only [RR,RB,List.length_append,List.length_cons,List.length_nil]
 refine⟨fun h=>⟨h1,h,by omega,⟨by omega,by omega,by omega,fun t ht=> ?_⟩,by omega⟩,fun h=> ?_⟩
 ·rw [gG]
  rcases(by omega:t<kp.length∨t=kp.length)with c | c
  ·rw [if_pos c];exact h4 t c
  ·rw [if_neg (by omega),if_pos c,decide_eq_true_eq,c,show k.toNat=kp.length by omega]
 have ex:¬b'.fin=1→0≤b'.x∧b'.x<kp.length:=fun c=>by have:=ok.en.x1 c;exact⟨this.1,by have:=this.2.1;omega⟩
 have ey:b'.fin=3∨b'.fin=4→0≤b'.y∧b'.y<kp.length:=fun c=>by have:=ok.en.y1 (by omega);exact⟨this.1,by have:=this.2.1;omega⟩
 have ff:=en.f
 have u0:=Uf ok
 have kl:kp.length=b'.ops.length:=by omega
 rw [kl]at h4
 refine⟨fun c=>⟨(ex c).1,(ex c).2,(ex c).1,(ex c).2,fun c2=>⟨(ey c2).1,by rw [List.length_set];exact(ey c2).2,(ey c2).1,by rw [List.length_set];exact(ey c2).2,?_⟩,fun c2=> ?_⟩,fun c=>⟨fun c2=>absurd c2 (by omega),fun c2=> ?_⟩⟩
 all_goals
  refine ay (fun(y:Int×Blk×List Bool×Unit)=> -1≤y.1∧y.1<b'.ops.length∧y.2.1=b'∧y.2.2.1.length=b'.ops.length∧∀t:Nat,t<b'.ops.length→(y.2.2.1.getD t default=true↔(us b' (b'.ops.length-1-y.1).toNat).getD t default=true∨4≤(b'.ops.getD t default).kind)) (fun y=>(y.1+1).toNat) ⟨by dsimp only;omega,by dsimp only;omega,rfl,by simp only [List.length_set];omega,fun t ht=> ?_⟩ ?_
  ·dsimp only
   rw [show(b'.ops.length-1- ((b'.ops.length:Int)-1)).toNat=0 by omega]
   show _↔(us0 b').getD t default=true∨_
   have q:=h4 t ht
   have r:=u0 t
   first
    | (rw [Rp (by rw [List.length_set];have:=ey c2;omega),Rp (by have:=ex c;omega),q,r];grind)
    | (rw [Rp (by have:=ex c;omega),q,r];grind)
    | (rw [q,r];grind)
  rintro⟨(j:Int),(b2:Blk),(ms:List Bool),⟨⟩⟩ hI
  dsimp only at hI ⊢
  obtain⟨j0,j1,rfl,j3,j4⟩:=hI
  simp (disch:=omega) only [RR,RB,hp2,hf2,eP,rP,List.length_set]
  have ul:=ru b2 (b2.ops.length-1-j).toNat
  have us1:0≤j→∀t:Nat,((us b2 (b2.ops.length-1- (j-1)).toNat).getD t default=true↔(us b2 (b2.ops.length-1-j).toNat).getD t default=true∨((us b2 (b2.ops.length-1-j).toNat).getD j.toNat default=true∨4≤(((b2.ops).getD (j).toNat default)).kind)∧(t=j.toNat∨hX (((b2.ops).getD (j).toNat default))∧t=(((b2.ops).getD (j).toNat default)).x.toNat∨hY (((b2.ops).getD (j).toNat default))∧t=(((b2.ops).getD (j).toNat default)).y.toNat)):=fun g t=>by
   have o:=ok.op j g j1
   rw [show(b2.ops.length-1- (j-1)).toNat=(b2.ops.length-1-j).toNat+1 by omega]
   show(usO (b2.ops.getD (b2.ops.length-1- (b2.ops.length-1-j).toNat) default) (b2.ops.length-1- (b2.ops.length-1-j).toNat) _).getD t default=true↔_
   rw [show b2.ops.length-1- (b2.ops.length-1-j).toNat=j.toNat by omega]
   exact Ue (by omega) (fun c=>by have:=o.x1 c;have g0:=this.1;have g1:=this.2.1;omega) (fun c=>by have:=o.y1 c;have g0:=this.1;have g1:=this.2.1;omega)
  have ue:¬0≤j→(us b2 (b2.ops.length-1-j).toNat)=us b2 b2.ops.length:=fun g=>by rw [show(b2.ops.length-1-j).toNat=b2.ops.length by omega]
  generalize us b2 (b2.ops.length-1-j).toNat=U at us1 j4 ue
  refine⟨fun g=> ?_,fun g=>congrArg (fun m:List Bool=>(m,())) (Zo (b:=us b2 b2.ops.length) (by rw [ru];exact j3) fun t ht=> ?_)⟩
  ·have o:=ok.op j g j1
   have X:hX (((b2.ops).getD (j).toNat default))→0≤(((b2.ops).getD (j).toNat default)).x∧(((b2.ops).getD (j).toNat default)).x<ms.length:=fun c=>by have:=o.x1 c;have g0:=this.1;have g1:=this.2.1;omega
   have Y:hY (((b2.ops).getD (j).toNat default))→0≤(((b2.ops).getD (j).toNat default)).y∧(((b2.ops).getD (j).toNat default)).y<ms.length:=fun c=>by have:=o.y1 c;have g0:=this.1;have g1:=this.2.1;omega
   have us1:=us1 g
   have qj:=j4 j.toNat (by omega)
   have kd:=o.kd
   generalize ((b2.ops).getD (j).toNat default)=q at*
   have cx:((3≤q.kind∧q.kind≤5)∨q.kind=7)∨q.kind=8↔hX q:=by unfold hX;omega
   have cn:(¬(3≤q.kind∧q.kind≤5)∧¬q.kind=7)∧¬q.kind=8↔¬hX q:=by unfold hX;omega
   have cy:q.kind=3∨q.kind=5↔hY q:=Iff.rfl
   have dn:¬q.kind=3∧¬q.kind=5↔¬hY q:=by unfold hY;omega
   rw [cx,cn,cy,dn]
   generalize hX q=HX at*
   generalize hY q=HY at*
   refine⟨g,j1,g,by omega,g,by omega,fun c=>⟨⟨by omega,by omega,j3,fun t ht=> ?_⟩,by omega⟩,fun c=>⟨fun d=>⟨(X d).1,(X d).2,(X d).1,(X d).2,fun e=>⟨(Y e).1,(Y e).2,(Y e).1,(Y e).2,⟨by omega,by omega,j3,fun t ht=> ?_⟩,by omega⟩,fun e=>⟨⟨by omega,by omega,j3,fun t ht=> ?_⟩,by omega⟩⟩,fun d=>⟨fun e=>⟨(Y e).1,(Y e).2,(Y e).1,(Y e).2,⟨by omega,by omega,j3,fun t ht=> ?_⟩,by omega⟩,fun e=>⟨⟨by omega,by omega,j3,fun t ht=> ?_⟩,by omega⟩⟩⟩⟩
   ·rw [us1,j4 t ht];rw [c]at qj;grind
   ·rw [Rp (by rw [List.length_set];have:=Y e;omega),Rp (by have:=X d;omega),us1,j4 t ht];grind
   ·rw [Rp (by have:=X d;omega),us1,j4 t ht];grind
   ·rw [Rp (by have:=Y e;omega),us1,j4 t ht];grind
   ·rw [us1,j4 t ht];grind
  ·rw [j4 t (by omega),ue g]
   exact⟨fun h=>h.elim id ((ab5 ok).k t (Nat.zero_le _) (by omega)),Or.inl⟩
end Go.TX.F
namespace Go.TX.F
open Go Go.AE Go.TX
theorem abt {ops:List IOp} {kp:List Bool} {len:Int} {k n:Nat} {o:IOp} (ho:Bz ops len k o) (h:k<n):ren (kpS ops kp (k+1)).1 o=ren (kpS ops kp n).1 o:=by
 have p:=(abo ops kp (show k+1≤n by omega)).2
 have l:=(yY ops kp (k+1)).1
 have e:∀x:Int,Vl ops x k→(((kpS ops kp (k+1)).1).getD (x).toNat default)=(((kpS ops kp n).1).getD (x).toNat default):=fun x v=>by
  have g0:=v.1
  have g1:=v.2.1
  exact(Y6 p (by omega)).symm
 have ox:=ho.x1
 have oy:=ho.y1
 unfold ren
 congr 1
 ·split
  ·rename_i c;exact e _ (ox c)
  ·rfl
 ·split
  ·rename_i c;exact e _ (oy c)
  ·rfl
theorem ahl {p1:IOp×List Int×Unit→Bool} {f1:IOp×List Int×Unit→IOp×Unit} (hp1:∀o al,(1≤o.kind∧o.kind≤8)→(hX o→0≤o.x∧o.x< (al.length:Int))→(hY o→0≤o.y∧o.y< (al.length:Int))→p1 (o,al,())=true) (hf1:∀o al,(1≤o.kind∧o.kind≤8)→(hX o→0≤o.x∧o.x< (al.length:Int))→(hY o→0≤o.y∧o.y< (al.length:Int))→f1 (o,al,())=(ren al o,())) (b:Blk) (kp:List Bool) (ok:cu b) (hk:kp.length=b.ops.length):PU (std 0) p1 f1 (b,kp,()) (fun y=>y=bk7 (Bd b kp)):=by
 have n48:=ok.sz
 dsimp only [PU,Alg.cl,Alg.cg,Alg.rb,Alg.bd,Alg.l1,Tup.q,Tup.o]
 simp (disch:=omega) only [RR,RB]
 refine ay (fun(y:List Bool×Int×Blk×Int×Int×Int×Int×Int×Int×List IOp×List Int×Unit)=>y.1=kp∧0≤y.2.1∧y.2.1≤b.ops.length∧y.2.2.1=b∧y.2.2.2.2.2.2.2.2.2.1=(kpS b.ops kp y.2.1.toNat).2.map (ren (kpS b.ops kp b.ops.length).1)∧y.2.2.2.2.2.2.2.2.2.2.1=(kpS b.ops kp y.2.1.toNat).1) (fun y=>((b.ops.length:Int)-y.2.1).toNat) ⟨rfl,by dsimp only;omega,by dsimp only;omega,rfl,rfl,rfl⟩ ?_
 rintro⟨(kp':List Bool),(k:Int),(b':Blk),u1,u2,u3,u4,u5,u6,(out:List IOp),(to:List Int),⟨⟩⟩ hI
 dsimp only at hI ⊢
 obtain⟨rfl,h1,h2,rfl,rfl,rfl⟩:=hI
 obtain⟨l1,l2⟩:=yY b'.ops kp' k.toNat
 have l3:=(yY b'.ops kp' (k+1).toNat).1
 have nx:(kpS b'.ops kp' (k+1).toNat).1=(kpS b'.ops kp' k.toNat).1++ [((kpS b'.ops kp' k.toNat).2.length:Int)]:=by rw [show(k+1).toNat=k.toNat+1 by omega];rfl
 have r:k<b'.ops.length→ren (kpS b'.ops kp' (k+1).toNat).1 ((b'.ops).getD (k).toNat default)=ren (kpS b'.ops kp' b'.ops.length).1 ((b'.ops).getD (k).toNat default):=fun h=>by
  rw [show(k+1).toNat=k.toNat+1 by omega]
  exact abt (by rw [show((k.toNat:Nat):Int)=k by omega];exact ok.op k h1 h) (by omega)
 have s:(kpS b'.ops kp' (k+1).toNat).2=if kp'.getD k.toNat default=true then(kpS b'.ops kp' k.toNat).2++ [((b'.ops).getD (k).toNat default)]else(kpS b'.ops kp' k.toNat).2:=by rw [show(k+1).toNat=k.toNat+1 by omega];rfl
 have fin:¬k<b'.ops.length→kpS b'.ops kp' k.toNat=kpS b'.ops kp' b'.ops.length:=fun h=>by rw [show k.toNat=b'.ops.length by omega]
 have kb:Bd b' kp'=NZ (kpS b'.ops kp' b'.ops.length).1 b' (kpS b'.ops kp' b'.ops.length).2:=rfl
 rw [kb]
 generalize kpS b'.ops kp' b'.ops.length=N at r fin ⊢
 generalize hT:kpS b'.ops kp' (k+1).toNat=T at l3 nx r s ⊢
 generalize kpS b'.ops kp' k.toNat=S at l1 l2 nx s fin ⊢
 have en:=ok.en
 have ex:¬k<b'.ops.length→¬b'.fin=1→0≤b'.x∧b'.x< (S.1.length:Int):=fun h c=>by have:=en.x1 c;exact⟨this.1,by have:=this.2.1;omega⟩
 have ey:¬k<b'.ops.length→b'.fin=3∨b'.fin=4→0≤b'.y∧b'.y< (S.1.length:Int):=fun h c=>by have:=en.y1 (by omega);exact⟨this.1,by have:=this.2.1;omega⟩
 simp (disch:=omega) only [RR,RB,List.length_append,List.length_cons,List.length_nil,List.length_map,Gu,←nx]
 refine⟨fun h=> ?_,fun h=> ?_⟩
 ·have op:=ok.op k h1 h
  have a2:hX (((b'.ops).getD (k).toNat default))→0≤(((b'.ops).getD (k).toNat default)).x∧(((b'.ops).getD (k).toNat default)).x< (T.1.length:Int):=fun c=>⟨(op.x1 c).1,by have:=(op.x1 c).2.1;omega⟩
  have a3:hY (((b'.ops).getD (k).toNat default))→0≤(((b'.ops).getD (k).toNat default)).y∧(((b'.ops).getD (k).toNat default)).y< (T.1.length:Int):=fun c=>⟨(op.y1 c).1,by have:=(op.y1 c).2.1;omega⟩
  have P:=hp1 _ T.1 op.kd a2 a3
  rw [hf1 _ T.1 op.kd a2 a3,hT,s,r h]
  refine⟨by omega,h1,by omega,fun c=>⟨h1,h,P,by omega,⟨by omega,by omega,?_⟩,by omega⟩,fun c=>⟨⟨by omega,by omega,?_⟩,by omega⟩⟩
  ·rw [if_pos c,List.map_append];exact⟨rfl,rfl⟩
  ·rw [c,if_neg (by decide)];exact⟨rfl,rfl⟩
 ·have ex:=ex h
  have ey:=ey h
  rw [fin h]at ex ey ⊢
  unfold bk7 NZ
  refine⟨fun c=>⟨(ex c).1,(ex c).2,(ex c).1,(ex c).2,fun c2=>⟨(ey c2).1,(ey c2).2,(ey c2).1,(ey c2).2,?_⟩,fun c2=> ?_⟩,fun c=>⟨fun c2=>⟨(ey c2).1,(ey c2).2,(ey c2).1,(ey c2).2,?_⟩,fun c2=> ?_⟩⟩
  ·rw [if_neg c,if_pos (by omega)]
  ·rw [if_neg c,if_neg (by have:=en.f;omega)]
  ·exact absurd c2 (by omega)
  ·rw [if_pos c,if_neg (by omega)]
theorem ahm {p1:Blk×Unit→Bool} {f1:Blk×Unit→Bool×Unit} (hp1:∀b,b.ops.length<1000000000→p1 (b,())=true) (hf1:∀b,b.ops.length<1000000000→f1 (b,())=(bp (cu b),())) {p2:Blk×Unit→Bool} {f2:Blk×Unit→List Bool×Unit} (hp2:∀b,b.ops.length<1000000→p2 (b,())=true) (hf2:∀b,b.ops.length<1000000→f2 (b,())=(lV b,())) {p3:Blk×List Bool×Unit→Bool} {f3:Blk×List Bool×Unit→Int×Int×Int×Int×Int×Int×List IOp×Unit} (hp3:∀b kp,cu b→kp.length=b.ops.length→p3 (b,kp,())=true) (hf3:∀b kp,cu b→kp.length=b.ops.length→f3 (b,kp,())=bk7 (Bd b kp)) (b:Blk) (hb:b.ops.length<1000000):PX (std 0) p1 f1 p2 f2 p3 f3 (b,()) (fun y=>y=bk7 (kr b)):=by
 dsimp only [PX,Alg.cl,Alg.cg,Alg.rb,Alg.bd,Alg.l1,Tup.q,Tup.o]
 simp (disch:=omega) only [RR,RB,hp1 b (by omega),hf1 b (by omega),hp2 b hb,hf2 b hb]
 unfold kr lV
 refine⟨fun h=>by rw [h,if_neg (by decide)];rfl,fun h=> ?_⟩
 have ok:=bL.1 h
 rw [if_pos h,if_pos h,hf3 _ _ ok (ru b _)]
 exact⟨hp3 _ _ ok (ru b _),rfl⟩
theorem ahn {p1:Blk×Unit→Bool} {f1:Blk×Unit→Bool×Unit} (hp1:∀b,b.ops.length<1000000000→p1 (b,())=true) (hf1:∀b,b.ops.length<1000000000→f1 (b,())=(bp (cu b),())) {p2:Blk×List Bool×Unit→Bool} {f2:Blk×List Bool×Unit→Int×Int×Int×Int×Int×Int×List IOp×Unit} (hp2:∀b kp,cu b→kp.length=b.ops.length→p2 (b,kp,())=true) (hf2:∀b kp,cu b→kp.length=b.ops.length→f2 (b,kp,())=bk7 (Bd b kp)) {p3:List IOp×Int×Unit→Bool} {f3:List IOp×Int×Unit→Bool×Unit} (hp3:∀ops k,0≤k→k<ops.length→(ops.length:Int)<1000000→p3 (ops,k,())=true) (hf3:∀ops k,0≤k→k<ops.length→(ops.length:Int)<1000000→f3 (ops,k,())=(qw (ops.drop (k.toNat+1)) (((ops).getD (k).toNat default)).k,())) (b:Blk) (hb:b.ops.length<1000000):P6 (std 0) p1 f1 p2 f2 p3 f3 (b,()) (fun y=>y=bk7 (nY b)):=by
 dsimp only [P6,Alg.cl,Alg.cg,Alg.rb,Alg.bd,Alg.l1,Tup.q,Tup.o]
 simp (disch:=omega) only [RR,RB,hp1 b (by omega),hf1 b (by omega)]
 unfold nY
 refine⟨fun h=>by rw [h,if_neg (by decide)];rfl,fun h=> ?_⟩
 have ok:=bL.1 h
 rw [if_pos h]
 have kl:(q9 b.ops).length=b.ops.length:=by unfold q9;rw [List.length_map,List.length_range]
 refine ay (fun(y:Int×Blk×Int×Int×Int×Int×Int×Int×List Bool×Unit)=>0≤y.1∧y.1≤b.ops.length∧y.2.1=b∧y.2.2.2.2.2.2.2.2.1=(q9 b.ops).take y.1.toNat) (fun y=>((b.ops.length:Int)-y.1).toNat) ⟨by dsimp only;omega,by dsimp only;omega,rfl,rfl⟩ ?_
 rintro⟨(k:Int),(b':Blk),u1,u2,u3,u4,u5,u6,(kp:List Bool),⟨⟩⟩ hI
 dsimp only at hI ⊢
 obtain⟨h1,h2,rfl,rfl⟩:=hI
 have tl:((q9 b'.ops).take k.toNat).length=k.toNat:=by rw [List.length_take];omega
 simp (disch:=omega) only [RR,RB,List.length_append,List.length_cons,List.length_nil,tl]
 refine⟨fun h=>⟨h1,h,Or.inr (hp3 _ _ h1 h (by omega)),by omega,⟨by omega,by omega,?_⟩,by omega⟩,fun h=> ?_⟩
 ·rw [hf3 _ _ h1 h (by omega),show(k+1).toNat=k.toNat+1 by omega,List.take_succ_eq_append_getElem (by omega),←getD_lt (d:=default) (show k.toNat< (q9 b'.ops).length by omega),Vy (by omega)]
  refine congrArg (fun x=>(q9 b'.ops).take k.toNat++ [x]) ?_
  rw [Bool.not_and]
 ·rw [List.take_of_length_le (by omega),hf2 _ _ ok kl]
  exact⟨hp2 _ _ ok kl,rfl⟩
theorem aho {ops:List IOp} {len:Int} {k n:Nat} {o:IOp} (ho:Bz ops len k o) (h:k≤n):ren (cpS ops k).1 o=ren (cpS ops n).1 o:=by
 have l:=(jH ops k).1
 have e:∀x:Int,Vl ops x k→(((cpS ops k).1).getD (x).toNat default)=(((cpS ops n).1).getD (x).toNat default):=fun x v=>by
  have g0:=v.1
  have g1:=v.2.1
  exact(GL ops (by omega) h).symm
 have ox:=ho.x1
 have oy:=ho.y1
 unfold ren
 congr 1
 ·split
  ·rename_i c;exact e _ (ox c)
  ·rfl
 ·split
  ·rename_i c;exact e _ (oy c)
  ·rfl
theorem ahp {p1:Blk×Unit→Bool} {f1:Blk×Unit→Bool×Unit} (hp1:∀b,b.ops.length<1000000000→p1 (b,())=true) (hf1:∀b,b.ops.length<1000000000→f1 (b,())=(bp (cu b),())) {p2:IOp×List Int×Unit→Bool} {f2:IOp×List Int×Unit→IOp×Unit} (hp2:∀o al,(1≤o.kind∧o.kind≤8)→(hX o→0≤o.x∧o.x< (al.length:Int))→(hY o→0≤o.y∧o.y< (al.length:Int))→p2 (o,al,())=true) (hf2:∀o al,(1≤o.kind∧o.kind≤8)→(hX o→0≤o.x∧o.x< (al.length:Int))→(hY o→0≤o.y∧o.y< (al.length:Int))→f2 (o,al,())=(ren al o,())) {p3:Blk×Unit→Bool} {f3:Blk×Unit→Int×Int×Int×Int×Int×Int×List IOp×Unit} (hp3:∀b,b.ops.length<1000000→p3 (b,())=true) (hf3:∀b,b.ops.length<1000000→f3 (b,())=(b.pc,b.len,b.fin,b.x,b.y,b.k,b.ops,())) (b:Blk) (hb:b.ops.length<1000000):PN (std 0) p1 f1 p2 f2 p3 f3 (b,()) (fun y=>y=bk7 (aL b)):=by
 dsimp only [PN,Alg.cl,Alg.cg,Alg.rb,Alg.bd,Alg.l1,Tup.q,Tup.o]
 simp (disch:=omega) only [RR,RB,hp1 b (by omega),hf1 b (by omega),hp3 b hb,hf3 b hb,Gu]
 unfold aL
 refine⟨fun h=>by rw [h,if_neg (by decide)];rfl,fun h=> ?_⟩
 have ok:=bL.1 h
 rw [if_pos h]
 have n48:=ok.sz
 refine ay (fun(y:Int×Int×Int×Int×Int×Int×Int×Int×Int×Int×Int×Int×Int×List Int×List Int×List IOp×Unit)=>0≤y.1∧y.1≤b.ops.length∧y.2.2.2.2.2.2.2=(b.pc,b.len,b.fin,b.x,b.y,b.k,(cpS b.ops y.1.toNat).1,(cpS b.ops y.1.toNat).2,(b.ops.take y.1.toNat).map (ren (cpS b.ops b.ops.length).1)++b.ops.drop y.1.toNat,())) (fun y=>((b.ops.length:Int)-y.1).toNat) ⟨by dsimp only;omega,by dsimp only;omega,rfl⟩ ?_
 rintro⟨(k:Int),u1,u2,u3,u4,u5,u6,b1,b2,b3,b4,b5,b6,(al:List Int),(la:List Int),(ops:List IOp),⟨⟩⟩ hI
 dsimp only at hI ⊢
 simp only [Prod.mk.injEq,and_true]at hI
 obtain⟨h1,h2,rfl,rfl,rfl,rfl,rfl,rfl,rfl,rfl,rfl⟩:=hI
 obtain⟨l1,l2⟩:=jH b.ops k.toNat
 have r:=fun h:k<b.ops.length=>aho (ops:=b.ops) (k:=k.toNat) (n:=b.ops.length) (by rw [show((k.toNat:Nat):Int)=k by omega];exact ok.op k h1 h) (by omega)
 have fl:((b.ops.take k.toNat).map (ren (cpS b.ops b.ops.length).1)).length=k.toNat:=by rw [List.length_map,List.length_take];omega
 have ln:=BP (l:=b.ops) fl (by omega)
 have ek:=fun h:k<b.ops.length=>Rw (d:=default) (l:=b.ops) fl (by omega)
 have ms:=fun x (h:k<b.ops.length)=>BO (x:=x) (l:=b.ops) fl (by omega)
 have tk:=fun h:k<b.ops.length=>(iG (d:=default) (l:=b.ops) h1 h rfl)
 have nx:k<b.ops.length→cpS b.ops (k+1).toNat=((cpS b.ops k.toNat).1++ [cpN (cpS b.ops k.toNat) k ((b.ops).getD (k).toNat default)],cpL (cpS b.ops k.toNat) k ((b.ops).getD (k).toNat default)):=fun h=>by
  rw [show(k+1).toNat=k.toNat+1 by omega,show k=((k.toNat:Nat):Int) by omega];rfl
 have fin:¬k<b.ops.length→cpS b.ops k.toNat=cpS b.ops b.ops.length:=fun h=>by rw [show k.toNat=b.ops.length by omega]
 have en:=ok.en
 by_cases h:k<b.ops.length
 ·have o:=ok.op k h1 h
  have r:=r h
  have ek:=ek h
  have nx:=nx h
  have ms:=fun x=>ms x h
  have tk:=tk h
  have a2:hX (((b.ops).getD (k).toNat default))→0≤(((b.ops).getD (k).toNat default)).x∧(((b.ops).getD (k).toNat default)).x< ((cpS b.ops k.toNat).1.length:Int):=fun c=>⟨(o.x1 c).1,by have:=(o.x1 c).2.1;omega⟩
  have a3:hY (((b.ops).getD (k).toNat default))→0≤(((b.ops).getD (k).toNat default)).y∧(((b.ops).getD (k).toNat default)).y< ((cpS b.ops k.toNat).1.length:Int):=fun c=>⟨(o.y1 c).1,by have:=(o.y1 c).2.1;omega⟩
  have P:=hp2 _ _ o.kd a2 a3
  have F:=hf2 _ _ o.kd a2 a3
  have kd:=o.k2
  have rx:(((b.ops).getD (k).toNat default)).kind=8→(ren (cpS b.ops b.ops.length).1 ((b.ops).getD (k).toNat default)).x=(((cpS b.ops k.toNat).1).getD ((((b.ops).getD (k).toNat default)).x).toNat default):=fun c=>by rw [←r];exact if_pos (by unfold hX;omega)
  rw [r]at F
  generalize hN:(cpS b.ops b.ops.length).1=N at*
  generalize hT:cpS b.ops (k+1).toNat=T at nx ⊢
  generalize cpS b.ops k.toNat=S at*
  simp (disch:=omega) only [RR,RB,ln,ek,P,F,ms,List.length_append,List.length_cons,List.length_nil,List.length_set,Gu,h]
  generalize hq:((b.ops).getD (k).toNat default)=q at*
  have rk:(ren N q).kind=q.kind:=rfl
  have rkk:(ren N q).k=q.k:=rfl
  generalize hR:ren N q=R at*
  have G:∀v w,v=cpN S k q→w=cpL S k q→(b.pc,b.len,b.fin,b.x,b.y,b.k,S.1++ [v],w,((b.ops.take k.toNat).map (ren N)++ [R])++b.ops.drop (k.toNat+1),())=(b.pc,b.len,b.fin,b.x,b.y,b.k,T.1,T.2,(b.ops.take (k+1).toNat).map (ren N)++b.ops.drop (k+1).toNat,()):=fun v w e1 e2=>by
   rw [nx,e1,e2,←tk,List.map_append,show(k+1).toNat=k.toNat+1 by omega,←hR];rfl
  have ss:∀i:Int,0≤i→i<S.2.length→S.2.set i.toNat ((S.2).getD (i).toNat default)=S.2:=fun i i0 i1=>by rw [getD_lt (show i.toNat<S.2.length by omega),List.set_getElem_self]
  by_cases c2:R.kind=2
  ·have kk:=kd (Or.inl (rk▸c2))
   by_cases c3:0≤((S.2).getD (R.k).toNat default)
   ·have g:=G (((S.2).getD (R.k).toNat default)) (S.2.set R.k.toNat ((S.2).getD (R.k).toNat default)) (by unfold cpN;rw [←rk,←rkk];rw [if_pos ⟨c2,c3⟩]) (by unfold cpL;rw [←rk,←rkk];rw [if_pos c2,if_pos c3,ss _ (by omega) (by omega)])
    simp only [c2,c3,show¬((2:Int)=8) by decide,true_and,and_true,true_implies,false_implies,not_true_eq_false,not_false_eq_true,false_or,decide_true,Bool.and_self,Bool.true_eq_false,hT,g]
    omega
   ·have g:=G k (S.2.set R.k.toNat k) (by unfold cpN;rw [←rk,←rkk];rw [if_neg (fun q=>c3 q.2)]) (by unfold cpL;rw [←rk,←rkk];rw [if_pos c2,if_neg c3])
    simp only [c2,c3,show¬((2:Int)=8) by decide,true_and,and_true,and_false,true_implies,false_implies,not_true_eq_false,not_false_eq_true,false_or,decide_true,decide_false,Bool.and_false,hT,g]
    omega
  ·by_cases c8:R.kind=8
   ·have kk:=kd (Or.inr (rk▸c8))
    have g:=G k (S.2.set R.k.toNat ((S.1).getD (q.x).toNat default)) (by unfold cpN;rw [←rk,←rkk];rw [if_neg (fun q=>c2 q.1)]) (by unfold cpL;rw [←rk,←rkk];rw [if_neg c2,if_pos c8])
    rw [←rx (rk▸c8)]at g
    simp only [c8,show¬((8:Int)=2) by decide,false_and,true_and,and_true,and_false,true_implies,false_implies,not_true_eq_false,not_false_eq_true,true_or,decide_false,Bool.false_and,hT,g]
    omega
   ·have g:=G k S.2 (by unfold cpN;rw [←rk,←rkk];rw [if_neg (fun q=>c2 q.1)]) (by unfold cpL;rw [←rk,←rkk];rw [if_neg c2,if_neg c8])
    simp only [c2,c8,false_and,true_and,and_true,and_false,true_implies,false_implies,not_true_eq_false,not_false_eq_true,true_or,decide_false,Bool.false_and,hT,g]
    omega
 ·have e:=fin h
  have ex:¬b.fin=1→0≤b.x∧b.x< ((cpS b.ops k.toNat).1.length:Int):=fun c=>by have:=en.x1 c;exact⟨this.1,by have:=this.2.1;omega⟩
  have ey:b.fin=3∨b.fin=4→0≤b.y∧b.y< ((cpS b.ops k.toNat).1.length:Int):=fun c=>by have:=en.y1 (by omega);exact⟨this.1,by have:=this.2.1;omega⟩
  have ff:=en.f
  have z:(b.ops.take k.toNat).map (ren (cpS b.ops b.ops.length).1)++b.ops.drop k.toNat=b.ops.map (ren (cpS b.ops b.ops.length).1):=by rw [List.take_of_length_le (by omega),List.drop_of_length_le (by omega),List.append_nil]
  have ln:(b.ops.map (ren (cpS b.ops b.ops.length).1)).length=b.ops.length:=List.length_map _
  rw [z]
  rw [e]at ex ey ⊢
  unfold bk7 NZ
  generalize (cpS b.ops b.ops.length).1=N at*
  simp (disch:=omega) only [RR,RB,ln,h]
  refine⟨fun c=>⟨(ex c).1,(ex c).2,(ex c).1,(ex c).2,fun c2=>⟨(ey c2).1,(ey c2).2,(ey c2).1,(ey c2).2,?_⟩,fun c2=> ?_⟩,fun c=>⟨fun c2=>absurd c2 (by omega),fun c2=> ?_⟩⟩
  ·rw [if_neg c,if_pos (by omega)]
  ·rw [if_neg c,if_neg (by omega)]
  ·rw [if_pos c,if_neg (by omega)]
end Go.TX.F
namespace Go.TX.F
open Go Go.AE Go.TX
structure BkD (m:Int) (n:Nat) (b:List Int) (p:Int) (y:Int×Int×Int×Int×Int×Int×List Int×Int×List IOp×Unit):Prop where
 b:y.2.2.2.2.2.2.1=b
 lo:p≤y.2.2.2.2.2.2.2.1
 hi:y.2.2.2.2.2.2.2.1≤p+m
 len:y.2.2.2.2.2.2.2.2.1.length≤n
theorem ahq {p1:Int×List Ins×Unit→Bool} {f1:Int×List Ins×Unit→Int×Int×Int×Int×Int×Int×List IOp×Unit} (hp1:∀pc l,(l.length:Int)<1000→KB l→p1 (pc,l,())=true) (hf1:∀pc l,(l.length:Int)<1000→KB l→((f1 (pc,l,())).2.2.2.2.2.2.1.length:Int)≤5000) {p2:Blk×Unit→Bool} {f2:Blk×Unit→Int×Int×Int×Int×Int×Int×List IOp×Unit} (hp2:∀b,b.ops.length<1000000→p2 (b,())=true) (hf2:∀b,b.ops.length<1000000→f2 (b,())=bk7 (Rs b)) {p3:Blk×Unit→Bool} {f3:Blk×Unit→Int×Int×Int×Int×Int×Int×List IOp×Unit} (hp3:∀b,b.ops.length<1000000→p3 (b,())=true) (hf3:∀b,b.ops.length<1000000→f3 (b,())=bk7 (aL b)) {p4:Int×List Int×Int×Unit→Bool} {f4:Int×List Int×Int×Unit→Int×List Int×Int×Unit} (hp4:∀n b p,Bt b→0≤p→p<1000000000→p4 (n,b,p,())=true) (hf4:∀n b p,Bt b→0≤p→p<1000000000→Pk n b p (f4 (n,b,p,()))) {p5:List Int×Int×Unit→Bool} {f5:List Int×Int×Unit→List Int×Int×List Ins×Unit} (hp5:∀b p,Bt b→0≤p→p<700000000→p5 (b,p,())=true) (hf5:∀b p,Bt b→0≤p→p<700000000→LiD b p (f5 (b,p,()))) (b:List Int) (p:Int) (hb:Bt b) (h1:0≤p) (h2:p<600000000):QF (std 0) p1 f1 p2 f2 p3 f3 p4 f4 p5 f5 (b,p,()) (fun y=>BkD 2000 5000 b p y):=by
 replace hf2:=fun c h=>show(f2 (c,())).2.2.2.2.2.2.1.length≤c.ops.length by rw [hf2 c h];exact Vz c
 replace hf3:=fun c h=>show(f3 (c,())).2.2.2.2.2.2.1.length≤c.ops.length by rw [hf3 c h];exact rz c
 obtain⟨a1,a2,a3,a4,a5⟩:=hf5 b p hb h1 (by omega)
 have R:=pkR hb hf4
 have P:=fun n p h1 h2=>hp4 n b p hb h1 h2
 have L:=fun pc=>hf1 pc _ (show((f5 (b,p,())).2.2.1.length:Int)<1000 by omega) a5
 have O1:=fun c (h:c.ops.length≤5000)=>hp2 c (by omega)
 have O2:=fun c (h:c.ops.length≤5000)=>hf2 c (by omega)
 have O3:=fun c (h:c.ops.length≤5000)=>hp3 c (by omega)
 have O4:=fun c (h:c.ops.length≤5000)=>hf3 c (by omega)
 dsimp only [QF,Alg.cl,Alg.cg,Alg.rb,Alg.bd,Alg.l1,Tup.q,Tup.o]
 simp (disch:=omega) only [RR,hp5 b p hb h1 (by omega),a1,R,P,hp1 _ _ (show((f5 (b,p,())).2.2.1.length:Int)<1000 by omega) a5,List.length_cons,List.length_nil]
 have L':∀pc,(f1 (pc,(f5 (b,p,())).2.2.1,())).2.2.2.2.2.2.1.length≤5000:=fun pc=>by have:=L pc;omega
 refine⟨fun _=>⟨O1 _ (L' _),rfl,by dsimp only;omega,by dsimp only;omega,Nat.le_trans (O2 _ (L' _)) (L' _)⟩,fun _=>⟨fun _=>⟨O3 _ (L' _),rfl,by dsimp only;omega,by dsimp only;omega,Nat.le_trans (O4 _ (L' _)) (L' _)⟩,fun _=>⟨rfl,by dsimp only;omega,by dsimp only;omega,L' _⟩⟩⟩
end Go.TX.F
namespace Go.TX.F
open Go Go.AE Go.TX
theorem ahr {p1:Int×List Int×Int×Unit→Bool} {f1:Int×List Int×Int×Unit→Int×List Int×Int×Unit} (hp1:∀n b p,Bt b→0≤p→p<1000000000→p1 (n,b,p,())=true) (hf1:∀n b p,Bt b→0≤p→p<1000000000→Pk n b p (f1 (n,b,p,()))) {p2:Blk×Unit→Bool} {f2:Blk×Unit→Int×Int×Int×Int×Int×Int×List IOp×Unit} (hp2:∀b,b.ops.length<1000000→p2 (b,())=true) (hf2:∀b,b.ops.length<1000000→f2 (b,())=(b.pc,b.len,b.fin,b.x,b.y,b.k,b.ops,())) (c:Blk) (b:List Int) (p:Int) (hc:c.ops.length<1000000) (hb:Bt b) (h1:0≤p) (h2:p<900000000):JU (std 0) p1 f1 p2 f2 (c,b,p,()) (fun y=>BkD 20 c.ops.length b p y):=by
 have R:=pkR hb hf1
 have P:=fun n p h1 h2=>hp1 n b p hb h1 h2
 by_cases z:(c.ops.length:Int)=0
 ·dsimp only [JU,Alg.cl,Alg.cg,Alg.rb,Alg.bd,Alg.l1,Tup.q,Tup.o]
  simp (disch:=omega) only [RR,RB,hp2 c hc,hf2 c hc,z]
  exact⟨rfl,by dsimp only;omega,by dsimp only;omega,Nat.le_refl _⟩
 have B:=(hf1 c.ops.length b p hb h1 (by omega)).2.2
 have W:IntKind.i64.wrap ((f1 (c.ops.length,b,p,())).1-1)=(f1 (c.ops.length,b,p,())).1-1:=w64 (by omega) (by omega)
 dsimp only [JU,Alg.cl,Alg.cg,Alg.rb,Alg.bd,Alg.l1,Tup.q,Tup.o]
 simp (disch:=omega) only [RR,RB,hp2 c hc,hf2 c hc,R,P,z,List.length_set,W]
 repeat' (first | (refine And.intro ?_ ?_) | intro _)
 all_goals first | omega | exact⟨rfl,by dsimp only;omega,by dsimp only;omega,by dsimp only [YI];simp only [List.length_set,List.length_take,List.length_drop];omega⟩ | exact⟨rfl,by dsimp only;omega,by dsimp only;omega,by simp only [List.length_drop,List.length_take];omega⟩ | exact⟨rfl,by dsimp only;omega,by dsimp only;omega,Nat.le_refl _⟩
structure BoD (b:List Int) (p:Int) (y:Blk×List Int×Int×Unit):Prop where
 len:y.1.ops.length<100000
 b:y.2.1=b
 lo:p≤y.2.2.1
 hi:y.2.2.1≤p+5000
theorem ahs {p1:Int×List Int×Int×Unit→Bool} {f1:Int×List Int×Int×Unit→Bool×List Int×Int×Unit} (hp1:∀n b p,Bt b→0≤p→p<1000000000→p1 (n,b,p,())=true) (hf1:∀n b p,Bt b→0≤p→p<1000000000→(f1 (n,b,p,())).2.1=b∧(f1 (n,b,p,())).2.2.1=p+1) {p2:Int×List Int×Int×Unit→Bool} {f2:Int×List Int×Int×Unit→Int×List Int×Int×Unit} (hp2:∀n b p,Bt b→0≤p→p<1000000000→p2 (n,b,p,())=true) (hf2:∀n b p,Bt b→0≤p→p<1000000000→Pk n b p (f2 (n,b,p,()))) {p3:Blk×List Int×Int×Unit→Bool} {f3:Blk×List Int×Int×Unit→Int×Int×Int×Int×Int×Int×List Int×Int×List IOp×Unit} (hp3:∀c b p,c.ops.length<1000000→Bt b→0≤p→p<900000000→p3 (c,b,p,())=true) (hf3:∀c b p,c.ops.length<1000000→Bt b→0≤p→p<900000000→BkD 20 c.ops.length b p (f3 (c,b,p,()))) {p4:List Int×Int×Unit→Bool} {f4:List Int×Int×Unit→Int×Int×Int×Int×Int×Int×List Int×Int×List IOp×Unit} (hp4:∀b p,Bt b→0≤p→p<600000000→p4 (b,p,())=true) (hf4:∀b p,Bt b→0≤p→p<600000000→BkD 2000 5000 b p (f4 (b,p,()))) (n:Int) (b:List Int) (p:Int) (hb:Bt b) (h1:0≤p) (h2:p<500000000):QG (std 0) p1 f1 p2 f2 p3 f3 p4 f4 (n,b,p,()) (fun y=>BoD b p y):=by
 obtain⟨a1,a2,a3,a4⟩:=hf4 b p hb h1 (by omega)
 have H4:=hp4 b p hb h1 (by omega)
 have R:=pkR hb hf2
 have P:=fun n p h1 h2=>hp2 n b p hb h1 h2
 have R1:=fun n p h1 h2=>(hf1 n b p hb h1 h2).1
 have R2:=fun n p h1 h2=>(hf1 n b p hb h1 h2).2
 have P1:=fun n p h1 h2=>hp1 n b p hb h1 h2
 dsimp only [QG,Alg.cl,Alg.cg,Alg.rb,Alg.bd,Alg.l1,Tup.q,Tup.o]
 simp (disch:=omega) only [RR,RB,H4,a1,R,P,R1,R2,P1,List.length_cons,List.length_nil,List.length_append]
 repeat' (first | (refine And.intro ?_ ?_) | intro _)
 all_goals try omega
 all_goals try exact BoD.mk (show(f4 (b,p,())).2.2.2.2.2.2.2.2.1.length<100000 by omega) rfl (by dsimp only;omega) (by dsimp only;omega)
 all_goals try exact hp3 _ _ _ (show(f4 (b,p,())).2.2.2.2.2.2.2.2.1.length<1000000 by omega) hb (by omega) (by omega)
 all_goals try exact BoD.mk (show(_++ [_]).length<100000 by rw [List.length_append,List.length_singleton];omega) rfl (by dsimp only;omega) (by dsimp only;omega)
 all_goals try exact(fun h=>BoD.mk (Nat.lt_of_le_of_lt h.len (show(f4 (b,p,())).2.2.2.2.2.2.2.2.1.length<100000 by omega)) h.b (by have:=h.lo;dsimp only;omega) (by have:=h.hi;dsimp only;omega)) (hf3 _ _ _ (show(f4 (b,p,())).2.2.2.2.2.2.2.2.1.length<1000000 by omega) hb (by omega) (by omega))
 all_goals
  refine ay (fun(y:List Int×Int×Int×Int×Int×Int×Int×Int×Int×Int×Int×Int×Int×Int×List IOp×Unit)=>y.1=b∧p≤y.2.1∧y.2.1≤p+5000∧y.2.2.2.2.2.2.2.2.2.2.2.2.2.2.1.length<50000) (fun y=>50-y.2.2.2.2.2.2.2.2.2.2.2.2.2.2.1.length) ⟨rfl,by dsimp only;omega,by dsimp only;omega,by dsimp only;omega⟩ ?_
  rintro⟨(b':List Int),(q:Int),u1,u2,u3,u4,u5,u6,b1,b2,b3,b4,b5,b6,(ops:List IOp),⟨⟩⟩ hI
  dsimp only at hI ⊢
  obtain⟨rfl,h3,h4,h5⟩:=hI
  simp (disch:=omega) only [RR,List.length_append,List.length_cons,List.length_nil]
  refine⟨fun h=>⟨by omega,⟨by omega,by omega,by omega⟩,by omega⟩,fun h=>⟨show ops.length<100000 by omega,rfl,by dsimp only;omega,by dsimp only;omega⟩⟩
end Go.TX.F
namespace Go.TX.F
open Go Go.AE Go.TX
end Go.TX.F
namespace Go.TX.F
open Go Go.AE Go.TX
end Go.TX.F
namespace Go.TX.F
open Go Go.AE Go.TX
end Go.TX.F
namespace Go.TX.F
open Go Go.AE Go.TX
theorem ab7 (x y:IOp):ajA .iop x y=decide (x=y):=rfl
theorem Rx {P:Prop} [Decidable P]:decide P=bp P:=by unfold bp;congr
theorem Zp (a b:List IOp) (ha:a.length<1000000000):QJ (std 0) (a,b,()) (fun y=>y=(bp (a=b),())):=by
 dsimp only [QJ,Alg.cl,Alg.cg,Alg.rb,Alg.bd,Alg.l1,Tup.q,Tup.o]
 simp (disch:=omega) only [RR]
 refine⟨fun h=> ?_,fun h=> ?_⟩
 ·rw [gV (fun e=>h (by rw [e]))]
 have hl:a.length=b.length:=by omega
 refine ay (fun(y:List IOp×List IOp×Int×Int×Unit)=>y.1=a∧y.2.1=b∧y.2.2.1=a.length∧0≤y.2.2.2.1∧y.2.2.2.1≤a.length∧All y.2.2.2.1 (fun i=>a.getD i.toNat default=b.getD i.toNat default)) (fun y=>(a.length-y.2.2.2.1).toNat) ⟨rfl,rfl,rfl,by simp,by simp,All.zero⟩ ?_
 rintro⟨(l1:List IOp),(l2:List IOp),(n:Int),(i:Int),⟨⟩⟩ hI
 dsimp only at hI ⊢
 obtain⟨rfl,rfl,rfl,h1,h2,h3⟩:=hI
 simp (disch:=omega) only [RR,ab7]
 refine⟨fun h4=>⟨by omega,by omega,by omega,by omega,fun h5=> ?_,fun h5=>⟨⟨by omega,by omega,h3.snoc h5⟩,by omega⟩⟩,fun h4=> ?_⟩
 ·rw [gV]
  intro e;rw [e]at h5;exact h5 rfl
 ·rw [dK (BJ hl (h3.le (by omega)))]
theorem anQ {p1:List IOp×List IOp×Unit→Bool} {f1:List IOp×List IOp×Unit→Bool×Unit} (hp1:∀a b,a.length<1000000000→p1 (a,b,())=true) (hf1:∀a b,a.length<1000000000→f1 (a,b,())=(bp (a=b),())) (a b:Blk) (ha:a.ops.length<1000000000):Xo (std 0) p1 f1 (a,b,()) (fun y=>y=(bp (a=b),())):=by
 dsimp only [Xo,Alg.cl,Alg.cg,Alg.rb,Alg.bd,Alg.l1,Tup.q,Tup.o]
 simp (disch:=omega) only [RR,RB,hp1 _ _ ha,hf1 _ _ ha]
 simp only [Rx,←uo]
 refine Prod.ext (uw ?_) rfl
 cases a;cases b;simp only [Blk.mk.injEq]
 constructor<;>(intro h;simp only [h,and_self])
theorem anR {p1:List aj×List aj×Unit→Bool} {f1:List aj×List aj×Unit→Bool×Unit} (hp1:∀a b,Sh a→p1 (a,b,())=true) (hf1:∀a b,Sh a→f1 (a,b,())=(decide (iM a b=0),())) (a b:List aj) (ha:Sh a):YA (std 0) p1 f1 (a,b,()) (fun y=>y=(decide (iM a b=0),())):=by
 dsimp only [YA,Alg.cl,Alg.cg,Alg.rb,Alg.bd,Alg.l1,Tup.q,Tup.o]
 simp (disch:=omega) only [RR,hp1 _ _ ha,hf1 _ _ ha]
theorem aht {p1:List aj×List aj×Unit→Bool} {f1:List aj×List aj×Unit→Bool×Unit} (hp1:∀a b,Sh a→p1 (a,b,())=true) (hf1:∀a b,Sh a→f1 (a,b,())=(decide (iM a b=0),())) (a b:List (List aj)) (ha:ShP a):Ra (std 0) p1 f1 (a,b,()) (fun y=>y=(bp (a=b),())):=by
 have hlen:=ha.1
 dsimp only [Ra,Alg.cl,Alg.cg,Alg.rb,Alg.bd,Alg.l1,Tup.q,Tup.o]
 simp (disch:=omega) only [RR]
 refine⟨fun h=> ?_,fun h=> ?_⟩
 ·rw [gV (fun e=>h (by rw [e]))]
 have hl:a.length=b.length:=by omega
 refine ay (fun(y:List (List aj)×List (List aj)×Int×Int×Unit)=>y.1=b∧y.2.1=a∧y.2.2.1=a.length∧0≤y.2.2.2.1∧y.2.2.2.1≤a.length∧All y.2.2.2.1 (fun i=>a.getD i.toNat default=b.getD i.toNat default)) (fun y=>(a.length-y.2.2.2.1).toNat) ⟨rfl,rfl,rfl,by simp,by simp,All.zero⟩ ?_
 rintro⟨(l1:List (List aj)),(l2:List (List aj)),(n:Int),(i:Int),⟨⟩⟩ hI
 dsimp only at hI ⊢
 obtain⟨rfl,rfl,rfl,h1,h2,h3⟩:=hI
 simp (disch:=omega) only [RR,hp1 _ _ (ha.at _),hf1 _ _ (ha.at _),lY]
 refine⟨fun h4=>⟨by omega,by omega,by omega,by omega,fun h5=> ?_,fun h5=>⟨⟨by omega,by omega,h3.snoc h5⟩,by omega⟩⟩,fun h4=> ?_⟩
 ·rw [gV]
  intro e;rw [e]at h5;exact h5 rfl
 ·rw [dK (BJ hl (h3.le (by omega)))]
theorem anS {p1:List (List aj)×List (List aj)×Unit→Bool} {f1:List (List aj)×List (List aj)×Unit→Bool×Unit} (hp1:∀a b,ShP a→p1 (a,b,())=true) (hf1:∀a b,ShP a→f1 (a,b,())=(bp (a=b),())) (a b:List (List aj)) (ha:ShP a):YB (std 0) p1 f1 (a,b,()) (fun y=>y=(bp (a=b),())):=by
 dsimp only [YB,Alg.cl,Alg.cg,Alg.rb,Alg.bd,Alg.l1,Tup.q,Tup.o]
 simp (disch:=omega) only [RR,hp1 _ _ ha,hf1 _ _ ha]
theorem anT {p1:List aj×List aj×Unit→Bool} {f1:List aj×List aj×Unit→Bool×Unit} (hp1:∀a b,Sh a→p1 (a,b,())=true) (hf1:∀a b,Sh a→f1 (a,b,())=(decide (iM a b=0),())) {p2:List (List aj)×List (List aj)×Unit→Bool} {f2:List (List aj)×List (List aj)×Unit→Bool×Unit} (hp2:∀a b,ShP a→p2 (a,b,())=true) (hf2:∀a b,ShP a→f2 (a,b,())=(bp (a=b),())) (a b:Ev) (ha:ShE a):YC (std 0) p1 f1 p2 f2 (a,b,()) (fun y=>y=(bp (a=b),())):=by
 dsimp only [YC,Alg.cl,Alg.cg,Alg.rb,Alg.bd,Alg.l1,Tup.q,Tup.o]
 simp (disch:=omega) only [RR,RB,hp1 _ _ ha.1,hf1 _ _ ha.1,hp1 _ _ ha.2.1,hf1 _ _ ha.2.1,hp2 _ _ ha.2.2,hf2 _ _ ha.2.2,lY]
 simp only [Rx,←uo]
 refine Prod.ext (uw ?_) rfl
 cases a;cases b;simp only [Ev.mk.injEq]
 constructor<;>(intro h;simp only [h,and_self])
theorem ahu {p1:Ev×Ev×Unit→Bool} {f1:Ev×Ev×Unit→Bool×Unit} (hp1:∀a b,ShE a→p1 (a,b,())=true) (hf1:∀a b,ShE a→f1 (a,b,())=(bp (a=b),())) (a b:List Ev) (ha:Vw a):Rb (std 0) p1 f1 (a,b,()) (fun y=>y=(bp (a=b),())):=by
 have hlen:=ha.1
 dsimp only [Rb,Alg.cl,Alg.cg,Alg.rb,Alg.bd,Alg.l1,Tup.q,Tup.o]
 simp (disch:=omega) only [RR]
 refine⟨fun h=> ?_,fun h=> ?_⟩
 ·rw [gV (fun e=>h (by rw [e]))]
 have hl:a.length=b.length:=by omega
 refine ay (fun(y:List Ev×List Ev×Int×Int×Unit)=>y.1=b∧y.2.1=a∧y.2.2.1=a.length∧0≤y.2.2.2.1∧y.2.2.2.1≤a.length∧All y.2.2.2.1 (fun i=>a.getD i.toNat default=b.getD i.toNat default)) (fun y=>(a.length-y.2.2.2.1).toNat) ⟨rfl,rfl,rfl,by simp,by simp,All.zero⟩ ?_
 rintro⟨(l1:List Ev),(l2:List Ev),(n:Int),(i:Int),⟨⟩⟩ hI
 dsimp only at hI ⊢
 obtain⟨rfl,rfl,rfl,h1,h2,h3⟩:=hI
 simp (disch:=omega) only [RR,hp1 _ _ (ha.at _),hf1 _ _ (ha.at _),bL,rO]
 refine⟨fun h4=>⟨by omega,by omega,by omega,by omega,fun h5=> ?_,fun h5=>⟨⟨by omega,by omega,h3.snoc h5⟩,by omega⟩⟩,fun h4=> ?_⟩
 ·rw [gV]
  intro e;rw [e]at h5;exact h5 rfl
 ·rw [dK (BJ hl (h3.le (by omega)))]
theorem anU {p1:List aj×List aj×Unit→Bool} {f1:List aj×List aj×Unit→Bool×Unit} (hp1:∀a b,Sh a→p1 (a,b,())=true) (hf1:∀a b,Sh a→f1 (a,b,())=(decide (iM a b=0),())) {p2:List (List aj)×List (List aj)×Unit→Bool} {f2:List (List aj)×List (List aj)×Unit→Bool×Unit} (hp2:∀a b,ShP a→p2 (a,b,())=true) (hf2:∀a b,ShP a→f2 (a,b,())=(bp (a=b),())) {p3:List Ev×List Ev×Unit→Bool} {f3:List Ev×List Ev×Unit→Bool×Unit} (hp3:∀b a,Vw b→p3 (b,a,())=true) (hf3:∀b a,Vw b→f3 (b,a,())=(bp (b=a),())) (a b:Sym) (ha:ShY a):YF (std 0) p1 f1 p2 f2 p3 f3 (a,b,()) (fun y=>y=(bp (a=b),())):=by
 dsimp only [YF,Alg.cl,Alg.cg,Alg.rb,Alg.bd,Alg.l1,Tup.q,Tup.o]
 simp (disch:=omega) only [RR,RB,hp1 _ _ ha.x,hf1 _ _ ha.x,hp1 _ _ ha.y,hf1 _ _ ha.y,hp2 _ _ ha.r,hf2 _ _ ha.r,hp3 _ _ ha.e,hf3 _ _ ha.e,lY]
 simp only [Rx,←uo]
 refine Prod.ext (uw ?_) rfl
 cases a;cases b;simp only [Sym.mk.injEq]
 constructor<;>(intro h;simp only [h,and_self])
theorem anV {p1:Blk×Unit→Bool} {f1:Blk×Unit→Bool×Unit} (hp1:∀b,b.ops.length<1000000000→p1 (b,())=true) (hf1:∀b,b.ops.length<1000000000→f1 (b,())=(bp (cu b),())) {p2:Blk×Blk×Unit→Bool} {f2:Blk×Blk×Unit→Bool×Unit} (hp2:∀a b,a.ops.length<1000000000→p2 (a,b,())=true) (hf2:∀a b,a.ops.length<1000000000→f2 (a,b,())=(bp (a=b),())) {p3:Unit→Bool} {f3:Unit→List Atom×List (List aj)×Unit} (hp3:p3 ()=true) (hf3:(f3 ()).1=t4) {p4:List Atom×Blk×Unit→Bool} {f4:List Atom×Blk×Unit→List Atom×Sym×Unit} (hp4:∀t b,ShT t→b.ops.length<1000000000→p4 (t,b,())=true) (hf4:∀t b,ShT t→b.ops.length<1000000000→f4 (t,b,())=((bI t b).1,(bI t b).2,())) {p5:Sym×Sym×Unit→Bool} {f5:Sym×Sym×Unit→Bool×Unit} (hp5:∀a b,ShY a→p5 (a,b,())=true) (hf5:∀a b,ShY a→f5 (a,b,())=(bp (a=b),())) (b c:Blk) (hb:b.ops.length<1000000000) (hc:c.ops.length<1000000000):YG (std 0) p1 f1 p2 f2 p3 f3 p4 f4 p5 f5 (b,c,()) (fun y=>y=(chk b c,())):=by
 have s4:ShT t4:=Y9.1.sh
 have y1:=J9 t4 b
 dsimp only [YG,Alg.cl,Alg.cg,Alg.rb,Alg.bd,Alg.l1,Tup.q,Tup.o]
 simp (disch:=omega) only [RR,RB,hp1 b hb,hf1 b hb,hp1 c hc,hf1 c hc,hp2 b c hb,hf2 b c hb,hp3,hf3,hp4 t4 b s4 hb,hf4 t4 b s4 hb,hp4 _ c y1.2 hc,hf4 _ c y1.2 hc,hp5 _ _ y1.1,hf5 _ _ y1.1,bL,rO]
 unfold chk
 refine⟨fun h=> ?_,fun h=>⟨fun e=> ?_,fun e=> ?_⟩⟩
 ·rw [gV];rintro⟨h1,h2,h3,h4,_⟩;simp_all
 ·rw [dK];exact⟨h.1.1.1,h.1.1.2,h.1.2,h.2,Or.inl e⟩
 ·refine Prod.ext (uw ?_) rfl
  exact⟨fun g=>⟨h.1.1.1,h.1.1.2,h.1.2,h.2,Or.inr g⟩,fun g=>g.2.2.2.2.resolve_left e⟩
end Go.TX.F
namespace Go.TX.F
open Go Go.AE Go.TX
theorem mkB (p l o f x y k):Co.mk .blk (p,l,o,f,x,y,k,())=Blk.mk p l o f x y k:=rfl
structure abu (nm:List Int) (fin x y:Int) (ops:List IOp):Prop where
 op:∀i:Int,0≤i→i<ops.length→(hX ((ops).getD (i).toNat default)→0≤(((ops).getD (i).toNat default)).x∧(((ops).getD (i).toNat default)).x<nm.length)∧(hY ((ops).getD (i).toNat default)→0≤(((ops).getD (i).toNat default)).y∧(((ops).getD (i).toNat default)).y<nm.length)
 x:fin≠1→0≤x∧x<nm.length
 y:3≤fin→0≤y∧y<nm.length
 l:ops.length<1000000000
theorem ab8 (b:Blk) (hb:b.ops.length<1000000000):Xg (std 0) (b,()) (fun y=>y=bk7 b):=by
 dsimp only [Xg,Alg.cl,Alg.cg,Alg.rb,Alg.bd,Alg.l1,Tup.q,Tup.o]
 simp (disch:=omega) only [RR,RB]
 omega
theorem anW {p1:Blk×Unit→Bool} {f1:Blk×Unit→Bool×Bool×Bool×Unit} (hp1:∀b,p1 (b,())=true) (hf1:∀b,f1 (b,())=(decide (b.fin≠1),decide (3≤b.fin),decide (b.fin≠2),())) {p2:IOp×Unit→Bool} {f2:IOp×Unit→Bool×Bool×Bool×Bool×Unit} (hp2:∀o,p2 (o,())=true) (hf2:∀o,f2 (o,())=(decide (hX o),decide (hY o),decide (hK o),decide (evO o),())) (nm:List Int) (pc len fin x y k:Int) (ops:List IOp) (h:abu nm fin x y ops):Xh (std 0) p1 f1 p2 f2 (nm,pc,len,fin,x,y,k,ops,()) (fun z=>z=(pc,len,fin,(if fin=1 then x else((nm).getD (x).toNat default)),(if 3≤fin then((nm).getD (y).toNat default)else y),k,ops.map (ren nm),())):=by
 have hl:=h.l
 dsimp only [Xh,Alg.cl,Alg.cg,Alg.rb,Alg.bd,Alg.l1,Tup.q,Tup.o]
 simp (disch:=omega) only [RR,RB]
 refine ay (fun(z:List Int×Int×Int×Int×Int×Int×Int×Int×Int×List IOp×Unit)=>z.1=nm∧z.2.1=ops.length∧0≤z.2.2.1∧z.2.2.1≤ops.length∧z.2.2.2=(pc,len,fin,x,y,k,(ops.take z.2.2.1.toNat).map (ren nm)++ops.drop z.2.2.1.toNat,())) (fun z=>((ops.length:Int)-z.2.2.1).toNat) ⟨rfl,rfl,by dsimp only;omega,by dsimp only;omega,rfl⟩ ?_
 rintro⟨(nm':List Int),(n:Int),(i:Int),(pc':Int),(len':Int),(fin':Int),(x':Int),(y':Int),(k':Int),(ops':List IOp),⟨⟩⟩ hI
 dsimp only at hI ⊢
 simp only [Prod.mk.injEq,and_true]at hI
 obtain⟨rfl,rfl,h1,h2,rfl,rfl,rfl,rfl,rfl,rfl,rfl⟩:=hI
 have fl:((ops.take i.toNat).map (ren nm')).length=i.toNat:=by rw [List.length_map,List.length_take];omega
 have ln:=BP (l:=ops) fl (by omega)
 by_cases c:i<ops.length
 ·obtain⟨ox,oy⟩:=h.op i h1 c
  have ek:=Rw (d:=default) (l:=ops) fl (by omega)
  have ms:=fun q=>BO (x:=q) (l:=ops) fl (by omega)
  have mk:=Oc (d:=default) (f:=(ops.take i.toNat).map (ren nm')) (l:=ops) (k:=i.toNat) (by omega)
  have tk:=iG (d:=default) (l:=ops) h1 c rfl
  have m2:∀q:IOp,(((ops.take i.toNat).map (ren nm')++ [q])++ops.drop (i.toNat+1)).getD i.toNat default=q:=fun q=>by
   rw [getD_lt (by rw [List.length_append,List.length_append,fl];simp only [List.length_cons,List.length_nil];omega),List.getElem_append_left (by rw [List.length_append,fl];simp),List.getElem_append_right (by omega)];simp only [fl,Nat.sub_self,List.getElem_cons_zero]
  have m3:∀q r:IOp,(((ops.take i.toNat).map (ren nm')++ [q])++ops.drop (i.toNat+1)).set i.toNat r=((ops.take i.toNat).map (ren nm')++ [r])++ops.drop (i.toNat+1):=fun q r=>by
   rw [List.set_append_left _ _ (by rw [List.length_append,fl];simp),List.set_append_right _ _ (by omega),fl,Nat.sub_self];rfl
  have m4:∀q:IOp,(((ops.take i.toNat).map (ren nm')++ [q])++ops.drop (i.toNat+1)).length=ops.length:=fun q=>by
   rw [List.length_append,List.length_append,fl,List.length_drop];simp only [List.length_cons,List.length_nil];omega
  rw [mk]at ek ln ms ⊢
  generalize ((ops).getD (i).toNat default)=o at*
  simp (disch:=omega) only [RR,RB,hp2,hf2,m2,m3,m4,c]
  have G:∀q:IOp,q=ren nm' o→(pc',len',fin',x',y',k',(ops.take i.toNat).map (ren nm')++ [q]++ops.drop (i.toNat+1),())=(pc',len',fin',x',y',k',(ops.take (i+1).toNat).map (ren nm')++ops.drop (i+1).toNat,()):=fun q e=>by
   rw [e,←tk,List.map_append,show(i+1).toNat=i.toNat+1 by omega];rfl
  refine⟨h1,h1,fun d=>⟨(ox d).1,(ox d).2,h1,h1,fun e=>⟨(oy e).1,(oy e).2,h1,h1,⟨by omega,by omega,G _ ?_⟩,by omega⟩,fun e=>⟨⟨by omega,by omega,G _ ?_⟩,by omega⟩⟩,fun d=>⟨fun e=>⟨(oy e).1,(oy e).2,h1,h1,⟨by omega,by omega,G _ ?_⟩,by omega⟩,fun e=>⟨⟨by omega,by omega,G _ ?_⟩,by omega⟩⟩⟩
  all_goals unfold ren
  ·rw [if_pos d,if_pos e]
  ·rw [if_pos d,if_neg e]
  ·rw [if_neg d,if_pos e]
  ·rw [if_neg d,if_neg e]
 ·have hx:=h.x
  have hy:=h.y
  have z:(ops.take i.toNat).map (ren nm')++ops.drop i.toNat=ops.map (ren nm'):=by rw [List.take_of_length_le (by omega),List.drop_of_length_le (by omega),List.append_nil]
  rw [z]
  simp (disch:=omega) only [RR,RB,hp1,hf1,c,mkB]
  refine⟨fun d=>⟨(hx d).1,(hx d).2,fun e=>⟨(hy e).1,(hy e).2,?_⟩,fun e=> ?_⟩,fun d=>⟨fun e=>⟨(hy e).1,(hy e).2,?_⟩,fun e=> ?_⟩⟩
  ·rw [if_neg (show¬fin'=1 from d),if_pos (show 3≤fin' from e)]
  ·rw [if_neg (show¬fin'=1 from d),if_neg (show¬3≤fin' from e)]
  ·rw [if_pos (show fin'=1 from Classical.byContradiction d),if_pos (show 3≤fin' from e)]
  ·rw [if_pos (show fin'=1 from Classical.byContradiction d),if_neg (show¬3≤fin' from e)]
end Go.TX.F
namespace Go.TX.F
open Go Go.AE Go.TX
theorem anX {p1:Blk×Unit→Bool} {f1:Blk×Unit→Int×Int×Int×Int×Int×Int×List IOp×Unit} (hp1:∀b,b.ops.length<1000000000→p1 (b,())=true) (hf1:∀b,b.ops.length<1000000000→f1 (b,())=bk7 b) {p2:List Int×Int×Int×Int×Int×Int×Int×List IOp×Unit→Bool} {f2:List Int×Int×Int×Int×Int×Int×Int×List IOp×Unit→Int×Int×Int×Int×Int×Int×List IOp×Unit} (hp2:∀(nm:List Int) pc len fin x y k ops,abu nm fin x y ops→p2 (nm,pc,len,fin,x,y,k,ops,())=true) (hf2:∀(nm:List Int) pc len fin x y k ops,abu nm fin x y ops→f2 (nm,pc,len,fin,x,y,k,ops,())=(pc,len,fin,(if fin=1 then x else((nm).getD (x).toNat default)),(if 3≤fin then((nm).getD (y).toNat default)else y),k,ops.map (ren nm),())) {p3:Blk×Unit→Bool} {f3:Blk×Unit→Bool×Unit} (hp3:∀b,b.ops.length<1000000000→p3 (b,())=true) (hf3:∀b,b.ops.length<1000000000→f3 (b,())=(bp (cu b),())) (b:Blk) (hb:b.ops.length<1000000):Xi (std 0) p1 f1 p2 f2 p3 f3 (b,()) (fun y=>y=(aL b,())):=by
 dsimp only [Xi,Alg.cl,Alg.cg,Alg.rb,Alg.bd,Alg.l1,Tup.q,Tup.o]
 simp (disch:=omega) only [RR,RB,hp1 b (by omega),hf1 b (by omega),hp3 b (by omega),hf3 b (by omega),Gu]
 refine⟨fun h=>by unfold aL;rw [h,if_neg (by decide)];rfl,fun h=> ?_⟩
 have ok:=bL.1 h
 rw [kL ok]
 have n48:=ok.sz
 refine⟨by omega,by omega,ay (fun(y:List IOp×Int×Int×Blk×Int×Int×Int×Int×Int×Int×List Int×List Int×Unit)=>y.1=b.ops∧y.2.1=b.ops.length∧0≤y.2.2.1∧y.2.2.1≤b.ops.length∧y.2.2.2.1=b∧y.2.2.2.2.2.2.2.2.2.2=((cpS b.ops y.2.2.1.toNat).1++(List.replicate b.ops.length (0:Int)).drop y.2.2.1.toNat,(cpS b.ops y.2.2.1.toNat).2,())) (fun y=>((b.ops.length:Int)-y.2.2.1).toNat) ⟨rfl,rfl,by dsimp only;omega,by dsimp only;omega,rfl,rfl⟩ ?_⟩
 rintro⟨(ops:List IOp),(n:Int),(k:Int),(b':Blk),u1,u2,u3,u4,u5,u6,(nm:List Int),(la:List Int),⟨⟩⟩ hI
 dsimp only at hI ⊢
 simp only [Prod.mk.injEq,and_true]at hI
 obtain⟨rfl,rfl,h1,h2,rfl,rfl,rfl⟩:=hI
 obtain⟨l1,l2⟩:=jH b'.ops k.toNat
 have rl:(List.replicate b'.ops.length (0:Int)).length=b'.ops.length:=List.length_replicate
 have ln:=BP (l:=List.replicate b'.ops.length (0:Int)) l1 (by omega)
 by_cases c:k<b'.ops.length
 ·have o:=ok.op k h1 c
  have nx:cpS b'.ops (k+1).toNat=((cpS b'.ops k.toNat).1++ [cpN (cpS b'.ops k.toNat) k ((b'.ops).getD (k).toNat default)],cpL (cpS b'.ops k.toNat) k ((b'.ops).getD (k).toNat default)):=by
   rw [show(k+1).toNat=k.toNat+1 by omega,show k=((k.toNat:Nat):Int) by omega];rfl
  have ms:=fun(q:Int)=>BO (x:=q) (l:=List.replicate b'.ops.length (0:Int)) l1 (by omega)
  have m3:∀q r:Int,(((cpS b'.ops k.toNat).1++ [q])++(List.replicate b'.ops.length (0:Int)).drop (k.toNat+1)).set k.toNat r=((cpS b'.ops k.toNat).1++ [r])++(List.replicate b'.ops.length (0:Int)).drop (k.toNat+1):=fun q r=>by
   rw [List.set_append_left _ _ (by rw [List.length_append,l1];simp),List.set_append_right _ _ (by omega),l1,Nat.sub_self];rfl
  have m4:∀q:Int,(((cpS b'.ops k.toNat).1++ [q])++(List.replicate b'.ops.length (0:Int)).drop (k.toNat+1)).length=b'.ops.length:=fun q=>by
   rw [List.length_append,List.length_append,l1,List.length_drop,rl];simp only [List.length_cons,List.length_nil];omega
  have m5:∀(q x:Int),0≤x→x<k→(((((cpS b'.ops k.toNat).1++ [q])++(List.replicate b'.ops.length (0:Int)).drop (k.toNat+1))).getD (x).toNat default)=(((cpS b'.ops k.toNat).1).getD (x).toNat default):=fun q x x0 x1=>by
   rw [List.append_assoc,getD_lt (by rw [List.length_append];omega),getD_lt (by omega),List.getElem_append_left]
  have kd:=o.k2
  have ox:=fun c8:(((b'.ops).getD (k).toNat default)).kind=8=>o.x1 (by unfold hX;omega)
  generalize hq:((b'.ops).getD (k).toNat default)=q at*
  generalize hT:cpS b'.ops (k+1).toNat=T at*
  generalize cpS b'.ops k.toNat=S at*
  have ss:∀i:Int,0≤i→i<S.2.length→S.2.set i.toNat ((S.2).getD (i).toNat default)=S.2:=fun i i0 i1=>by rw [getD_lt (show i.toNat<S.2.length by omega),List.set_getElem_self]
  have G:∀v w,v=cpN S k q→w=cpL S k q→((S.1++ [v])++(List.replicate b'.ops.length (0:Int)).drop (k.toNat+1),w,())=(T.1++(List.replicate b'.ops.length (0:Int)).drop (k+1).toNat,T.2,()):=fun v w e1 e2=>by
   rw [nx,e1,e2,show(k+1).toNat=k.toNat+1 by omega]
  by_cases c2:q.kind=2
  ·have kk:=kd (Or.inl c2)
   by_cases c3:0≤((S.2).getD (q.k).toNat default)
   ·have g:=G (((S.2).getD (q.k).toNat default)) S.2 (by unfold cpN;rw [if_pos ⟨c2,c3⟩]) (by unfold cpL;rw [if_pos c2,if_pos c3])
    simp (disch:=omega) only [RR,RB,ln,ms,m3,m4,rl,c,hq,eq_true c2,eq_true c3,hT,g,decide_true,decide_false,Bool.true_and,Bool.and_true,Bool.and_false,Bool.false_and,false_and]
    omega
   ·have g:=G k (S.2.set q.k.toNat k) (by unfold cpN;rw [if_neg (fun q=>c3 q.2)]) (by unfold cpL;rw [if_pos c2,if_neg c3])
    simp (disch:=omega) only [RR,RB,ln,ms,m3,m4,rl,c,hq,eq_true c2,c3,hT,g,decide_true,decide_false,Bool.true_and,Bool.and_true,Bool.and_false,Bool.false_and,false_and]
    omega
  ·by_cases c8:q.kind=8
   ·have kk:=kd (Or.inr c8)
    have v:=ox c8
    have v0:=v.1
    have v1:=v.2.1
    have g:=G k (S.2.set q.k.toNat ((S.1).getD (q.x).toNat default)) (by unfold cpN;rw [if_neg (fun q=>c2 q.1)]) (by unfold cpL;rw [if_neg c2,if_pos c8])
    simp (disch:=omega) only [RR,RB,ln,ms,m3,m4,m5,rl,c,hq,c2,eq_true c8,hT,g,decide_true,decide_false,Bool.true_and,Bool.and_true,Bool.and_false,Bool.false_and,false_and]
    omega
   ·have g:=G k S.2 (by unfold cpN;rw [if_neg (fun q=>c2 q.1)]) (by unfold cpL;rw [if_neg c2,if_neg c8])
    simp (disch:=omega) only [RR,RB,ln,ms,m3,m4,rl,c,hq,c2,c8,hT,g,decide_true,decide_false,Bool.true_and,Bool.and_true,Bool.and_false,Bool.false_and,false_and]
    omega
 ·have z:(cpS b'.ops k.toNat).1++(List.replicate b'.ops.length (0:Int)).drop k.toNat=(cpS b'.ops b'.ops.length).1:=by
   rw [List.drop_of_length_le (by rw [rl];omega),List.append_nil,show k.toNat=b'.ops.length by omega]
  have en:=ok.en
  have R:abu (cpS b'.ops b'.ops.length).1 b'.fin b'.x b'.y b'.ops:=by
   obtain⟨q1,q2⟩:=jH b'.ops b'.ops.length
   refine⟨fun m m0 m1=> ?_,fun d=> ?_,fun d=> ?_,by omega⟩
   ·have o:=ok.op m m0 m1
    rw [q1]
    exact⟨fun d=>⟨(o.x1 d).1,by have:=(o.x1 d).2.1;omega⟩,fun d=>⟨(o.y1 d).1,by have:=(o.y1 d).2.1;omega⟩⟩
   ·rw [q1];exact⟨(en.x1 d).1,(en.x1 d).2.1⟩
   ·rw [q1];exact⟨(en.y1 d).1,(en.y1 d).2.1⟩
  rw [z]
  generalize (cpS b'.ops b'.ops.length).1=N at*
  simp (disch:=omega) only [RR,RB,c,hp1 b' (by omega),hf1 b' (by omega),hp2 N b'.pc b'.len b'.fin b'.x b'.y b'.k b'.ops R,hf2 N b'.pc b'.len b'.fin b'.x b'.y b'.k b'.ops R]
  rfl
end Go.TX.F
namespace Go.TX.F
open Go Go.AE Go.TX
theorem anY {p1:Blk×Unit→Bool} {f1:Blk×Unit→Bool×Bool×Bool×Unit} (hp1:∀b,p1 (b,())=true) (hf1:∀b,f1 (b,())=(decide (b.fin≠1),decide (3≤b.fin),decide (b.fin≠2),())) {p2:IOp×Unit→Bool} {f2:IOp×Unit→Bool×Bool×Bool×Bool×Unit} (hp2:∀o,p2 (o,())=true) (hf2:∀o,f2 (o,())=(decide (hX o),decide (hY o),decide (hK o),decide (evO o),())) (b:Blk) (ok:cu b):Xl (std 0) p1 f1 p2 f2 (b,()) (fun y=>y=(us b b.ops.length,())):=by
 have n48:=ok.sz
 have en:=ok.en
 have ex:¬b.fin=1→0≤b.x∧b.x<b.ops.length:=fun c=>by have:=en.x1 c;exact⟨this.1,this.2.1⟩
 have ey:3≤b.fin→0≤b.y∧b.y<b.ops.length:=fun c=>by have:=en.y1 c;exact⟨this.1,this.2.1⟩
 dsimp only [Xl,Alg.cl,Alg.cg,Alg.rb,Alg.bd,Alg.l1,Tup.q,Tup.o]
 simp (disch:=omega) only [RR,RB,hp1,hf1,List.length_replicate,List.length_set,Int.toNat_natCast]
 refine⟨by omega,by omega,fun c=>⟨(ex c).1,(ex c).2,(ex c).1,(ex c).2,fun d=>⟨(ey d).1,(ey d).2,(ey d).1,(ey d).2,?_⟩,fun d=> ?_⟩,fun c=>⟨fun d=>⟨(ey d).1,(ey d).2,(ey d).1,(ey d).2,?_⟩,fun d=> ?_⟩⟩
 all_goals
  refine ay (fun(y:Int×Blk×List Bool×Unit)=> -1≤y.1∧y.1<b.ops.length∧y.2.1=b∧y.2.2.1=us b (b.ops.length-1-y.1).toNat) (fun y=>(y.1+1).toNat) ⟨by dsimp only;omega,by dsimp only;omega,rfl,?_⟩ ?_
  ·dsimp only
   rw [show(b.ops.length-1- ((b.ops.length:Int)-1)).toNat=0 by omega]
   show _=us0 b
   unfold us0
   dsimp only
   first
    | rw [if_neg (show¬b.fin=1 from c),if_pos (show 3≤b.fin from d)]
    | rw [if_neg (show¬b.fin=1 from c),if_neg (show¬3≤b.fin from d)]
    | (rw [if_pos (show b.fin=1 from Classical.byContradiction c),if_pos (show 3≤b.fin from d)])
    | (rw [if_pos (show b.fin=1 from Classical.byContradiction c),if_neg (show¬3≤b.fin from d)])
  rintro⟨(j:Int),(b2:Blk),(ms:List Bool),⟨⟩⟩ hI
  dsimp only at hI ⊢
  obtain⟨j0,j1,rfl,rfl⟩:=hI
  have ul:=ru b2 (b2.ops.length-1-j).toNat
  have us1:0≤j→us b2 (b2.ops.length-1- (j-1)).toNat=usO ((b2.ops).getD (j).toNat default) j.toNat (us b2 (b2.ops.length-1-j).toNat):=fun g=>by
   rw [show(b2.ops.length-1- (j-1)).toNat=(b2.ops.length-1-j).toNat+1 by omega]
   show usO (b2.ops.getD (b2.ops.length-1- (b2.ops.length-1-j).toNat) default) (b2.ops.length-1- (b2.ops.length-1-j).toNat) _=_
   rw [show b2.ops.length-1- (b2.ops.length-1-j).toNat=j.toNat by omega]
  have ue:¬0≤j→us b2 (b2.ops.length-1-j).toNat=us b2 b2.ops.length:=fun g=>by rw [show(b2.ops.length-1-j).toNat=b2.ops.length by omega]
  generalize us b2 (b2.ops.length-1-j).toNat=U at us1 ue ul ⊢
  by_cases g:0≤j
  ·have o:=ok.op j g j1
   have us1:=us1 g
   have ox:=fun c:hX ((b2.ops).getD (j).toNat default)=>(o.x1 c)
   have oy:=fun c:hY ((b2.ops).getD (j).toNat default)=>(o.y1 c)
   unfold usO at us1
   generalize hq:((b2.ops).getD (j).toNat default)=q at*
   have sj:∀x:Bool,(U.set j.toNat x).getD j.toNat default=x:=fun x=>by rw [getD_lt (by rw [List.length_set];omega),List.getElem_set_self]
   simp (disch:=omega) only [RR,RB,hp2,hf2,ul,List.length_set,sj,hq,g,eq_true g]
   rw [us1]
   by_cases w:(U.getD j.toNat default || decide (4≤q.kind))=true
   ·have w2:U.getD j.toNat default=true∨4≤q.kind:=by rw [Bool.or_eq_true,decide_eq_true_eq]at w;exact w
    rw [if_pos w,w]
    refine⟨j1,j1,j1,j1,j1,j1,j1,fun e=> ?_,fun _=>⟨fun e=>⟨(ox e).1,by have:=(ox e).2.1;omega,(ox e).1,by have:=(ox e).2.1;omega,fun e'=>⟨(oy e').1,by have:=(oy e').2.1;omega,(oy e').1,by have:=(oy e').2.1;omega,⟨by omega,by omega,?_⟩,by omega⟩,fun e'=>⟨⟨by omega,by omega,?_⟩,by omega⟩⟩,fun e=>⟨fun e'=>⟨(oy e').1,by have:=(oy e').2.1;omega,(oy e').1,by have:=(oy e').2.1;omega,⟨by omega,by omega,?_⟩,by omega⟩,fun e'=>⟨⟨by omega,by omega,?_⟩,by omega⟩⟩⟩⟩
    ·rcases w2 with w2 | w2
     ·rw [e.1]at w2;cases w2
     ·exact absurd w2 e.2
    all_goals dsimp only
    ·rw [if_pos e,if_pos e']
    ·rw [if_pos e,if_neg e']
    ·rw [if_neg e,if_pos e']
    ·rw [if_neg e,if_neg e']
   ·have w1:(U.getD j.toNat default || decide (4≤q.kind))=false:=by simpa using w
    rw [if_neg w,w1]
    have w3:U.getD j.toNat default=false:=by rw [Bool.or_eq_false_iff]at w1;exact w1.1
    have ws:U.set j.toNat false=U:=by rw [←w3,getD_lt (show j.toNat<U.length by omega),List.set_getElem_self]
    refine⟨j1,j1,j1,j1,j1,j1,j1,fun _=>⟨⟨by omega,by omega,ws⟩,by omega⟩,fun e=> ?_⟩
    exfalso
    rcases e with e | e
    ·rw [w3]at e;cases e
    ·rw [decide_eq_true e,Bool.or_true]at w;exact w rfl
  ·simp (disch:=omega) only [RR,RB,g,eq_false g,ue g]
theorem anZ {p1:Blk×Unit→Bool} {f1:Blk×Unit→List Bool×Unit} (hp1:∀b,cu b→p1 (b,())=true) (hf1:∀b,cu b→f1 (b,())=(us b b.ops.length,())) {p2:Blk×Unit→Bool} {f2:Blk×Unit→Bool×Unit} (hp2:∀b,b.ops.length<1000000000→p2 (b,())=true) (hf2:∀b,b.ops.length<1000000000→f2 (b,())=(bp (cu b),())) (b:Blk) (hb:b.ops.length<1000000):Xm (std 0) p1 f1 p2 f2 (b,()) (fun y=>y=(lV b,())):=by
 dsimp only [Xm,Alg.cl,Alg.cg,Alg.rb,Alg.bd,Alg.l1,Tup.q,Tup.o]
 simp (disch:=omega) only [RR,RB,hp2 b (by omega),hf2 b (by omega)]
 unfold lV
 refine⟨fun h=>by rw [h,if_neg (by decide)],fun h=> ?_⟩
 rw [if_pos h,hf1 b (bL.1 h)]
 exact⟨hp1 b (bL.1 h),rfl⟩
theorem ab9 (a b:Blk) (ha:a.ops.length<1000000000):Xj (std 0) (a,b,()) (fun y=>y=(bp (a=b),())):=by
 dsimp only [Xj,Alg.cl,Alg.cg,Alg.rb,Alg.bd,Alg.l1,Tup.q,Tup.o]
 simp (disch:=omega) only [RR,RB]
 refine⟨fun h=> ?_,fun h=> ?_⟩
 ·rw [gV];rintro rfl;simp at h
 have hl:a.ops.length=b.ops.length:=by omega
 refine ay (fun(y:Int×Blk×Blk×Unit)=>y.2.1=a∧y.2.2.1=b∧0≤y.1∧y.1≤a.ops.length∧All y.1 (fun i=>a.ops.getD i.toNat default=b.ops.getD i.toNat default)) (fun y=>(a.ops.length-y.1).toNat) ⟨rfl,rfl,by simp,by simp,All.zero⟩ ?_
 rintro⟨(i:Int),(a':Blk),(b':Blk),⟨⟩⟩ hI
 dsimp only at hI ⊢
 obtain⟨rfl,rfl,h1,h2,h3⟩:=hI
 simp (disch:=omega) only [RR,RB,ab7]
 refine⟨fun h4=>⟨by omega,by omega,by omega,by omega,fun h5=> ?_,fun h5=>⟨⟨by omega,by omega,h3.snoc h5⟩,by omega⟩⟩,fun h4=> ?_⟩
 ·rw [gV];rintro rfl;exact h5 rfl
 ·have e:=BJ hl (h3.le (by omega))
  rw [dK]
  cases a';cases b';simp_all
end Go.TX.F
namespace Go.TX.F
open Go Go.AE Go.TX
theorem ahv {p1:List Int×Unit→Bool} {f1:List Int×Unit→List Int×Int×Unit} (hp1:∀b,By b→b.length<1000000000→p1 (b,())=true) (hf1:∀b,By b→b.length<1000000000→Bt (f1 (b,())).1∧(f1 (b,())).2.1=0) {p2:Int×List Int×Int×Unit→Bool} {f2:Int×List Int×Int×Unit→Blk×List Int×Int×Unit} (hp2:∀n b p,Bt b→0≤p→p<500000000→p2 (n,b,p,())=true) (hf2:∀n b p,Bt b→0≤p→p<500000000→BoD b p (f2 (n,b,p,()))) (c:List Int) (hc:By c) (hl:c.length<1000000000):QI (std 0) p1 f1 p2 f2 (c,()) (fun y=>y.1.ops.length<100000):=by
 obtain⟨hb,e0⟩:=hf1 c hc hl
 generalize hbe:(f1 (c,())).1=b at hb
 dsimp only [QI,Alg.cl,Alg.cg,Alg.rb,Alg.bd,Alg.l1,Tup.q,Tup.o]
 simp (disch:=omega) only [RR,hp1 c hc hl,hbe,e0,hp2 12 b 0 hb (by omega) (by omega)]
 exact(hf2 12 b 0 hb (by omega) (by omega)).1
theorem an0 {p1:Blk×Blk×Unit→Bool} {f1:Blk×Blk×Unit→Bool×Unit} (hp1:∀b c,b.ops.length<1000000000→c.ops.length<1000000000→p1 (b,c,())=true) (hf1:∀b c,b.ops.length<1000000000→c.ops.length<1000000000→f1 (b,c,())=(chk b c,())) {p2:Blk×Unit→Bool} {f2:Blk×Unit→Blk×Unit} (hp2:∀b,b.ops.length<1000000→p2 (b,())=true) (hf2:∀b,b.ops.length<1000000→f2 (b,())=(aL b,())) {p3:Blk×Unit→Bool} {f3:Blk×Unit→List Bool×Unit} (hp3:∀b,b.ops.length<1000000→p3 (b,())=true) (hf3:∀b,b.ops.length<1000000→f3 (b,())=(lV b,())) {p4:Blk×Blk×Unit→Bool} {f4:Blk×Blk×Unit→Bool×Unit} (hp4:∀a b,a.ops.length<1000000000→p4 (a,b,())=true) (hf4:∀a b,a.ops.length<1000000000→f4 (a,b,())=(bp (a=b),())) {p5:Unit→Bool} {f5:Unit→Bool×Unit} (hp5:p5 ()=true) (hf5:f5 ()=(true,())) {p6:List Int×Unit→Bool} {f6:List Int×Unit→Blk×Unit} (hp6:∀c,By c→c.length<1000000000→p6 (c,())=true) (hf6:∀c,By c→c.length<1000000000→(f6 (c,())).1.ops.length<100000) {p7:Blk×Unit→Bool} {f7:Blk×Unit→Bool×Unit} (hp7:∀b,b.ops.length<1000000000→p7 (b,())=true) (hf7:∀b,b.ops.length<1000000000→f7 (b,())=(bp (cu b),())) {p8:Blk×Unit→Bool} {f8:Blk×Unit→Int×Int×Int×Int×Int×Int×List IOp×Unit} (hp8:∀b,b.ops.length<1000000→p8 (b,())=true) (hf8:∀b,b.ops.length<1000000→f8 (b,())=bk7 (aL b)) (c:List Int) (hc:By c):YH (std 0) p1 f1 p2 f2 p3 f3 p4 f4 p5 f5 p6 f6 p7 f7 p8 f8 (c,()) (fun y=>y=(true,())):=by
 dsimp only [YH,Alg.cl,Alg.cg,Alg.rb,Alg.bd,Alg.l1,Tup.q,Tup.o]
 simp (disch:=omega) only [RR]
 by_cases hl:1048576< (c.length:Int)
 ·simp (disch:=omega) only [RR,hl]
 ·have D:=hf6 c hc (by omega)
  have P:=hp6 c hc (by omega)
  generalize (f6 (c,())).1=b at D ⊢
  have le:=rz b
  have b1:b.ops.length<1000000:=by omega
  have b2:(aL b).ops.length<1000000:=by omega
  have mE:∀c:Blk,Co.mk .blk (c.pc,c.len,c.ops,c.fin,c.x,c.y,c.k,())=c:=fun _=>rfl
  simp (disch:=omega) only [RR,hl,P,RB,hp2 b b1,hf2 b b1,hp8 b b1,hf8 b b1,mE,hp4 _ (aL b) (show(aL b).ops.length<1000000000 by omega),hf4 _ (aL b) (show(aL b).ops.length<1000000000 by omega),dK True.intro,hp7 b (by omega),hf7 b (by omega),hp5,hf5,hp3 _ b2,hf3 _ b2]
  refine⟨fun h=>by rw [(agV (rO.1 h)).1];rfl,fun h=> ?_⟩
  have ok:=bL.1 h
  obtain⟨lk,ll⟩:=q8 ok
  have un:=fun {k:Nat}=>N9 ok (k:=k)
  have xo:=lk.oc
  have ue:lV (aL b)=us (aL b) (aL b).ops.length:=by unfold lV;rw [if_pos (dK xo)]
  have ul:=ru (aL b) (aL b).ops.length
  have oo:∀i:Nat,i<b.ops.length→((aL b).ops.getD i default).kind=(b.ops.getD i default).kind∧((aL b).ops.getD i default).k=(b.ops.getD i default).k:=fun i hi=>by
   rw [kL ok]
   have:=Zb (ren (cpS b.ops b.ops.length).1) hi
   exact⟨(congrArg IOp.kind this).trans rfl,(congrArg IOp.k this).trans rfl⟩
  have cl:=jH b.ops
  rw [ue]
  generalize hM:us (aL b) (aL b).ops.length=M at*
  generalize aL b=x at*
  refine ay (fun(y:Int×Blk×Blk×List Bool×List Bool×Unit)=>0≤y.1∧y.1≤x.ops.length∧y.2.1=b∧y.2.2.1=x∧y.2.2.2.1=M∧y.2.2.2.2.1.length=4∧∀r:Int,0≤r→r≤3→((y.2.2.2.2.1).getD (r).toNat default)=true→0≤(((cpS b.ops y.1.toNat).2).getD (r).toNat default)) (fun y=>(x.ops.length-y.1).toNat) ⟨by simp,by simp,rfl,rfl,rfl,rfl,fun r r0 r3 g=> ?_⟩ ?_
  ·exfalso
   rcases(by omega:r=0∨r=1∨r=2∨r=3)with h | h | h | h<;>subst h<;>cases g
  rintro⟨(i:Int),(b':Blk),(x':Blk),(m:List Bool),(se:List Bool),⟨⟩⟩ hI
  dsimp only at hI ⊢
  obtain⟨i0,i1,rfl,rfl,rfl,h4,h5⟩:=hI
  by_cases g:i<x'.ops.length
  ·have o:=xo.op i i0 g
   have bo:=ok.op i i0 (by omega)
   obtain⟨q1,q2⟩:=oo i.toNat (by omega)
   have un:=un (k:=i.toNat) (by omega)
   have nl:(cpS b'.ops (i+1).toNat).2=cpL (cpS b'.ops i.toNat) i (b'.ops.getD i.toNat default):=by
    rw [show(i+1).toNat=i.toNat+1 by omega]
    show cpL (cpS b'.ops i.toNat) (i.toNat:Int) _=_
    rw [show((i.toNat:Nat):Int)=i by omega]
   have I:=(BN ok i.toNat (by omega)).1
   have l4:=(cl i.toNat).2
   have bx:=bo.x1
   have k2:=bo.k2
   have z:(us x' x'.ops.length).length=x'.ops.length:=ru _ _
   rw [hM]at z
   generalize hq:((x'.ops).getD (i).toNat default)=q at*
   generalize ((b'.ops).getD (i).toNat default)=w at*
   rw [←q1,←q2]at k2
   have X:∀A:List Bool,(∀r:Int,0≤r→r≤3→((A).getD (r).toNat default)=true→0≤(((cpS b'.ops (i+1).toNat).2).getD (r).toNat default))→((0≤i+1∧i+1≤x'.ops.length∧∀r:Int,0≤r→r≤3→((A).getD (r).toNat default)=true→0≤(((cpS b'.ops (i+1).toNat).2).getD (r).toNat default))∧(x'.ops.length- (i+1)).toNat< (x'.ops.length-i).toNat):=fun A h=>⟨⟨by omega,by omega,h⟩,by omega⟩
   by_cases c2:q.kind=2
   ·have kk:=k2 (Or.inl c2)
    have nm:((se).getD (q.k).toNat default)=true→m.getD i.toNat default=false:=fun e=>un (q1▸c2) (by rw [←q2];exact h5 _ kk.1 kk.2 e)
    simp (disch:=omega) only [RR,RB,g,hq,eq_true c2,show¬q.kind=8 by omega,List.length_set,h4,z,decide_true]
    have Y:=X (se.set q.k.toNat true) fun r r0 r3 h=>by
     rw [nl];unfold cpL;rw [if_pos (q1▸c2)]
     rw [nu r0 kk.1 (by omega)]at h
     by_cases e:r=q.k
     ·split
      ·rw [e,q2];assumption
      ·rw [nu r0 (by omega) (by omega),if_pos (by omega)];exact i0
     ·rw [if_neg e]at h
      have:=h5 r r0 r3 h
      split
      ·exact this
      ·rw [nu r0 (by omega) (by omega),if_neg (by omega)];exact this
    refine⟨i0,kk.1,by omega,kk.1,by omega,Or.inr i0,Or.inr i0,fun e=> ?_,fun _=>⟨kk.1,by omega,kk.1,by omega,Y⟩⟩
    rw [nm e.1]at e;cases e.2
   ·by_cases c8:q.kind=8
    ·have kk:=k2 (Or.inr c8)
     simp (disch:=omega) only [RR,RB,g,hq,c2,eq_true c8,List.length_set,h4,z,decide_false,Bool.false_and]
     have Y:=X (se.set q.k.toNat true) fun r r0 r3 h=>by
      rw [nl];unfold cpL;rw [if_neg (q1▸c2),if_pos (q1▸c8)]
      rw [nu r0 (by omega) (by omega)]
      rw [nu r0 kk.1 (by omega)]at h
      by_cases e:r=q.k
      ·rw [if_pos (by omega)]
       have v:=bx (by unfold hX;omega)
       exact(I w.x v.1 (by have:=v.2.1;omega)).1
      ·rw [if_neg e]at h
       rw [if_neg (by omega)];exact h5 r r0 r3 h
     exact⟨i0,fun e=>e.1.1.elim,kk.1,by omega,kk.1,by omega,Y⟩
    ·simp (disch:=omega) only [RR,RB,g,hq,c2,c8,List.length_set,h4,z,decide_false,Bool.false_and]
     have Y:=X se fun r r0 r3 h=>by
      rw [nl];unfold cpL;rw [if_neg (q1▸c2),if_neg (q1▸c8)];exact h5 r r0 r3 h
     exact⟨i0,fun e=>e.1.1.elim,Y⟩
  ·simp (disch:=omega) only [RR,RB,g,hp1 b' x' (by omega) (by omega),hf1 b' x' (by omega) (by omega),lk.chk]
   rw [decide_eq_true (by omega)];rfl
end Go.TX.F
namespace Go.TX.F
open Go Go.AE Go.TX
def ShC (l:List Cer):Prop:=l.length<1000∧∀q∈l,q.base.ops.length<1000000∧q.made.ops.length<1000000
theorem ShC.at {l:List Cer} (h:ShC l) (i:Nat):(l.getD i default).base.ops.length<1000000∧(l.getD i default).made.ops.length<1000000:=by
 by_cases c:i<l.length
 ·rw [getD_lt c];exact h.2 _ (List.getElem_mem _)
 ·rw [List.getD_eq_getElem?_getD,List.getElem?_eq_none (by omega)];exact⟨by decide,by decide⟩
theorem ShC.add {l:List Cer} (h:ShC l) (n:l.length<999) {q:Cer} (h1:q.base.ops.length<1000000) (h2:q.made.ops.length<1000000):ShC (l++ [q]):=by
 refine⟨by rw [List.length_append,List.length_singleton];omega,fun c g=> ?_⟩
 rw [List.mem_append,List.mem_singleton]at g
 rcases g with g | rfl
 ·exact h.2 c g
 ·exact⟨h1,h2⟩
end Go.TX.F
namespace Go.TX
open Go Go.AE
theorem enters_of {P:Program} {f:FuncId} {fn:Func} {c:Code} (hf:P.funcs[f]? =some fn) (hname:(fn.name== "runtime.NumGoroutine")=false) (hb:fn.body=some c):Enters P f:=by
 intro args w
 have h1:fn.name≠ "runtime.NumGoroutine" :=by simpa using hname
 simp [callFunc,hf,h1,hb,mark]
def Ui (P:Program):Nat→List Field→Bool
 | _,[]=>true
 | k,f::fs=> !(f.name== "_")&&f.offset==k&& (match P.underlying f.type with | some (.int _)=>true | _=>false)&&Ui P (k+1) fs
theorem Uj {P:Program} (w:World) (d:Nat) (xs ys:List Int) (hl:xs.length=ys.length):∀(fs:List Field) (k:Nat),Ui P k fs=true→k+fs.length=xs.length→
  (Op.eqFields (d+1) (xs.map (Value.int .i64)).toArray (ys.map (Value.int .i64)).toArray fs).run P w= .ok (xs.drop k==ys.drop k) w
 | [],k,_,h2=>by
  rw [List.drop_eq_nil_of_le (show xs.length≤k by simp only [List.length_nil]at h2;omega),List.drop_eq_nil_of_le (show ys.length≤k by simp only [List.length_nil]at h2;omega)]
  simp [Op.eqFields]
 | f::fs,k,h1,h2=>by
  simp only [List.length_cons]at h2
  simp only [Ui,Bool.and_eq_true,Bool.not_eq_true',beq_eq_false_iff_ne,beq_iff_eq]at h1
  obtain⟨⟨⟨n1,n2⟩,n3⟩,n4⟩:=h1
  have hk:k<xs.length:=by omega
  have hk':k<ys.length:=by omega
  obtain⟨kd,hu⟩:∃kd,P.underlying f.type=some (.int kd):=by
   cases hu:P.underlying f.type with
   | none=>rw [hu]at n3;cases n3
   | some z=>cases z<;>(first | exact⟨_,rfl⟩ | (rw [hu]at n3;cases n3))
  have pk:P.plainKey f.type=true:=by unfold Program.plainKey;rw [hu]
  have p1:=run_part_plain w pk (xs:=(xs.map (Value.int .i64)).toArray) (off:=f.offset) (v:= .int .i64 xs[k]) (by rw [n2];simp [hk])
  have p2:=run_part_plain w pk (xs:=(ys.map (Value.int .i64)).toArray) (off:=f.offset) (v:= .int .i64 ys[k]) (by rw [n2];simp [hk'])
  have ih:=Uj w d xs ys hl fs (k+1) n4 (by omega)
  simp only [Op.eqFields,if_pos n1,Sem.run_bind,p1,p2,Result.andThen_ok,run_equalIn_int w d f.type .i64 kd _ _ hu]
  have e:(xs.drop k==ys.drop k)=((xs[k]==ys[k])&& (xs.drop (k+1)==ys.drop (k+1))):=by rw [List.drop_eq_getElem_cons hk,List.drop_eq_getElem_cons hk'];rfl
  rw [e]
  by_cases c:(xs[k]==ys[k])=true
  ·rw [c]
   simp only [Bool.not_true,Bool.false_eq_true,if_false,ih,Bool.true_and]
  ·have c2:(xs[k]==ys[k])=false:=by simpa using c
   rw [c2]
   simp only [Bool.not_false,if_true,Sem.run_pure,Bool.false_and]
theorem ahw {P:Program} {t:TypeId} {n:Nat} (hu:P.underlying t=some (.struct (P.fieldsOf t))) (hs:P.stoodInHeld t=false) (hg:P.eqGuardType P.depth t=false) (hf:Ui P 0 (P.fieldsOf t).toList=true) (hn:(P.fieldsOf t).size=n) (xs ys:List Int) (hx:xs.length=n) (hy:ys.length=n) (w:World):
  (Op.equal t (.agg (xs.map (Value.int .i64)).toArray) (.agg (ys.map (Value.int .i64)).toArray)).run P w= .ok (xs==ys) w∧
  (eqGuard .eql t (.tmp 0) (.tmp 0) (.agg (xs.map (Value.int .i64)).toArray) (.agg (ys.map (Value.int .i64)).toArray)).run P w= .ok () w:=by
 refine⟨?_,run_eqGuard_agg w _ _ _ _ _ _ hg⟩
 show(Op.equalIn (9999+1) t _ _).run P w=_
 rw [run_equalIn_struct w 9999 t _ _ hu hs,Uj w 9998 xs ys (by omega) _ 0 hf (by rw [Array.length_toList];omega)]
 rfl
noncomputable def never (s:Sig):Ct aC s:={pre:=fun _=>false,fn:=fun _=>Classical.choice (tL _)}
theorem jI {E:Tab} {f:FuncId} {s:Sig} (h:Enters E.P f):bZ E f (bW (never s)) where
 enters:=h
 calls:=by
  rintro args hh n K ⟨m,vs,h2,h3,h4,h5,cr,h6,h7,h8⟩
  exfalso
  unfold qO at h6
  split at h6
  ·split at h6
   ·split at h6
    ·split at h6
     ·cases h6
      have:=h7 false (List.mem_append_right _ (List.mem_singleton.2 rfl))
      cases this
     ·cases h6
    ·cases h6
   ·cases h6
  ·cases h6
abbrev aqL:Sig:={args:=[.c (.rows true .u8)],objs:=[],res:=[.c .bool],dI:=[]}
def entry (W:World):Ctx:={K:=fun _ b=>b<W.heap.size,μ:=fun _=>none,n:=0}
theorem Ry (W:World):bE (entry W) W []:=
 ⟨fun l o h=>(by cases h),fun l o l' o' b h=>(by cases h),fun f b ⟨l,o,h,_⟩=>(by cases h),fun f b h=>h,fun b h=>h⟩
theorem Od {W W':World} {c':Ctx} {h':Heap} (g:Grow (entry W) W [] c' W' h'):RowKit.Below W.heap.size W W':=
 ⟨g.os,g.tape,g.output,g.size,fun k hk=>g.kept k hk fun⟨l,o,h,_⟩=>by cases h⟩
theorem abv {c:Ctx} {w:World} {v:Value} {r:PV} {N:NM} {b:Bool} (h1:bD c w v r) (h2:PVR N r (.c (.d true (.bool b)))):v= .bool b:=by
 cases h2 with
 | one h=>
  cases h with
  | c h=>
   cases h with
   | d h3 _=>
    subst h3
    cases h1 with
    | c _ _ h4=>cases h4 with
     | d _ _ _ h5=>cases h5;rfl
  | agg h=>cases h
theorem aqM {E:Tab} {f:FuncId} {c:Ct aC aqL} (hc:bZ E f (bW c)) {xs:List Int} {W:World} {v:Value} (hv:dG (fun b=>b<W.heap.size) W v (.rows 1 (aK .u8 xs)))
  (hg:qD E (entry W) W) (hp:c.pre (xs,())=true):Go.Calls E.P f #[v] W fun e W'=>e= .returned (.bool (c.fn (xs,())).1)∧RowKit.Below W.heap.size W W':=by
 refine(hc.calls [.c (.d true (.rows 1 (aK .u8 xs)))] [] 0 (fun r _ _=>PVR (nmh []) r (.c (.d true (.bool (c.fn (xs,())).1)))) ?_ (entry W) W [v] rfl (.cons (.c _ _ (.d true _ _ hv)) .nil) (Ry W) hg).mono ?_
 ·refine⟨0,[.c (.d true (.rows .u8 xs))],[],.cons (.one (.c (.d rfl fun _=> .inl rfl))) .nil,⟨fun l o h=>(by cases h),fun _ _=>rfl⟩,rfl,_,rfl,?_,_,_,rfl,?_⟩
  ·intro b hb
   rcases List.mem_append.1 hb with h | h
   ·cases h
   ·rw [List.mem_singleton]at h;rw [h];exact hp
  ·intro r _ _ h _ _ _;exact h
 ·rintro e W' he
  cases e with
  | returned u=>
   obtain⟨c',r,h',j,g,_,_,h1,h2⟩:=he
   exact⟨by rw [abv h1 h2],Od g⟩
  | outgrown=>exact he.elim
  | panicked _=>exact he.elim
open Go.RowKit Go.ChangeShapes Go.WideShapes Go.ChangeAt in
theorem Zq {H:Type} {enc:TypeId×Value→H} {P:Program} {t e:TypeId} (ht:P.underlying t=some (.slice e)) (he:P.underlying e=some (.int .u8)) (hc:P.cellsOf e=1) {W:World} {base:Nat} {v:Value} {d:DataW H} {p:List MemPlace}
  (hval:Value.okWide P W .any base t v) (h:DataW.Trod enc P W 0 (fun _=>true) true t v d p) (hlt:∀x∈p,x.block<W.heap.size):
  ∃xs:List Int,dG (fun b=>b<W.heap.size) W v (.rows 1 (aK .u8 xs))∧∀z∈xs,0≤z∧z≤255:=by
 obtain⟨a0,len,cap,rfl⟩:=okWide_slice ht hval
 obtain⟨fuel,hf⟩:=h
 rcases open_ints ht he hc hf with⟨hcs,hx⟩ | ⟨a,len',cap',zs,hcs,_,hl,hm,hz,hx,hcell,hwz⟩
 ·simp [Value.cells]at hcs
  obtain⟨rfl,rfl,rfl⟩:=hcs
  exact⟨[],.none _ _ _,fun _ h=>by cases h⟩
 ·simp [Value.cells]at hcs
  obtain⟨rfl,rfl,rfl⟩:=hcs
  simp only [Prod.mk.injEq]at hx
  obtain⟨rfl,rfl⟩:=hx
  simp only [if_true]at hz
  have rng:∀z∈zs,0≤z∧z≤255:=fun z hz=>by
   obtain⟨i,hi,rfl⟩:=List.getElem_of_mem hz
   have:=range_u8 hwz i
   rwa [List.getElem?_eq_getElem hi]at this
  refine⟨zs.take len,?_,fun z h=>rng z (List.mem_of_mem_take h)⟩
  by_cases h0:len=0
  ·subst h0;exact .none _ _ _
  ·obtain⟨b,off,spot⟩:=a
   have hspot:spot=none:=by simpa [Addr.add]using World.cell?_spot (hcell 0 (by omega))
   subst hspot
   have hbW:b<W.heap.size:=hlt (.cell b off) (MemPlace.mem_row.2 ⟨0,by omega,by simp⟩)
   have hlen:(aK .u8 (zs.take len)).length=len:=by simp only [aK,List.length_map,List.length_take];omega
   have hget:∀i,i<len→(aK .u8 (zs.take len)).getD i []=[.int .u8 (zs.getD i 0)]:=fun i hi=>by
    simp only [aK,List.getD,List.getElem?_map,List.getElem?_take_of_lt hi,List.getElem?_eq_getElem (show i<zs.length by omega)]
    rfl
   refine .rows b off cap 1 len _ (fun i j=> .int .u8 (zs.getD i 0)) hbW hlen.symm hl (fun i j hi hj=> ?_) (fun i hi=> ?_) (fun i j hi hj=> ?_)
   ·rw [hlen]at hi
    have:=hcell i (by omega)
    rw [add_plain]at this
    rw [show off+i*1+j=off+i by omega]
    exact this
   ·rw [hlen]at hi;rw [hget i hi];rfl
   ·rw [hlen]at hi
    have hj0:j=0:=by omega
    subst hj0
    unfold gd;rw [hget i hi];exact .int _ _
end Go.TX
namespace Go.TX.Seat
open Go Go.AE Go.TX Go.TX.F Go.Proofs
set_option maxRecDepth 100000
theorem aqN:∀t n,E.ieq t=some n→∀(xs ys:List Int),xs.length=n→ys.length=n→∀w,
  (Op.equal t (.agg (xs.map (Value.int .i64)).toArray) (.agg (ys.map (Value.int .i64)).toArray)).run E.P w= .ok (xs==ys) w∧
  (eqGuard .eql t (.tmp 0) (.tmp 0) (.agg (xs.map (Value.int .i64)).toArray) (.agg (ys.map (Value.int .i64)).toArray)).run E.P w= .ok () w:=by
 intro t n h
 obtain⟨c,hc,rfl⟩:∃c,ieq t=some c∧c.size=n:=by
  have h':(ieq t).map (fun c=>c.size)=some n:=h
  cases hi:ieq t with
  | none=>rw [hi]at h';cases h'
  | some c=>rw [hi]at h';cases h';exact⟨c,rfl,rfl⟩
 unfold ieq at hc
 split at hc
 all_goals first | (cases hc;exact ahw (by kernel_rfl) (by kernel_rfl) (by kernel_rfl) (by kernel_rfl) (by kernel_rfl)) | cases hc
theorem hE:aH E:=⟨aqz,aqN⟩
theorem aqO:∀t c,X.ieq t=some c→(c= .ins∧E.ieq t=some 4)∨(c= .iop∧E.ieq t=some 5):=by
 intro t c h
 have h:ieq t=some c:=h
 have e:E.ieq t=(ieq t).map fun c=>c.size:=rfl
 rw [e,h]
 unfold ieq at h
 split at h
 all_goals first | (cases h;first | exact Or.inl ⟨rfl,rfl⟩ | exact Or.inr ⟨rfl,rfl⟩) | cases h
theorem xok:XOK X E:=⟨rfl,fun g c h=>(by cases h),aqO⟩
theorem hm:E.P.follows .mixedOrders=true:=by kernel_rfl
theorem hlN:∀p∈([]:List (FuncId×Sigma (Ct aC))),bZ E p.1 (bW p.2.2):=fun _ h=>by cases h
theorem hlC {f:FuncId} {s:Sig} {c:Ct aC s} {l:List (FuncId×Sigma (Ct aC))} (h:bZ E f (bW c)) (r:∀p∈l,bZ E p.1 (bW p.2.2)):∀p∈(f,⟨s,c⟩)::l,bZ E p.1 (bW p.2.2):=fun p hp=>by
 rcases List.mem_cons.1 hp with rfl | hp
 ·exact h
 ·exact r p hp
@[reducible] def _root_.Go.TX.Fn.c {E : Tab} {f : FuncId} {s : Sig} {F : gN s.inp → (gN s.out → Prop) → Prop} {c : Ct aC s} (_ : Fn E f F c) : Ct aC s := c
theorem mk {lk:aF} {f:FuncId} {fn:Func} (hf:E.P.funcs[f]? =some fn) {l:List (FuncId×Sigma (Ct aC))} (hl:∀p∈l,bZ E p.1 (bW p.2.2)) {ord:List (Nat×List eY)} {s:Sig} {an:Ann}
 {F:gN s.inp→(gN s.out→Prop)→Prop} (h:Ru X E (std 0) ord an s fn l F) (hb:fn.body.isSome=true:=by rfl) (hn:(fn.name== "runtime.NumGoroutine")=false:=by kernel_rfl):Fn E f F (cn F):=apU hE xok hm hf hb (fun _=>enters_of hf hn) hl h
theorem Zr {E:Tab} {f:FuncId} {c:Ct aC {args:=[.c (.int .u64)],objs:=[],res:=[.c (.int .i64)],dI:=[]}} {g:Int→Int} (hent:Enters E.P f) (hg:(fun x:Int=>(c.fn (x,())).1)=g)
  (h:∀(x:Int) (w:World),c.pre (x,())=true→Go.Calls E.P f #[.int .u64 x] w fun e w'=>e= .returned (.int .i64 (g x))∧w'=w):bZ E f (bW c) where
 enters:=hent
 calls:=by
  rintro args hh n K ⟨m,qs,hs,hargs,HR,hlen,cr,hcall,aaU,v,kT,hvk,hK⟩ c1 w vs hcn qh Hh Gl
  have key:∀f0 (x:Int),qs=[.c (.d f0 (.int .u64 x))]→qO (std m) hs {args:=[.c (.int .u64)],objs:=[],res:=[.c (.int .i64)],dI:=[]} c qs=some {ck:=[c.pre (x,())],ts:=[.i],y:=c.fn (x,()),touched:=[],pure:=true,k:=fun y=>some (.c (.d true (.int .i64 y.1)),hs)}:=by
   intro f0 x e;subst e;rfl
  have hq:∃f0 x,qs=[.c (.d f0 (.int .u64 x))]:=by
   unfold qO at hcall
   cases qs with
   | nil=>simp [nM]at hcall
   | cons q r=>
    cases r with
    | cons q2 r2=>
     exfalso
     simp only [nM]at hcall
     cases hx:Ht (std m) hs (.c (.int .u64)) q (es0 (std m) 0 [])with
     | none=>rw [hx]at hcall;simp at hcall
     | some s=>rw [hx]at hcall;simp [nM]at hcall
    | nil=>
     simp only [nM]at hcall
     cases q with
     | c y=>
      simp only [Ht,extC]at hcall
      cases y with
      | d f0 y=>
       cases y with
       | int k x=>
        by_cases hk:IntKind.u64=k
        ·subst hk;exact⟨f0,x,rfl⟩
        ·simp [hk]at hcall
       | _=>simp at hcall
      | _=>simp at hcall
     | _=>simp [Ht]at hcall
  obtain⟨f0,x,rfl⟩:=hq
  rw [key f0 x rfl]at hcall
  simp only [Option.some.injEq]at hcall
  subst hcall
  simp only [Option.some.injEq,Prod.mk.injEq]at hvk
  obtain⟨rfl,rfl⟩:=hvk
  have hpre:=aaU _ (List.mem_singleton.2 rfl)
  have hv:vs=[.int .u64 x]:=by
   cases hargs with
   | cons h1 h2=>
    cases h2
    cases qh with
    | cons h3 h4=>
     cases h4
     cases h1 with
     | one h1=>
      cases h1 with
      | c h1=>
       cases h1 with
       | d h5 _=>
        subst h5
        cases h3 with
        | c _ _ h6=>cases h6 with
         | d _ _ _ h7=>cases h7;rfl
      | agg h1=>cases h1
  subst hv
  refine(h x w hpre).mono ?_
  rintro e w' ⟨rfl,rfl⟩
  refine⟨c1,.c (.d true (.int .i64 (g x))),hh,0,.refl _ _ _,Hh,hcn,.c _ _ (.d _ _ _ (.int _ _)),hK _ _ _ ?_ HR (.refl _ _ _) hlen⟩
  rw [←hg]
  exact .one (.c (.d rfl fun _=> .inl rfl))
end Go.TX.Seat
namespace Go.TX.F
open Go Go.AE Go.TX Go.TX.Seat Go.Proofs
set_option maxRecDepth 100000
def pE:=mk Tryz.func78 hlN (aff (std 0))
noncomputable def bO:=pE.c
def xU:=fun n b p hb h1 h2=>(pE.cs (Y3 n b p hb h1 h2)).1
def xV:=fun n b p hb h1 h2=>(pE.cs (Y3 n b p hb h1 h2)).2
def Rz:=mk Tryz.func91 (hlC pE.ok hlN) (afg (std 0) bO)
noncomputable def FY:=Rz.c
def qx:=fun n b p hb h1 h2=>Rz.cs (agP xU xV n b p hb h1 h2)
def ahx:=fun n b p hb h1 h2=>(qx n b p hb h1 h2).1
def ahy:=fun n b p hb h1 h2=>(qx n b p hb h1 h2).2
def pF:=mk Tryz.func61 hlN (afh (std 0))
noncomputable def bP:=pF.c
def uH:=fun a b c=>(pF.cs (YT a b c)).1
def uI:=fun a b c=>(pF.cs (YT a b c)).2
def Ac:=mk Tryz.func115 hlN (afi (std 0))
noncomputable def iW:=Ac.c
def RA:=fun a=>(Ac.cs (YU a)).1
def RD:=fun a=>(Ac.cs (YU a)).2
def RF:=mk Tryz.func156 (hlC pF.ok hlN) (afj (std 0) bP)
noncomputable def Fq:=RF.c
def uJ:=fun k=>RF.cs (agW uH uI k)
def ahz:=fun k=>(uJ k).1
def ahA:=fun k=>(uJ k).2
def Kc:=mk Tryz.func116 (hlC RF.ok hlN) (afk (std 0) Fq)
noncomputable def oP:=Kc.c
def yZ:=fun ops x n h1=>Kc.cs (agX ahz ahA ops x n h1)
def Zt:=fun ops x n h1=>(yZ ops x n h1).1
def Zu:=fun ops x n h1=>(yZ ops x n h1).2
def RG:=mk Tryz.func62 (hlC Ac.ok (hlC pF.ok (hlC Kc.ok hlN))) (afl (std 0) iW bP oP)
noncomputable def Fv:=RG.c
def Bg:=fun ops i len h0 h1 h3=>RG.cs (agY RA RD uH uI Zt Zu ops i len h0 h1 h3)
def ahB:=fun ops i len h0 h1 h3=>(Bg ops i len h0 h1 h3).1
def ahC:=fun ops i len h0 h1 h3=>(Bg ops i len h0 h1 h3).2
def RH:=mk Tryz.func63 (hlC Ac.ok (hlC Kc.ok hlN)) (afm (std 0) iW oP)
noncomputable def Fu:=RH.c
def y7:=fun b=>RH.cs (agZ RA RD Zt Zu b)
def ahD:=fun b=>(y7 b).1
def ahE:=fun b=>(y7 b).2
def uK:=mk Tryz.func19 (hlC pF.ok (hlC RH.ok (hlC RG.ok hlN))) (afn (std 0) bP Fu Fv)
noncomputable def dw:=uK.c
def Bh:=fun b h2=>uK.cs (ag0 uH uI ahD ahE ahB ahC b h2)
def Ad:=fun b h2=>(Bh b h2).1
def Ae:=fun b h2=>(Bh b h2).2
def Af:=mk Tryz.func59 hlN (afo (std 0))
noncomputable def iX:=Af.c
def RJ:=fun b hb=>(Af.cs (Zj b hb)).1
def RL:=fun b hb=>(Af.cs (Zj b hb)).2
def GU:=mk Tryz.func60 (hlC pF.ok hlN) (afp (std 0) bP)
noncomputable def oQ:=GU.c
def Zv:=fun o al hk hx hy=>(GU.cs (Zm uH uI o al hk hx hy)).1
def Zw:=fun o al hk hx hy=>(GU.cs (Zm uH uI o al hk hx hy)).2
def GV:=mk Tryz.func18 (hlC uK.ok (hlC GU.ok (hlC Af.ok hlN))) (afq (std 0) dw oQ iX)
noncomputable def iY:=GV.c
def uL:=fun b hb=>GV.cs (ahp Ad Ae Zv Zw RJ RL b hb)
def RN:=fun b hb=>(uL b hb).1
def RO:=fun b hb=>(uL b hb).2
def Ke:=mk Tryz.func130 (hlC GU.ok hlN) (afr (std 0) oQ)
noncomputable def oU:=Ke.c
def uM:=fun b kp ok hk=>Ke.cs (ahl Zv Zw b kp ok hk)
def Zx:=fun b kp ok hk=>(uM b kp ok hk).1
def Zy:=fun b kp ok hk=>(uM b kp ok hk).2
def RP:=mk Tryz.func131 (hlC uK.ok (hlC pF.ok hlN)) (afs (std 0) dw bP)
noncomputable def Fw:=RP.c
def uN:=fun b hb=>RP.cs (ahk Ad Ae uH uI b hb)
def ahF:=fun b hb=>(uN b hb).1
def ahG:=fun b hb=>(uN b hb).2
def RQ:=mk Tryz.func70 (hlC uK.ok (hlC RP.ok (hlC Ke.ok hlN))) (aft (std 0) dw Fw oU)
noncomputable def FH:=RQ.c
def uO:=fun b hb=>RQ.cs (ahm Ad Ae ahF ahG Zx Zy b hb)
def ahH:=fun b hb=>(uO b hb).1
def ahI:=fun b hb=>(uO b hb).2
def Kg:=mk Tryz.func132 hlN (afu (std 0))
noncomputable def Fx:=Kg.c
def ahJ:=fun ops k h0 h1 h2=>(Kg.cs (Zn ops k h0 h1 h2)).1
def ahK:=fun ops k h0 h1 h2=>(Kg.cs (Zn ops k h0 h1 h2)).2
def RS:=mk Tryz.func71 (hlC uK.ok (hlC Ke.ok (hlC Kg.ok hlN))) (afv (std 0) dw oU Fx)
noncomputable def FJ:=RS.c
def uP:=fun b hb=>RS.cs (ahn Ad Ae Zx Zy ahJ ahK b hb)
def ahL:=fun b hb=>(uP b hb).1
def ahM:=fun b hb=>(uP b hb).2
def GX:=mk Tryz.func133 hlN (afw (std 0))
noncomputable def oV:=GX.c
def Zz:=fun ops k=>(GX.cs (Zk ops k)).1
def ZA:=fun ops k=>(GX.cs (Zk ops k)).2
def Kh:=mk Tryz.func169 hlN (afx (std 0))
noncomputable def Fy:=Kh.c
def ahN:=fun a=>(Kh.cs (YW a)).1
def ahO:=fun a=>(Kh.cs (YW a)).2
def RU:=mk Tryz.func134 (hlC Kh.ok (hlC Ac.ok hlN)) (afy (std 0) Fy iW)
noncomputable def FB:=RU.c
def y8:=fun op a b=>RU.cs (agN RA RD ahN ahO op a b)
def ahP:=fun op a b=>(y8 op a b).1
def ahQ:=fun op a b=>(y8 op a b).2
def Ki:=mk Tryz.func170 hlN (afz (std 0))
noncomputable def Fz:=Ki.c
def ahR:=fun b k=>(Ki.cs (Zl b k)).1
def ahS:=fun b k=>(Ki.cs (Zl b k)).2
def RV:=mk Tryz.func135 (hlC Ki.ok (hlC GX.ok hlN)) (afA (std 0) Fz oV)
noncomputable def FC:=RV.c
def uQ:=fun b h=>RV.cs (ahg ahR ahS Zz ZA b h)
def ahT:=fun b h=>(uQ b h).1
def ahU:=fun b h=>(uQ b h).2
def RX:=mk Tryz.func72 (hlC uK.ok (hlC RU.ok (hlC RV.ok (hlC GX.ok (hlC Af.ok hlN))))) (afB (std 0) dw FB FC oV iX)
noncomputable def FD:=RX.c
def rQ:=fun b hb=>RX.cs (ahj Ad Ae ahP ahQ ahT ahU Zz ZA RJ RL b hb)
def ahV:=fun b hb=>(rQ b hb).1
def ahW:=fun b hb=>(rQ b hb).2
def RY:=mk Tryz.func25 (hlC RX.ok (hlC GV.ok (hlC RQ.ok (hlC RS.ok hlN)))) (afC (std 0) FD iY FH FJ)
noncomputable def FW:=RY.c
def wQ:=fun b hb=>RY.cs (ahh ahV ahW RN RO ahH ahI ahL ahM b hb)
def ahX:=fun b hb=>(wQ b hb).1
def ahY:=fun b hb=>(wQ b hb).2
def RZ:=mk Tryz.func179 (hlC pE.ok hlN) (afD (std 0) bO)
noncomputable def FL:=RZ.c
def wR:=fun b p hb h1 h2=>RZ.cs (ahd xU xV b p hb h1 h2)
def ahZ:=fun b p hb h1 h2=>(wR b p hb h1 h2).1
def ah0:=fun b p hb h1 h2=>(wR b p hb h1 h2).2
def R3:=mk Tryz.func237 hlN (afE (std 0))
noncomputable def FK:=R3.c
def ah1:=fun i=>(R3.cs (ag2 i)).1
def Kj:=mk Tryz.func181 (hlC pF.ok (hlC R3.ok hlN)) (afF (std 0) bP FK)
noncomputable def oZ:=Kj.c
def Kk:=fun i=>Kj.cs (ag3 uH uI ah1 i)
def ZB:=fun i=>(Kk i).1
def Kl:=mk Tryz.func182 hlN (afG (std 0))
noncomputable def oW:=Kl.c
def ZE:=fun i=>(Kl.cs (ag4 i)).1
def Km:=mk Tryz.func180 (hlC Kl.ok (hlC Kj.ok hlN)) (afH (std 0) oW oZ)
noncomputable def o7:=Km.c
def GY:=fun i=>Km.cs (ag5 ZE ZB i)
def ZF:=fun i=>(GY i).1
def R4:=mk Tryz.func143 (hlC RZ.ok (hlC pE.ok (hlC Km.ok hlN))) (afI (std 0) FL bO o7)
noncomputable def FN:=R4.c
def uR:=fun b p hb h1 h2=>R4.cs (ahe ahZ ah0 xU xV ZF b p hb h1 h2)
def ah2:=fun b p hb h1 h2=>(uR b p hb h1 h2).1
def ah3:=fun b p hb h1 h2=>(uR b p hb h1 h2).2
def R5:=mk Tryz.func92 (hlC R4.ok (hlC pE.ok hlN)) (afJ (std 0) FN bO)
noncomputable def FX:=R5.c
def uS:=fun b p hb h1 h2=>R5.cs (ahf ah2 ah3 xU xV b p hb h1 h2)
def ah4:=fun b p hb h1 h2=>(uS b p hb h1 h2).1
def ah5:=fun b p hb h1 h2=>(uS b p hb h1 h2).2
def R6:=mk Tryz.func145 (hlC Kl.ok (hlC Kj.ok (hlC pF.ok (hlC Km.ok hlN)))) (afK (std 0) oW oZ bP o7)
noncomputable def FT:=R6.c
def Kn:=fun pc l hl=>R6.cs (ag6 ZE ZB uH uI ZF pc l hl)
def ah6:=fun pc l hl=>(Kn pc l hl).1
def uT:=mk Tryz.func183 hlN (afL (std 0))
noncomputable def eD:=uT.c
def xW:=fun a1 a2 a3 a4 a5 a6 o ops hl=>(uT.cs (Zf a1 a2 a3 a4 a5 a6 o ops hl)).1
def xX:=fun a1 a2 a3 a4 a5 a6 o ops hl=>(uT.cs (Zf a1 a2 a3 a4 a5 a6 o ops hl)).2
def GZ:=mk Tryz.func184 (hlC uT.ok hlN) (afM (std 0) eD)
noncomputable def o9:=GZ.c
def ZG:=fun a1 a2 a3 a4 a5 a6 k x ops hl=>(GZ.cs (Zh xW xX a1 a2 a3 a4 a5 a6 k x ops hl)).1
def ZH:=fun a1 a2 a3 a4 a5 a6 k x ops hl=>(GZ.cs (Zh xW xX a1 a2 a3 a4 a5 a6 k x ops hl)).2
def xY:=mk Tryz.func185 (hlC uT.ok hlN) (afN (std 0) eD)
noncomputable def gB:=xY.c
def G5:=fun a1 a2 a3 a4 a5 a6 k ops hl=>(xY.cs (Zg xW xX a1 a2 a3 a4 a5 a6 k ops hl)).1
def G6:=fun a1 a2 a3 a4 a5 a6 k ops hl=>(xY.cs (Zg xW xX a1 a2 a3 a4 a5 a6 k ops hl)).2
def Ko:=mk Tryz.func186 (hlC xY.ok (hlC uT.ok hlN)) (afO (std 0) gB eD)
noncomputable def o8:=Ko.c
def rR:=fun a1 a2 a3 a4 a5 a6 k a o ops hl=>Ko.cs (ag7 G5 G6 xW xX a1 a2 a3 a4 a5 a6 k a o ops hl)
def ZI:=fun a1 a2 a3 a4 a5 a6 k a o ops hl=>(rR a1 a2 a3 a4 a5 a6 k a o ops hl).1
def ZJ:=fun a1 a2 a3 a4 a5 a6 k a o ops hl=>(rR a1 a2 a3 a4 a5 a6 k a o ops hl).2
def R7:=mk Tryz.func187 hlN (afP (std 0))
noncomputable def FR:=R7.c
def ah7:=fun k hk=>(R7.cs (ag9 k hk)).1
def R8:=mk Tryz.func188 (hlC xY.ok (hlC uT.ok (hlC Ko.ok (hlC GZ.ok hlN)))) (afQ (std 0) gB eD o8 o9)
noncomputable def FQ:=R8.c
def uU:=fun a1 a2 a3 a4 a5 a6 i k ops hl=>R8.cs (ag8 G5 G6 xW xX ZI ZJ ZG ZH a1 a2 a3 a4 a5 a6 i k ops hl)
def ah8:=fun a1 a2 a3 a4 a5 a6 i k ops hl=>(uU a1 a2 a3 a4 a5 a6 i k ops hl).1
def ah9:=fun a1 a2 a3 a4 a5 a6 i k ops hl=>(uU a1 a2 a3 a4 a5 a6 i k ops hl).2
def Kq:=mk Tryz.func189 (hlC xY.ok hlN) (afR (std 0) gB)
noncomputable def FP:=Kq.c
def aia:=fun a1 a2 a3 a4 a5 a6 i ops hl=>(Kq.cs (Zi G5 G6 a1 a2 a3 a4 a5 a6 i ops hl)).1
def aib:=fun a1 a2 a3 a4 a5 a6 i ops hl=>(Kq.cs (Zi G5 G6 a1 a2 a3 a4 a5 a6 i ops hl)).2
def R9:=mk Tryz.func146 (hlC xY.ok (hlC Kq.ok (hlC uT.ok (hlC R8.ok (hlC Ko.ok (hlC GZ.ok (hlC R7.ok hlN))))))) (afS (std 0) gB FP eD FQ o8 o9 FR)
noncomputable def FU:=R9.c
def y9:=fun a1 a2 a3 a4 a5 a6 i k ops hk hl=>R9.cs (aha G5 G6 aia aib xW xX ah8 ah9 ZI ZJ ZG ZH ah7 a1 a2 a3 a4 a5 a6 i k ops hk hl)
def aic:=fun a1 a2 a3 a4 a5 a6 i k ops hk hl=>(y9 a1 a2 a3 a4 a5 a6 i k ops hk hl).1
def aie:=fun a1 a2 a3 a4 a5 a6 i k ops hk hl=>(y9 a1 a2 a3 a4 a5 a6 i k ops hk hl).2
def Sb:=mk Tryz.func94 (hlC R6.ok (hlC R9.ok hlN)) (afT (std 0) FT FU)
noncomputable def FV:=Sb.c
def rT:=fun pc l hl hk=>Sb.cs (ahb ah6 aic aie pc l hl hk)
def aif:=fun pc l hl hk=>(rT pc l hl hk).1
def aii:=fun pc l hl hk=>(rT pc l hl hk).2
def Sc:=mk Tryz.func111 (hlC Sb.ok (hlC RY.ok (hlC GV.ok (hlC pE.ok (hlC R5.ok hlN))))) (afU (std 0) FV FW iY bO FX)
noncomputable def F3:=Sc.c
def rU:=fun b p hb h1 h2=>Sc.cs (ahq aif aii ahX ahY RN RO xU xV ah4 ah5 b p hb h1 h2)
def aij:=fun b p hb h1 h2=>(rU b p hb h1 h2).1
def aik:=fun b p hb h1 h2=>(rU b p hb h1 h2).2
end Go.TX.F
namespace Go.TX.F
open Go Go.AE Go.TX Go.TX.Seat Go.Proofs
set_option maxRecDepth 100000
def Sd:=mk Tryz.func112 (hlC pE.ok (hlC Af.ok hlN)) (afV (std 0) bO iX)
noncomputable def FZ:=Sd.c
def uV:=fun c b p hc hb h1 h2=>Sd.cs (ahr xU xV RJ RL c b p hc hb h1 h2)
def ail:=fun c b p hc hb h1 h2=>(uV c b p hc hb h1 h2).1
def ain:=fun c b p hc hb h1 h2=>(uV c b p hc hb h1 h2).2
def Sg:=mk Tryz.func55 (hlC Rz.ok (hlC pE.ok (hlC Sd.ok (hlC Sc.ok hlN)))) (afW (std 0) FY bO FZ F3)
noncomputable def F5:=Sg.c
def nZ:=fun n b p hb h1 h2=>Sg.cs (ahs ahx ahy xU xV ail ain aij aik n b p hb h1 h2)
def aio:=fun n b p hb h1 h2=>(nZ n b p hb h1 h2).1
def aip:=fun n b p hb h1 h2=>(nZ n b p hb h1 h2).2
def Kr:=mk Tryz.func56 hlN (afX (std 0))
noncomputable def F4:=Kr.c
def aiq:=fun b hb hl=>(Kr.cs (Y2 b hb hl)).1
def air:=fun b hb hl=>(Kr.cs (Y2 b hb hl)).2
def Si:=mk Tryz.func15 (hlC Kr.ok (hlC Sg.ok hlN)) (afY (std 0) F4 F5)
noncomputable def Gt:=Si.c
def nA:=fun c hc hl=>Si.cs (ahv aiq air aio aip c hc hl)
def ais:=fun c hc hl=>(nA c hc hl).1
def ait:=fun c hc hl=>(nA c hc hl).2
def kM:=mk Tryz.func73 hlN (alN (std 0))
noncomputable def aV:=kM.c
def kN:=fun a b c=>(kM.cs (abU a b c)).1
def kP:=fun a b c=>(kM.cs (abU a b c)).2
def za:=mk Tryz.func64 (hlC kM.ok hlN) (alO (std 0) aV)
noncomputable def fG:=za.c
def I7:=fun a=>(za.cs (abV kN kP a)).1
def I8:=fun a=>(za.cs (abV kN kP a)).2
def I9:=mk Tryz.func113 (hlC kM.ok hlN) (alP (std 0) aV)
noncomputable def jk:=I9.c
def rV:=fun o=>I9.cs (anw kN kP o)
def Uk:=fun o=>(rV o).1
def Ul:=fun o=>(rV o).2
def Oe:=mk Tryz.func136 (hlC kM.ok hlN) (alQ (std 0) aV)
noncomputable def wz:=Oe.c
def acd:=fun a=>(Oe.cs (abX kN kP a)).1
def ace:=fun a=>(Oe.cs (abX kN kP a)).2
def Og:=mk Tryz.func137 (hlC kM.ok hlN) (alR (std 0) aV)
noncomputable def wu:=Og.c
def acf:=fun a=>(Og.cs (abW kN kP a)).1
def acg:=fun a=>(Og.cs (abW kN kP a)).2
def ZK:=mk Tryz.func171 (hlC kM.ok hlN) (alS (std 0) aV)
noncomputable def M4:=ZK.c
def kQ:=fun o=>ZK.cs (anx kN kP o)
def an1:=fun o=>(kQ o).1
def an2:=fun o=>(kQ o).2
def Um:=mk Tryz.func138 (hlC ZK.ok (hlC kM.ok hlN)) (alT (std 0) M4 aV)
noncomputable def wo:=Um.c
def kR:=fun b x n h0 h1 h2=>Um.cs (anA an1 an2 kN kP b x n h0 h1 h2)
def ach:=fun b x n h0 h1 h2=>(kR b x n h0 h1 h2).1
def aci:=fun b x n h0 h1 h2=>(kR b x n h0 h1 h2).2
def ZL:=mk Tryz.func74 (hlC Um.ok (hlC I9.ok (hlC za.ok (hlC kM.ok (hlC Og.ok (hlC Oe.ok hlN)))))) (alU (std 0) wo jk fG aV wu wz)
noncomputable def M6:=ZL.c
def lF:=fun b i h0 h1 h2 h3=>ZL.cs (anB ach aci Uk Ul I7 I8 kN kP acf acg acd ace b i h0 h1 h2 h3)
def an3:=fun b i h0 h1 h2 h3=>(lF b i h0 h1 h2 h3).1
def an4:=fun b i h0 h1 h2 h3=>(lF b i h0 h1 h2 h3).2
def G7:=mk Tryz.func114 hlN (alV (std 0))
noncomputable def jl:=G7.c
def Un:=fun b=>(G7.cs (ab6 b)).1
def Uo:=fun b=>(G7.cs (ab6 b)).2
def ZM:=mk Tryz.func75 (hlC G7.ok (hlC Um.ok (hlC za.ok (hlC kM.ok hlN)))) (alW (std 0) jl wo fG aV)
noncomputable def M5:=ZM.c
def kS:=fun b h2=>ZM.cs (anC Un Uo ach aci I7 I8 kN kP b h2)
def an5:=fun b h2=>(kS b h2).1
def an6:=fun b h2=>(kS b h2).2
def Ja:=mk Tryz.func26 (hlC ZM.ok (hlC ZL.ok (hlC kM.ok hlN))) (alX (std 0) M5 M6 aV)
noncomputable def jm:=Ja.c
def Bj:=fun b h2=>Ja.cs (anD an5 an6 an3 an4 kN kP b h2)
def Uq:=fun b h2=>(Bj b h2).1
def Ur:=fun b h2=>(Bj b h2).2
def Us:=mk Tryz.func57 hlN (alY (std 0))
noncomputable def M7:=Us.c
def an7:=fun b hb=>(Us.cs (ab8 b hb)).1
def an8:=fun b hb=>(Us.cs (ab8 b hb)).2
def ZN:=mk Tryz.func58 (hlC G7.ok (hlC I9.ok hlN)) (alZ (std 0) jl jk)
noncomputable def M8:=ZN.c
def jN:=fun nm pc len fin x y k ops h=>ZN.cs (anW Un Uo Uk Ul nm pc len fin x y k ops h)
def an9:=fun nm pc len fin x y k ops h=>(jN nm pc len fin x y k ops h).1
def aoa:=fun nm pc len fin x y k ops h=>(jN nm pc len fin x y k ops h).2
def ZO:=mk Tryz.func16 (hlC Us.ok (hlC ZN.ok (hlC Ja.ok hlN))) (al0 (std 0) M7 M8 jm)
noncomputable def NJ:=ZO.c
def uW:=fun b hb=>ZO.cs (anX an7 an8 an9 aoa Uq Ur b hb)
def aob:=fun b hb=>(uW b hb).1
def aoc:=fun b hb=>(uW b hb).2
def Ut:=mk Tryz.func17 hlN (al1 (std 0))
noncomputable def NP:=Ut.c
def aod:=fun a b ha=>(Ut.cs (ab9 a b ha)).1
def aoe:=fun a b ha=>(Ut.cs (ab9 a b ha)).2
def ZP:=mk Tryz.func20 (hlC za.ok hlN) (al2 (std 0) fG)
noncomputable def NQ:=ZP.c
def Bn:=ZP.cs (ant I7 I8)
def aof:=(Bn).1
def aog:=(Bn).2
def ZQ:=mk Tryz.func65 (hlC G7.ok (hlC I9.ok hlN)) (al3 (std 0) jl jk)
noncomputable def M9:=ZQ.c
def lG:=fun b ok=>ZQ.cs (anY Un Uo Uk Ul b ok)
def aoh:=fun b ok=>(lG b ok).1
def aoi:=fun b ok=>(lG b ok).2
def ZR:=mk Tryz.func21 (hlC ZQ.ok (hlC Ja.ok hlN)) (al4 (std 0) M9 jm)
noncomputable def NK:=ZR.c
def uX:=fun b hb=>ZR.cs (anZ aoh aoi Uq Ur b hb)
def aoj:=fun b hb=>(uX b hb).1
def aol:=fun b hb=>(uX b hb).2
def Kt:=mk Tryz.func117 hlN (afZ (std 0))
noncomputable def F6:=Kt.c
def aiu:=fun a b ha=>(Kt.cs (Zp a b ha)).1
def aiv:=fun a b ha=>(Kt.cs (Zp a b ha)).2
def ZT:=mk Tryz.func66 (hlC Kt.ok hlN) (al5 (std 0) F6)
noncomputable def NC:=ZT.c
def wS:=fun a b ha=>ZT.cs (anQ aiu aiv a b ha)
def aom:=fun a b ha=>(wS a b ha).1
def aon:=fun a b ha=>(wS a b ha).2
def Uu:=mk Tryz.func252 hlN (al6 (std 0))
noncomputable def Na:=Uu.c
def aoo:=fun a n=>(Uu.cs (abY a n)).1
def aop:=fun a n=>(Uu.cs (abY a n)).2
def Sj:=mk Tryz.func275 (hlC Uu.ok hlN) (af0 (std 0) Na)
noncomputable def F7:=Sj.c
def iC:=fun a n ha=>Sj.cs (agB aoo aop a n ha)
def aiw:=fun a n ha=>(iC a n ha).1
def aix:=fun a n ha=>(iC a n ha).2
def Sk:=mk Tryz.func251 (hlC Sj.ok hlN) (af2 (std 0) F7)
noncomputable def F8:=Sk.c
def gJ:=fun a n ha=>Sk.cs (agC aiw aix a n ha)
def aiy:=fun a n ha=>(gJ a n ha).1
def aiz:=fun a n ha=>(gJ a n ha).2
def Uv:=mk Tryz.func210 (hlC Sk.ok hlN) (al7 (std 0) F8)
noncomputable def wB:=Uv.c
def rW:=fun a n ha=>Uv.cs (amZ aiy aiz a n ha)
def acj:=fun a n ha=>(rW a n ha).1
def acn:=fun a n ha=>(rW a n ha).2
def ZU:=mk Tryz.func257 hlN (aqA (std 0))
noncomputable def Hu:=ZU.c
def aoq:=fun a=>(ZU.cs (amV a)).1
def aor:=fun a=>(ZU.cs (amV a)).2
def ZV:=mk Tryz.func217 (hlC ZU.ok hlN) (aqB (std 0) Hu)
noncomputable def xO:=ZV.c
def og:=fun a b=>ZV.cs (aqF aoq aor a b)
def aiA:=fun a b=>(og a b).1
def aiB:=fun a b=>(og a b).2
def ZW:=mk Tryz.func218 hlN (aqC (std 0))
noncomputable def Hw:=ZW.c
def aos:=fun a b=>(ZW.cs (amW a b)).1
def aot:=fun a b=>(ZW.cs (amW a b)).2
def ZX:=mk Tryz.func258 (hlC ZV.ok hlN) (al8 (std 0) xO)
noncomputable def Nb:=ZX.c
def iN:=fun a b ha=>ZX.cs (amX aiA aiB a b ha)
def aou:=fun a b ha=>(iN a b ha).1
def aov:=fun a b ha=>(iN a b ha).2
def Jb:=mk Tryz.func219 (hlC ZW.ok (hlC ZV.ok (hlC ZX.ok hlN))) (al9 (std 0) Hw xO Nb)
noncomputable def jo:=Jb.c
def oh:=fun a b ha=>Jb.cs (amY aiA aiB aou aov aos aot a b ha)
def Uw:=fun a b ha=>(oh a b ha).1
def Ux:=fun a b ha=>(oh a b ha).2
def ZY:=mk Tryz.func259 (hlC ZU.ok hlN) (aqD (std 0) Hu)
noncomputable def xP:=ZY.c
def uY:=fun a b=>ZY.cs (aqG aoq aor a b)
def aow:=fun a b=>(uY a b).1
def aox:=fun a b=>(uY a b).2
def Sl:=mk Tryz.func221 (hlC ZY.ok hlN) (af3 (std 0) xP)
noncomputable def Ga:=Sl.c
def iK:=fun a ha=>Sl.cs (agA aow aox a ha)
def aiC:=fun a ha=>(iK a ha).1
def aiD:=fun a ha=>(iK a ha).2
def Uy:=mk Tryz.func223 hlN (ama (std 0))
noncomputable def Nc:=Uy.c
def aoy:=fun m=>(Uy.cs (abZ m)).1
def aoz:=fun m=>(Uy.cs (abZ m)).2
def Sn:=mk Tryz.func260 (hlC Uy.ok hlN) (af4 (std 0) Nc)
noncomputable def F9:=Sn.c
def cZ:=fun a ha=>Sn.cs (agD (G:=(fun m:aj=>0<m.atoms.length∧m.atoms.getD 0 default<0)) aoy aoz a ha)
def aiE:=fun a ha=>(cZ a ha).1
def aiF:=fun a ha=>(cZ a ha).2
def Sq:=mk Tryz.func222 (hlC Sn.ok hlN) (af5 (std 0) F9)
noncomputable def Gb:=Sq.c
def bY:=fun a ha=>Sq.cs (agE (G:=(fun m:aj=>0<m.atoms.length∧m.atoms.getD 0 default<0)) aiE aiF a ha)
def aiG:=fun a ha=>(bY a ha).1
def aiH:=fun a ha=>(bY a ha).2
def ze:=mk Tryz.func164 (hlC kM.ok (hlC Uv.ok (hlC Sl.ok (hlC Jb.ok (hlC Sq.ok hlN))))) (amb (std 0) aV wB Ga jo Gb)
noncomputable def dU:=ze.c
def zf:=fun a ha=>ze.cs (am0 kN kP acj acn aiC aiD Uw Ux aiG aiH a ha)
def G8:=fun a ha=>(zf a ha).1
def G9:=fun a ha=>(zf a ha).2
end Go.TX.F
namespace Go.TX.F
open Go Go.AE Go.TX Go.TX.Seat Go.Proofs
set_option maxRecDepth 100000
def Uz:=mk Tryz.func158 (hlC kM.ok (hlC Og.ok (hlC Uv.ok (hlC ze.ok (hlC Oe.ok hlN))))) (amc (std 0) aV wu wB dU wz)
noncomputable def wC:=Uz.c
def jJ:=fun a n ha=>Uz.cs (ang kN kP acf acg acj acn G8 G9 acd ace a n ha)
def aco:=fun a n ha=>(jJ a n ha).1
def acp:=fun a n ha=>(jJ a n ha).2
def Oh:=mk Tryz.func161 (hlC ZW.ok (hlC ZV.ok (hlC Jb.ok hlN))) (amd (std 0) Hw xO jo)
noncomputable def mO:=Oh.c
def rX:=fun a b ha=>Oh.cs (am1 aos aot aiA aiB Uw Ux a b ha)
def Z0:=fun a b ha=>(rX a b ha).1
def Z4:=fun a b ha=>(rX a b ha).2
def Bo:=mk Tryz.func128 (hlC Oh.ok hlN) (ame (std 0) mO)
noncomputable def fH:=Bo.c
def lH:=fun a b ha=>Bo.cs (am2 Z0 Z4 a b ha)
def Jc:=fun a b ha=>(lH a b ha).1
def Jd:=fun a b ha=>(lH a b ha).2
def Z5:=mk Tryz.func213 (hlC Bo.ok hlN) (amf (std 0) fH)
noncomputable def Ng:=Z5.c
def lI:=fun a b ha=>Z5.cs (anb Jc Jd a b ha)
def aoA:=fun a b ha=>(lI a b ha).1
def aoB:=fun a b ha=>(lI a b ha).2
def Z6:=mk Tryz.func212 (hlC Z5.ok hlN) (amg (std 0) Ng)
noncomputable def Nh:=Z6.c
def kU:=fun a b hb=>Z6.cs (ane aoA aoB a b hb)
def aoC:=fun a b hb=>(kU a b hb).1
def aoD:=fun a b hb=>(kU a b hb).2
def Sr:=mk Tryz.func211 (hlC Z6.ok hlN) (af6 (std 0) Nh)
noncomputable def Gc:=Sr.c
def dh:=fun a b ha hb=>Sr.cs (agF aoC aoD a b ha hb)
def aiI:=fun a b ha hb=>(dh a b ha hb).1
def aiJ:=fun a b ha hb=>(dh a b ha hb).2
def UA:=mk Tryz.func159 (hlC Sr.ok hlN) (amh (std 0) Gc)
noncomputable def wD:=UA.c
def nC:=fun a b ha hb=>UA.cs (anf aiI aiJ a b ha hb)
def acr:=fun a b ha hb=>(nC a b ha hb).1
def acs:=fun a b ha hb=>(nC a b ha hb).2
def Z7:=mk Tryz.func220 hlN (ami (std 0))
noncomputable def Ni:=Z7.c
def dP:=fun a=>Z7.cs (ana a)
def aoE:=fun a=>(dP a).1
def aoF:=fun a=>(dP a).2
def UC:=mk Tryz.func162 (hlC Uz.ok (hlC UA.ok (hlC Z7.ok hlN))) (amj (std 0) wC wD Ni)
noncomputable def wF:=UC.c
def om:=fun t a ht ha=>UC.cs (ani aco acp acr acs aoE aoF t a ht ha)
def acu:=fun t a ht ha=>(om t a ht ha).1
def acv:=fun t a ht ha=>(om t a ht ha).2
def UD:=mk Tryz.func163 (hlC kM.ok hlN) (amk (std 0) aV)
noncomputable def wE:=UD.c
def uZ:=fun a=>UD.cs (am5 kN kP a)
def acw:=fun a=>(uZ a).1
def acy:=fun a=>(uZ a).2
def UE:=mk Tryz.func124 (hlC UD.ok (hlC UC.ok hlN)) (aml (std 0) wE wF)
noncomputable def wG:=UE.c
def qy:=fun kd k t fl ht=>UE.cs (anH acw acy acu acv kd k t fl ht)
def acz:=fun kd k t fl ht=>(qy kd k t fl ht).1
def acA:=fun kd k t fl ht=>(qy kd k t fl ht).2
def UF:=mk Tryz.func118 (hlC UE.ok hlN) (amm (std 0) wG)
noncomputable def wJ:=UF.c
def oq:=fun t fl ht hl=>UF.cs (anI acz acA t fl ht hl)
def acB:=fun t fl ht hl=>(oq t fl ht hl).1
def acC:=fun t fl ht hl=>(oq t fl ht hl).2
def Oi:=mk Tryz.func190 hlN (amn (std 0))
noncomputable def wH:=Oi.c
def acD:=fun a ha=>(Oi.cs (ab1 a ha)).1
def acE:=fun a ha=>(Oi.cs (ab1 a ha)).2
def Oj:=mk Tryz.func157 (hlC Oi.ok hlN) (amo (std 0) wH)
noncomputable def mP:=Oj.c
def kV:=fun a ha=>Oj.cs (am7 acD acE a ha)
def Z8:=fun a ha=>(kV a ha).1
def Z9:=fun a ha=>(kV a ha).2
def UG:=mk Tryz.func119 (hlC Oj.ok hlN) (amq (std 0) mP)
noncomputable def wI:=UG.c
def lJ:=fun a ha=>UG.cs (am8 Z8 Z9 a ha)
def acF:=fun a ha=>(lJ a ha).1
def acG:=fun a ha=>(lJ a ha).2
def aac:=mk Tryz.func67 (hlC UG.ok (hlC UF.ok hlN)) (amr (std 0) wI wJ)
noncomputable def ND:=aac.c
def wT:=aac.cs (anK acF acG acB acC)
def aoG:=(wT).1
def aoH:=(wT).2
def aad:=mk Tryz.func76 (hlC kM.ok hlN) (ams (std 0) aV)
noncomputable def Nt:=aad.c
def ou:=fun o=>aad.cs (anz kN kP o)
def aoI:=fun o=>(ou o).1
def aoJ:=fun o=>(ou o).2
def aae:=mk Tryz.func120 (hlC Uz.ok (hlC UA.ok hlN)) (amt (std 0) wC wD)
noncomputable def Nv:=aae.c
def zh:=fun a ha=>aae.cs (anh aco acp acr acs a ha)
def aoK:=fun a ha=>(zh a ha).1
def aoL:=fun a ha=>(zh a ha).2
def aaf:=mk Tryz.func121 hlN (amu (std 0))
noncomputable def Ny:=aaf.c
def dM:=fun a h0 h1=>aaf.cs (anJ a h0 h1)
def aoM:=fun a h0 h1=>(dM a h0 h1).1
def aoN:=fun a h0 h1=>(dM a h0 h1).2
def Ol:=mk Tryz.func122 (hlC kM.ok hlN) (amv (std 0) aV)
noncomputable def mR:=Ol.c
def rY:=fun a=>Ol.cs (am4 kN kP a)
def aag:=fun a=>(rY a).1
def aah:=fun a=>(rY a).2
def Je:=mk Tryz.func141 hlN (amw (std 0))
noncomputable def mQ:=Je.c
def aai:=fun a=>(Je.cs (ab0 a)).1
def aaj:=fun a=>(Je.cs (ab0 a)).2
def aak:=mk Tryz.func86 (hlC za.ok (hlC Je.ok hlN)) (amx (std 0) fG mQ)
noncomputable def Nk:=aak.c
def zi:=fun op a b=>aak.cs (am3 I7 I8 aai aaj op a b)
def aoO:=fun op a b=>(zi op a b).1
def aoP:=fun op a b=>(zi op a b).2
def UH:=mk Tryz.func166 (hlC ze.ok hlN) (amy (std 0) dU)
noncomputable def wM:=UH.c
def wU:=fun a ha=>UH.cs (am6 G8 G9 a ha)
def acH:=fun a ha=>(wU a ha).1
def acI:=fun a ha=>(wU a ha).2
def UJ:=mk Tryz.func277 (hlC Jb.ok hlN) (amA (std 0) jo)
noncomputable def nX:=UJ.c
def zk:=fun a b ha=>UJ.cs (am9 Uw Ux a b ha)
def acJ:=fun a b ha=>(zk a b ha).1
def acK:=fun a b ha=>(zk a b ha).2
def Sv:=mk Tryz.func309 (hlC UJ.ok hlN) (af7 (std 0) nX)
noncomputable def Gf:=Sv.c
def dA:=fun a b d hd h1 h2 h3=>Sv.cs (agH acJ acK a b d hd h1 h2 h3)
def aiK:=fun a b d hd h1 h2 h3=>(dA a b d hd h1 h2 h3).1
def aiL:=fun a b d hd h1 h2 h3=>(dA a b d hd h1 h2 h3).2
def Ku:=mk Tryz.func319 hlN (af8 (std 0))
noncomputable def Gd:=Ku.c
def aiM:=fun a b n d hl h1 h2 h3 h4=>(Ku.cs (YO a b n d hl h1 h2 h3 h4)).1
def aiN:=fun a b n d hl h1 h2 h3 h4=>(Ku.cs (YO a b n d hl h1 h2 h3 h4)).2
def Sw:=mk Tryz.func317 (hlC Ku.ok hlN) (af9 (std 0) Gd)
noncomputable def qW:=Sw.c
def eU:=fun a m b d hl h1 h2 h3 h4=>Sw.cs (agG aiM aiN a m b d hl h1 h2 h3 h4)
def aiO:=fun a m b d hl h1 h2 h3 h4=>(eU a m b d hl h1 h2 h3 h4).1
def aiP:=fun a m b d hl h1 h2 h3 h4=>(eU a m b d hl h1 h2 h3 h4).2
noncomputable def cK:Nat→Ct aC mJ
 | 0=>never mJ
 | k+1=>cn (Fh (std 0) nX.pre nX.fn qW.pre qW.fn (cK k).pre (cK k).fn)
theorem kK:∀k:Nat,bZ E 310 (bW (cK k))∧∀(a m b:Int) (d:List aj),zY a m b d→b-a<k→(cK k).pre (a,m,b,d,())=true∧Mrg d ((cK k).fn (a,m,b,d,())).1 a b
 | 0=>⟨jI (enters_of Tryz.func310 (by kernel_rfl) rfl),fun a m b d h1 h2=>(by have g1:=h1.h2;have g2:=h1.h3;omega)⟩
 | k+1=>by
  have ih:=kK k
  have t:Fn E 310 (Fh (std 0) nX.pre nX.fn qW.pre qW.fn (cK k).pre (cK k).fn) (cK (k+1)):=mk Tryz.func310 (hlC UJ.ok (hlC Sw.ok (hlC ih.1 hlN))) (aga (std 0) nX qW (cK k))
  exact⟨t.ok,fun a m b d h1 h2=>t.cs (agI acJ acK aiO aiP (k:Int) (fun a m b d h1 h2=>(ih.2 a m b d h1 h2).1) (fun a m b d h1 h2=>(ih.2 a m b d h1 h2).2) a m b d h1 (by omega))⟩
noncomputable def pq:Ct aC mJ:=cK 1000000000
theorem aiQ:bZ E 310 (bW pq):=(kK 1000000000).1
theorem acL {a m b:Int} {d:List aj} (h:zY a m b d):b-a< ((1000000000:Nat):Int):=by have g0:=h.sh.1;have g1:=h.h1;have g2:=h.h4;omega
def aiR:=fun a m b d h=>((kK 1000000000).2 a m b d h (acL h)).1
def aiS:=fun a m b d h=>((kK 1000000000).2 a m b d h (acL h)).2
def Sy:=mk Tryz.func291 (hlC Sv.ok (hlC aiQ hlN)) (agb (std 0) Gf pq)
noncomputable def Gg:=Sy.c
def eX:=fun n d hd hn=>Sy.cs (agJ aiK aiL aiR aiS n d hd hn)
def aiT:=fun n d hd hn=>(eX n d hd hn).1
def aiU:=fun n d hd hn=>(eX n d hd hn).2
def Sz:=mk Tryz.func276 (hlC Sy.ok hlN) (agc (std 0) Gg)
noncomputable def Gh:=Sz.c
def bT:=fun d hd=>Sz.cs (agK aiT aiU d hd)
def aiV:=fun d hd=>(bT d hd).1
def aiW:=fun d hd=>(bT d hd).2
def UK:=mk Tryz.func253 (hlC Jb.ok (hlC ze.ok (hlC Je.ok (hlC Oi.ok (hlC Sz.ok hlN))))) (amB (std 0) jo dU mQ wH Gh)
noncomputable def wK:=UK.c
def Hg:=fun l hl hc=>UK.cs (ank Uw Ux G8 G9 aai aaj acD acE aiV aiW l hl hc)
def acM:=fun l hl hc=>(Hg l hl hc).1
def acN:=fun l hl hc=>(Hg l hl hc).2
end Go.TX.F
namespace Go.TX.F
open Go Go.AE Go.TX Go.TX.Seat Go.Proofs
set_option maxRecDepth 100000
def SA:=mk Tryz.func278 hlN (agd (std 0))
noncomputable def Gi:=SA.c
def dQ:=fun n h1 h2=>SA.cs (agL n h1 h2)
def aiX:=fun n h1 h2=>(dQ n h1 h2).1
def aiY:=fun n h1 h2=>(dQ n h1 h2).2
def aal:=mk Tryz.func254 (hlC SA.ok hlN) (amC (std 0) Gi)
noncomputable def Nj:=aal.c
def dF:=fun a b ha hb=>aal.cs (anl aiX aiY a b ha hb)
def aoQ:=fun a b ha hb=>(dF a b ha hb).1
def aoR:=fun a b ha hb=>(dF a b ha hb).2
def aam:=mk Tryz.func214 (hlC ze.ok (hlC UK.ok (hlC aal.ok hlN))) (amD (std 0) dU wK Nj)
noncomputable def Nl:=aam.c
def wV:=fun a b ha hb=>aam.cs (anm G8 G9 acM acN aoQ aoR a b ha hb)
def aoS:=fun a b ha hb=>(wV a b ha hb).1
def aoT:=fun a b ha hb=>(wV a b ha hb).2
def Kv:=mk Tryz.func279 hlN (agf (std 0))
noncomputable def Gj:=Kv.c
def aiZ:=fun n h1 h2=>(Kv.cs (YQ n h1 h2)).1
def ai0:=fun n h1 h2=>(Kv.cs (YQ n h1 h2)).2
def SB:=mk Tryz.func255 (hlC Kv.ok hlN) (agh (std 0) Gj)
noncomputable def Gp:=SB.c
def jr:=fun a b ha hb=>SB.cs (agM aiZ ai0 a b ha hb)
def ai1:=fun a b ha hb=>(jr a b ha hb).1
def ai2:=fun a b ha hb=>(jr a b ha hb).2
def SE:=mk Tryz.func292 (hlC ZY.ok hlN) (agi (std 0) xP)
noncomputable def Gm:=SE.c
def fJ:=fun a b d hd h1 h2=>SE.cs (agQ aow aox a b d hd h1 h2)
def ai3:=fun a b d hd h1 h2=>(fJ a b d hd h1 h2).1
def ai4:=fun a b d hd h1 h2=>(fJ a b d hd h1 h2).2
noncomputable def zQ:Ct aC EG:=never EG
theorem ai5:bZ E 293 (bW zQ):=jI (enters_of Tryz.func293 (by kernel_rfl) rfl)
noncomputable def zR:Ct aC EH:=never EH
theorem ai6:bZ E 294 (bW zR):=jI (enters_of Tryz.func294 (by kernel_rfl) rfl)
noncomputable def zS:Ct aC EI:=never EI
theorem ai7:bZ E 295 (bW zS):=jI (enters_of Tryz.func295 (by kernel_rfl) rfl)
noncomputable def zT:Ct aC EJ:=never EJ
theorem ai8:bZ E 296 (bW zT):=jI (enters_of Tryz.func296 (by kernel_rfl) rfl)
noncomputable def zU:Ct aC EK:=never EK
theorem ai9:bZ E 297 (bW zU):=jI (enters_of Tryz.func297 (by kernel_rfl) rfl)
noncomputable def zV:Ct aC EL:=never EL
theorem aja:bZ E 298 (bW zV):=jI (enters_of Tryz.func298 (by kernel_rfl) rfl)
noncomputable def zW:Ct aC EM:=never EM
theorem ajb:bZ E 299 (bW zW):=jI (enters_of Tryz.func299 (by kernel_rfl) rfl)
noncomputable def gX:Ct aC oK:=never oK
theorem lg:bZ E 280 (bW gX):=jI (enters_of Tryz.func280 (by kernel_rfl) rfl)
def SF:=mk Tryz.func280 (hlC ZY.ok (hlC SE.ok (hlC ai5 (hlC ai6 (hlC ai7 (hlC ai8 (hlC ai9 (hlC aja (hlC ajb (hlC lg hlN)))))))))) (agj (std 0) xP Gm zQ zR zS zT zU zV zW gX)
noncomputable def qX:=SF.c
def ig:=fun a b k d hd h1 h2=>SF.cs (agR ai3 ai4 _ _ _ _ _ _ _ _ _ _ _ _ _ _ _ _ a b k d hd h1 h2)
def ajc:=fun a b k d hd h1 h2=>(ig a b k d hd h1 h2).1
def ajd:=fun a b k d hd h1 h2=>(ig a b k d hd h1 h2).2
noncomputable def Gn:Ct aC TK:={pre:=fun x=>decide ((0:Int)≤x.1)&&decide ((x.1:Int)≤18446744073709551615),fn:=fun x=>((Lib.bitLen (x.1:Int).toNat:Int),())}
theorem aoU (n:Int) (h1:0≤n) (h2:n≤18446744073709551615):Gn.pre (n,())=true:=by
 show(decide _&&decide _)=true;simp only [Bool.and_eq_true,decide_eq_true_eq];exact⟨h1,h2⟩
theorem aoV:bZ E 281 (bW Gn):=
 Zr (enters_of Tryz.func281 (by kernel_rfl) rfl) rfl fun x w h=>by
  have h':(decide ((0:Int)≤x)&&decide (x≤18446744073709551615))=true:=h
  simp only [Bool.and_eq_true,decide_eq_true_eq]at h'
  exact bits_Len x w h'.1 h'.2
def SG:=mk Tryz.func256 (hlC SF.ok (hlC aoV hlN)) (agk (std 0) qX Gn)
noncomputable def Gq:=SG.c
def jO:=fun a ha=>SG.cs (agS ajc ajd aoU a ha)
def aje:=fun a ha=>(jO a ha).1
def ajf:=fun a ha=>(jO a ha).2
def UL:=mk Tryz.func216 (hlC ze.ok (hlC Je.ok (hlC UK.ok (hlC SB.ok (hlC SG.ok hlN))))) (amE (std 0) dU mQ wK Gp Gq)
noncomputable def wL:=UL.c
def wW:=fun a b ha hb=>UL.cs (ano G8 G9 aai aaj acM acN ai1 ai2 aje ajf a b ha hb)
def acO:=fun a b ha hb=>(wW a b ha hb).1
def acP:=fun a b ha hb=>(wW a b ha hb).2
def aan:=mk Tryz.func215 (hlC ze.ok (hlC Ol.ok (hlC za.ok (hlC UL.ok hlN)))) (amF (std 0) dU mR fG wL)
noncomputable def Nn:=aan.c
def rZ:=fun a n ha=>aan.cs (anp G8 G9 aag aah I7 I8 acO acP a n ha)
def aoW:=fun a n ha=>(rZ a n ha).1
def aoX:=fun a n ha=>(rZ a n ha).2
def aao:=mk Tryz.func160 (hlC Bo.ok (hlC Ol.ok (hlC aak.ok (hlC aam.ok (hlC UL.ok (hlC aan.ok (hlC UH.ok hlN))))))) (amG (std 0) fH mR Nk Nl wL Nn wM)
noncomputable def Np:=aao.c
def wX:=fun op x y hx hy=>aao.cs (anq Jc Jd aag aah aoO aoP aoS aoT acO acP aoW aoX acH acI op x y hx hy)
def aoY:=fun op x y hx hy=>(wX op x y hx hy).1
def aoZ:=fun op x y hx hy=>(wX op x y hx hy).2
def aap:=mk Tryz.func123 (hlC Oh.ok (hlC aao.ok (hlC UC.ok (hlC UD.ok hlN)))) (amH (std 0) mO Np wF wE)
noncomputable def Nw:=aap.c
def qz:=fun t op x y ht hx hy=>aap.cs (anr Z0 Z4 aoY aoZ acu acv acw acy t op x y ht hx hy)
def ao0:=fun t op x y ht hx hy=>(qz t op x y ht hx hy).1
def ao1:=fun t op x y ht hx hy=>(qz t op x y ht hx hy).2
def aaq:=mk Tryz.func87 (hlC za.ok hlN) (amI (std 0) fG)
noncomputable def Ns:=aaq.c
def wY:=fun r a b=>aaq.cs (anE I7 I8 r a b)
def ao2:=fun r a b=>(wY r a b).1
def ao3:=fun r a b=>(wY r a b).2
def aar:=mk Tryz.func224 (hlC Oj.ok hlN) (amJ (std 0) mP)
noncomputable def Nq:=aar.c
def ow:=fun a ha=>aar.cs (anF Z8 Z9 a ha)
def ao4:=fun a ha=>(ow a ha).1
def ao5:=fun a ha=>(ow a ha).2
def aas:=mk Tryz.func165 (hlC Oj.ok (hlC aar.ok hlN)) (amK (std 0) mP Nq)
noncomputable def Nr:=aas.c
def lK:=fun s hs=>aas.cs (anG Z8 Z9 ao4 ao5 s hs)
def ao6:=fun s hs=>(lK s hs).1
def ao7:=fun s hs=>(lK s hs).2
def aat:=mk Tryz.func125 (hlC UH.ok (hlC ze.ok (hlC Oh.ok (hlC aas.ok (hlC Bo.ok (hlC aaq.ok hlN)))))) (amL (std 0) wM dU mO Nr fH Ns)
noncomputable def Nu:=aat.c
def wZ:=fun s n hs h0 h1=>aat.cs (anL acH acI G8 G9 Z0 Z4 ao6 ao7 Jc Jd ao2 ao3 s n hs h0 h1)
def ao8:=fun s n hs h0 h1=>(wZ s n hs h0 h1).1
def ao9:=fun s n hs h0 h1=>(wZ s n hs h0 h1).2
def aau:=mk Tryz.func68 (hlC G7.ok (hlC Ja.ok (hlC aad.ok (hlC I9.ok (hlC Ol.ok (hlC aat.ok (hlC aae.ok (hlC UG.ok (hlC aap.ok (hlC UE.ok (hlC UF.ok (hlC aaf.ok hlN)))))))))))) (amM (std 0) jl jm Nt jk mR Nu Nv wI Nw wG wJ Ny)
noncomputable def NG:=aau.c
def w9:=fun t b ht hb=>aau.cs (anM Un Uo Uq Ur aoI aoJ Uk Ul aag aah ao8 ao9 aoK aoL acF acG ao0 ao1 acz acA acB acC aoM aoN t b ht hb)
def apa:=fun t b ht hb=>(w9 t b ht hb).1
def apb:=fun t b ht hb=>(w9 t b ht hb).2
def aav:=mk Tryz.func168 (hlC Bo.ok hlN) (amN (std 0) fH)
noncomputable def Nz:=aav.c
def nD:=fun a b ha=>aav.cs (anR Jc Jd a b ha)
def apc:=fun a b ha=>(nD a b ha).1
def apd:=fun a b ha=>(nD a b ha).2
def SH:=mk Tryz.func167 (hlC aav.ok hlN) (agl (std 0) Nz)
noncomputable def Gr:=SH.c
def aZ:=fun a b ha=>SH.cs (aht apc apd a b ha)
def ajg:=fun a b ha=>(aZ a b ha).1
def ajh:=fun a b ha=>(aZ a b ha).2
def UM:=mk Tryz.func129 (hlC SH.ok hlN) (amO (std 0) Gr)
noncomputable def wN:=UM.c
def qA:=fun a b ha=>UM.cs (anS ajg ajh a b ha)
def acQ:=fun a b ha=>(qA a b ha).1
def acR:=fun a b ha=>(qA a b ha).2
def aaw:=mk Tryz.func127 (hlC Bo.ok (hlC UM.ok hlN)) (amP (std 0) fH wN)
noncomputable def NA:=aaw.c
def qB:=fun a b ha=>aaw.cs (anT Jc Jd acQ acR a b ha)
def ape:=fun a b ha=>(qB a b ha).1
def apf:=fun a b ha=>(qB a b ha).2
def SK:=mk Tryz.func126 (hlC aaw.ok hlN) (agm (std 0) NA)
noncomputable def Gs:=SK.c
def aT:=fun a b ha=>SK.cs (ahu ape apf a b ha)
def aji:=fun a b ha=>(aT a b ha).1
def ajj:=fun a b ha=>(aT a b ha).2
end Go.TX.F
namespace Go.TX.F
open Go Go.AE Go.TX Go.TX.Seat Go.Proofs
set_option maxRecDepth 100000
def aax:=mk Tryz.func69 (hlC Bo.ok (hlC UM.ok (hlC SK.ok hlN))) (amQ (std 0) fH wN Gs)
noncomputable def NH:=aax.c
def u7:=fun a b ha=>aax.cs (anU Jc Jd acQ acR aji ajj a b ha)
def apg:=fun a b ha=>(u7 a b ha).1
def aph:=fun a b ha=>(u7 a b ha).2
def aay:=mk Tryz.func22 (hlC Ja.ok (hlC ZT.ok (hlC aac.ok (hlC aau.ok (hlC aax.ok hlN))))) (amR (std 0) jm NC ND NG NH)
noncomputable def NI:=aay.c
def vg:=fun b c hb hc=>aay.cs (anV Uq Ur aom aon aoG aoH apa apb apg aph b c hb hc)
def apj:=fun b c hb hc=>(vg b c hb hc).1
def apk:=fun b c hb hc=>(vg b c hb hc).2
def acS:=mk Tryz.func3 (hlC aay.ok (hlC ZO.ok (hlC ZR.ok (hlC Ut.ok (hlC ZP.ok (hlC Si.ok (hlC uK.ok (hlC GV.ok hlN)))))))) (amS (std 0) NI NJ NK NP NQ Gt dw iY)
def qC:=fun c hc=>acS.cs (an0 apj apk aob aoc aoj aol aod aoe aof aog ais ait Ad Ae RN RO c hc)
def apl:=fun c hc=>(qC c hc).1
def apm:=fun c hc=>(qC c hc).2
end Go.TX.F
namespace Go.TX.F
open Go Go.AE Go.TX Go.TX.Seat Go.Proofs
set_option maxRecDepth 100000
end Go.TX.F
namespace Go.Proofs.YtkecklmejhogoaaGreat
open Go.ChangeShapes Go.WideShapes Go.ChangeAt Go.RowKit
theorem aqP:ownKnob Tryz.prog.godebug=Option.none:=by kernel_rfl
theorem apn:laidOutB Tryz.prog=true:=by kernel_rfl
theorem ajk:Tryz.prog.cellsOf 5=1:=by kernel_rfl
set_option maxRecDepth 100000 in
theorem lifted (os:Os) (started:os.Started) (H:Type) (enc:TypeId×Value→H):
  ReturnsInHanded {} Tryz.checked os 3 .any (Rows.fnOptCopySpec.pre6 enc Tryz.prog Tryz.f3 Rows.fnOptCopyRow.domain false) (Rows.fnOptCopySpec.post enc Tryz.prog Tryz.f3 false true false false):=by
 refine returnsInHanded_of_change (C:=Tryz.checked) aqP started (by kernel_rfl) Tryz.func3
  (ChangeSpec.witness6 (enc:=enc) (C:=Tryz.checked) false ⟨#[], #[.slice none 0 0],[]⟩ 8 (by kernel_rfl) (by kernel_rfl) (by kernel_rfl) (by kernel_rfl)) ?_
 intro W base args ds gs before hval0 hW _ _
 have hval:∀(j:Nat) t v,Tryz.f3.params[j]? =some t→args[j]? =some v→Value.okWide Tryz.prog W .any base t v:=hval0
 have hW':=hW
 obtain⟨p,q,hA0,hV,rfl,_,_⟩:=hW
 have hA:DataW.TrodAll enc Tryz.prog W 0 (fun _=>true) true Tryz.f3.params.toList args.toList ds p:=hA0
 rw [Tryz.params3]at hA hval
 obtain⟨v0,d0,rfl,rfl,h0⟩:=trodAll_one hA
 obtain⟨rfl,rfl⟩:=trodVars_none hV
 clear hA0 hval0
 simp only [List.append_nil]at hW'
 have hlt:∀x∈p,x.block<W.heap.size:=fun x hx=>by simpa using hW'.lt x hx
 obtain⟨xs,hr,hb⟩:=Go.TX.Zq Tryz.underlying22 Tryz.underlying5 ajk (hval 0 22 v0 rfl rfl) h0 hlt
 have hp:=Go.TX.F.apl xs hb
 have hq:=Go.TX.F.apm xs hb
 refine(Go.TX.aqM Go.TX.F.acS.ok hr (fun g d h=>by cases h) hp).mono fun e W' ⟨he,hw⟩=> ?_
 have he:e= .returned (.bool true):=he.trans (congrArg (fun z:Bool×Unit=>Ending.returned (.bool z.1)) hq)
 refine⟨_,he,[d0],[],p,[],p,[],hW',trodAll_mk1 (shut_bool Tryz.underlying4 true),?_,rfl,hw.frame _,fun h=>by cases h⟩
 exact trodAll_mk1 (Below.trod apn (by kernel_rfl) (of_decide_eq_true (by kernel_rfl)) h0 hw hlt)
theorem y1:Tryz.pinned.checked.prog.funcNamed Rows.fnOptCopyRow.func=some 3:=by kernel_rfl
theorem aS {a b:Bool} (h:a=true) (k:b=true):(a&&b)=true:=by rw [h,k];rfl
set_option maxHeartbeats 4000000 in
theorem y2:joinedFacts Tryz.pinned.checked.prog 3 Tryz.f3 Rows.fnOptCopySpec Rows.fnOptCopyRow=true:=by
 unfold joinedFacts
 repeat' with_reducible apply aS
 all_goals (as_aux_lemma=>kernel_rfl)
theorem y3:Func.isWrapper Tryz.prog Tryz.f3 Rows.fnOptCopyRow.wrapper Rows.fnOptCopyRow.mainSum:=(by unfold Func.isWrapper;first | (rw [if_pos (by decide+kernel)];kernel_rfl) | (rw [if_neg (by decide+kernel)];exact⟨rfl,rfl⟩))
theorem x_holds:Rows.FnOptCopySaid:=
 OpenClaim.holds_of_wide 3 Tryz.f3 rfl rfl rfl rfl rfl rfl rfl ⟨rfl,rfl,rfl,rfl,rfl⟩ rfl rfl rfl rfl rfl y1 Tryz.func3 y2
  (of_decide_eq_true (by kernel_rfl)) y3
  (fun os started H enc _=>lifted os started H enc)
end Go.Proofs.YtkecklmejhogoaaGreat
