/- For every input the law returns true, and the input reads as it did. No condition. -/
import Derived.Test.YtkecklmejhogoaaGreatZe
import Derived.ChangeSlices
import Derived.ChangeSame
import Derived.JoinedOf
import Derived.JoinedAt
import Derived.Handed
import Derived.Below
import Derived.Carry
import Derived.OpenShut
import Derived.ChangeKeysEq
import Derived.Test.YtkecklmejhogoaaGreatY
import Derived.Test.YtkecklmejhogoaaGreatRows
set_option linter.all false
set_option linter.unusedSectionVars false
set_option linter.unusedVariables false
set_option linter.unusedSimpArgs false
namespace Go.TX.F
open Go Go.AE Go.TX
theorem aip (i:Ins):QU (std 0) (i,()) (fun _=>True):=by
 dsimp only [QU,Alg.cl,Alg.cg,Alg.rb,Alg.bd,Alg.l1,Tup.q,Tup.o]
 simp (disch:=omega) only [RR]
theorem aiq {p1:Int×Int×Int×Unit→Bool} {f1:Int×Int×Int×Unit→Bool×Unit} (hp1:∀a b c,p1 (a,b,c,())=true) (hf1:∀a b c,f1 (a,b,c,())=(inB a b c,())) {p2:Ins×Unit→Bool} {f2:Ins×Unit→Bool×Unit} (hp2:∀i,p2 (i,())=true) (i:Ins):QV (std 0) p1 f1 p2 f2 (i,()) (fun _=>True):=by
 dsimp only [QV,Alg.cl,Alg.cg,Alg.rb,Alg.bd,Alg.l1,Tup.q,Tup.o]
 simp (disch:=omega) only [RR,hp1,hp2]
theorem air (i:Int):QW (std 0) (i,()) (fun _=>True):=by
 dsimp only [QW,Alg.cl,Alg.cg,Alg.rb,Alg.bd,Alg.l1,Tup.q,Tup.o]
theorem ais {p1:Int×Unit→Bool} {f1:Int×Unit→Bool×Unit} (hp1:∀i,p1 (i,())=true) {p2:Ins×Unit→Bool} {f2:Ins×Unit→Bool×Unit} (hp2:∀i,p2 (i,())=true) (i:Ins):QX (std 0) p1 f1 p2 f2 (i,()) (fun _=>True):=by
 dsimp only [QX,Alg.cl,Alg.cg,Alg.rb,Alg.bd,Alg.l1,Tup.q,Tup.o]
 simp (disch:=omega) only [RR,hp1,hp2]
theorem ait {p1:Int×Unit→Bool} {f1:Int×Unit→Bool×Unit} (hp1:∀i,p1 (i,())=true) {p2:Ins×Unit→Bool} {f2:Ins×Unit→Bool×Unit} (hp2:∀i,p2 (i,())=true) {p3:Int×Int×Int×Unit→Bool} {f3:Int×Int×Int×Unit→Bool×Unit} (hp3:∀a b c,p3 (a,b,c,())=true) (hf3:∀a b c,f3 (a,b,c,())=(inB a b c,())) {p4:Ins×Unit→Bool} {f4:Ins×Unit→Bool×Unit} (hp4:∀i,p4 (i,())=true) (pc:Int) (l:List Ins) (hl:(l.length:Int)<1000):Ra (std 0) p1 f1 p2 f2 p3 f3 p4 f4 (pc,l,()) (fun _=>True):=by
 dsimp only [Ra,Alg.cl,Alg.cg,Alg.rb,Alg.bd,Alg.l1,Tup.q,Tup.o]
 simp (disch:=omega) only [RR,hp1,hp2,hp3,hp4]
 refine fun _=> ?_
 refine aA (fun(y:List Ins×Int×Unit)=>y.1=l∧0≤y.2.1) (fun y=>((l.length:Int)-y.2.1).toNat) ⟨rfl,by simp⟩ ?_
 rintro⟨(l':List Ins),(j:Int),⟨⟩⟩ hI
 dsimp only at hI ⊢
 obtain⟨rfl,h1⟩:=hI
 simp (disch:=omega) only [RR,hp1,hp2,hp3,hp4,or_true]
 refine fun h=>⟨h1,h,by omega,by omega,by omega,by omega,fun _=> ?_⟩
 rw [w64 (by omega) (by omega)];constructor<;>omega
theorem aak (a1 a2 a3 a4 a5 a6:Int) (o:IOp) (ops:List IOp) (hl:(ops.length:Int)<1000000):Rb (std 0) (a1,a2,a3,a4,a5,a6,o,ops,()) (fun y=>(y.2.2.2.2.2.2.2.1.length:Int)=ops.length+1):=by
 dsimp only [Rb,Alg.cl,Alg.cg,Alg.rb,Alg.bd,Alg.l1,Tup.q,Tup.o]
 simp (disch:=omega) only [RR,List.length_append,List.length_cons,List.length_nil]
 omega
theorem aal {p1:Int×Int×Int×Int×Int×Int×IOp×List IOp×Unit→Bool} {f1:Int×Int×Int×Int×Int×Int×IOp×List IOp×Unit→Int×Int×Int×Int×Int×Int×Int×List IOp×Unit} (hp1:∀a1 a2 a3 a4 a5 a6 o ops,(ops.length:Int)<1000000→p1 (a1,a2,a3,a4,a5,a6,o,ops,())=true) (hf1:∀a1 a2 a3 a4 a5 a6 o ops,(ops.length:Int)<1000000→((f1 (a1,a2,a3,a4,a5,a6,o,ops,())).2.2.2.2.2.2.2.1.length:Int)=ops.length+1) (a1 a2 a3 a4 a5 a6:Int) (k:Int) (ops:List IOp) (hl:(ops.length:Int)<1000000):Rf (std 0) p1 f1 (a1,a2,a3,a4,a5,a6,k,ops,()) (fun y=>(y.2.2.2.2.2.2.2.1.length:Int)=ops.length+1):=by
 dsimp only [Rf,Alg.cl,Alg.cg,Alg.rb,Alg.bd,Alg.l1,Tup.q,Tup.o]
 simp (disch:=omega) only [RR,hp1,hf1]
theorem aam {p1:Int×Int×Int×Int×Int×Int×IOp×List IOp×Unit→Bool} {f1:Int×Int×Int×Int×Int×Int×IOp×List IOp×Unit→Int×Int×Int×Int×Int×Int×Int×List IOp×Unit} (hp1:∀a1 a2 a3 a4 a5 a6 o ops,(ops.length:Int)<1000000→p1 (a1,a2,a3,a4,a5,a6,o,ops,())=true) (hf1:∀a1 a2 a3 a4 a5 a6 o ops,(ops.length:Int)<1000000→((f1 (a1,a2,a3,a4,a5,a6,o,ops,())).2.2.2.2.2.2.2.1.length:Int)=ops.length+1) (a1 a2 a3 a4 a5 a6:Int) (k x:Int) (ops:List IOp) (hl:(ops.length:Int)<1000000):Rc (std 0) p1 f1 (a1,a2,a3,a4,a5,a6,k,x,ops,()) (fun y=>(y.2.2.2.2.2.2.1.length:Int)=ops.length+1):=by
 dsimp only [Rc,Alg.cl,Alg.cg,Alg.rb,Alg.bd,Alg.l1,Tup.q,Tup.o]
 simp (disch:=omega) only [RR,hp1,hf1]
theorem aiu {p1:Int×Int×Int×Int×Int×Int×Int×List IOp×Unit→Bool} {f1:Int×Int×Int×Int×Int×Int×Int×List IOp×Unit→Int×Int×Int×Int×Int×Int×Int×List IOp×Unit} (hp1:∀a1 a2 a3 a4 a5 a6 k ops,(ops.length:Int)<1000000→p1 (a1,a2,a3,a4,a5,a6,k,ops,())=true) (hf1:∀a1 a2 a3 a4 a5 a6 k ops,(ops.length:Int)<1000000→((f1 (a1,a2,a3,a4,a5,a6,k,ops,())).2.2.2.2.2.2.2.1.length:Int)=ops.length+1) {p2:Int×Int×Int×Int×Int×Int×IOp×List IOp×Unit→Bool} {f2:Int×Int×Int×Int×Int×Int×IOp×List IOp×Unit→Int×Int×Int×Int×Int×Int×Int×List IOp×Unit} (hp2:∀a1 a2 a3 a4 a5 a6 o ops,(ops.length:Int)<1000000→p2 (a1,a2,a3,a4,a5,a6,o,ops,())=true) (hf2:∀a1 a2 a3 a4 a5 a6 o ops,(ops.length:Int)<1000000→((f2 (a1,a2,a3,a4,a5,a6,o,ops,())).2.2.2.2.2.2.2.1.length:Int)=ops.length+1) (a1 a2 a3 a4 a5 a6:Int) (k a:Int) (o:IOp) (ops:List IOp) (hl:(ops.length:Int)<999000):Rh (std 0) p1 f1 p2 f2 (a1,a2,a3,a4,a5,a6,k,a,o,ops,()) (fun y=>(y.2.2.2.2.2.2.2.1.length:Int)=ops.length+3):=by
 dsimp only [Rh,Alg.cl,Alg.cg,Alg.rb,Alg.bd,Alg.l1,Tup.q,Tup.o]
 simp (disch:=(first | omega | (simp (disch:=(first | omega | (simp (disch:=(first | omega | (simp (disch:=omega) only [hf1,hf2];omega))) only [hf1,hf2];omega))) only [hf1,hf2];omega))) only [RR,hp1,hp2,hf1,hf2]
 omega
theorem aiv {p1:Int×Int×Int×Int×Int×Int×Int×List IOp×Unit→Bool} {f1:Int×Int×Int×Int×Int×Int×Int×List IOp×Unit→Int×Int×Int×Int×Int×Int×Int×List IOp×Unit} (hp1:∀a1 a2 a3 a4 a5 a6 k ops,(ops.length:Int)<1000000→p1 (a1,a2,a3,a4,a5,a6,k,ops,())=true) (hf1:∀a1 a2 a3 a4 a5 a6 k ops,(ops.length:Int)<1000000→((f1 (a1,a2,a3,a4,a5,a6,k,ops,())).2.2.2.2.2.2.2.1.length:Int)=ops.length+1) {p2:Int×Int×Int×Int×Int×Int×IOp×List IOp×Unit→Bool} {f2:Int×Int×Int×Int×Int×Int×IOp×List IOp×Unit→Int×Int×Int×Int×Int×Int×Int×List IOp×Unit} (hp2:∀a1 a2 a3 a4 a5 a6 o ops,(ops.length:Int)<1000000→p2 (a1,a2,a3,a4,a5,a6,o,ops,())=true) (hf2:∀a1 a2 a3 a4 a5 a6 o ops,(ops.length:Int)<1000000→((f2 (a1,a2,a3,a4,a5,a6,o,ops,())).2.2.2.2.2.2.2.1.length:Int)=ops.length+1) {p3:Int×Int×Int×Int×Int×Int×Int×Int×IOp×List IOp×Unit→Bool} {f3:Int×Int×Int×Int×Int×Int×Int×Int×IOp×List IOp×Unit→Int×Int×Int×Int×Int×Int×Int×List IOp×Unit} (hp3:∀a1 a2 a3 a4 a5 a6 k a o ops,(ops.length:Int)<999000→p3 (a1,a2,a3,a4,a5,a6,k,a,o,ops,())=true) (hf3:∀a1 a2 a3 a4 a5 a6 k a o ops,(ops.length:Int)<999000→((f3 (a1,a2,a3,a4,a5,a6,k,a,o,ops,())).2.2.2.2.2.2.2.1.length:Int)=ops.length+3) {p4:Int×Int×Int×Int×Int×Int×Int×Int×List IOp×Unit→Bool} {f4:Int×Int×Int×Int×Int×Int×Int×Int×List IOp×Unit→Int×Int×Int×Int×Int×Int×List IOp×Unit} (hp4:∀a1 a2 a3 a4 a5 a6 k x ops,(ops.length:Int)<1000000→p4 (a1,a2,a3,a4,a5,a6,k,x,ops,())=true) (hf4:∀a1 a2 a3 a4 a5 a6 k x ops,(ops.length:Int)<1000000→((f4 (a1,a2,a3,a4,a5,a6,k,x,ops,())).2.2.2.2.2.2.1.length:Int)=ops.length+1) (a1 a2 a3 a4 a5 a6:Int) (i:Ins) (k:Int) (ops:List IOp) (hl:(ops.length:Int)<998000):Rj (std 0) p1 f1 p2 f2 p3 f3 p4 f4 (a1,a2,a3,a4,a5,a6,i,k,ops,()) (fun y=>(y.2.2.2.2.2.2.1.length:Int)=ops.length+5):=by
 dsimp only [Rj,Alg.cl,Alg.cg,Alg.rb,Alg.bd,Alg.l1,Tup.q,Tup.o]
 simp (disch:=(first | omega | (simp (disch:=(first | omega | (simp (disch:=(first | omega | (simp (disch:=omega) only [hf1,hf2,hf3,hf4];omega))) only [hf1,hf2,hf3,hf4];omega))) only [hf1,hf2,hf3,hf4];omega))) only [RR,hp1,hp2,hp3,hp4,hf1,hf2,hf3,hf4]
 constructor<;>intro _<;>omega
theorem aan {p1:Int×Int×Int×Int×Int×Int×Int×List IOp×Unit→Bool} {f1:Int×Int×Int×Int×Int×Int×Int×List IOp×Unit→Int×Int×Int×Int×Int×Int×Int×List IOp×Unit} (hp1:∀a1 a2 a3 a4 a5 a6 k ops,(ops.length:Int)<1000000→p1 (a1,a2,a3,a4,a5,a6,k,ops,())=true) (hf1:∀a1 a2 a3 a4 a5 a6 k ops,(ops.length:Int)<1000000→((f1 (a1,a2,a3,a4,a5,a6,k,ops,())).2.2.2.2.2.2.2.1.length:Int)=ops.length+1) (a1 a2 a3 a4 a5 a6:Int) (i:Ins) (ops:List IOp) (hl:(ops.length:Int)<999000):Rk (std 0) p1 f1 (a1,a2,a3,a4,a5,a6,i,ops,()) (fun y=>(y.2.2.2.2.2.2.1.length:Int)≤ops.length+5):=by
 dsimp only [Rk,Alg.cl,Alg.cg,Alg.rb,Alg.bd,Alg.l1,Tup.q,Tup.o]
 simp (disch:=(first | omega | (simp (disch:=(first | omega | (simp (disch:=(first | omega | (simp (disch:=omega) only [hf1];omega))) only [hf1];omega))) only [hf1];omega))) only [RR,hp1,hf1]
 refine⟨fun _=>by omega,fun _=>⟨fun _=>by omega,fun _=>by omega⟩⟩
theorem aiw (k:Int) (hk:k<1000):Ri (std 0) (k,()) (fun _=>True):=by
 dsimp only [Ri,Alg.cl,Alg.cg,Alg.rb,Alg.bd,Alg.l1,Tup.q,Tup.o]
 simp (disch:=omega) only [RR]
 refine aA (fun(y:Int×Int×Int×Unit)=>y.1=k∧0≤y.2.2.1) (fun y=>(k-y.2.2.1).toNat) ⟨rfl,by simp⟩ ?_
 rintro⟨(k':Int),(z:Int),(j:Int),⟨⟩⟩ hI
 dsimp only at hI ⊢
 obtain⟨rfl,h1⟩:=hI
 simp (disch:=omega) only [RR]
 refine fun h=> ?_
 rw [w64 (by omega) (by omega)];constructor<;>omega
theorem aix {p1:Int×Int×Int×Int×Int×Int×Int×List IOp×Unit→Bool} {f1:Int×Int×Int×Int×Int×Int×Int×List IOp×Unit→Int×Int×Int×Int×Int×Int×Int×List IOp×Unit} (hp1:∀a1 a2 a3 a4 a5 a6 k ops,(ops.length:Int)<1000000→p1 (a1,a2,a3,a4,a5,a6,k,ops,())=true) (hf1:∀a1 a2 a3 a4 a5 a6 k ops,(ops.length:Int)<1000000→((f1 (a1,a2,a3,a4,a5,a6,k,ops,())).2.2.2.2.2.2.2.1.length:Int)=ops.length+1) {p2:Int×Int×Int×Int×Int×Int×Ins×List IOp×Unit→Bool} {f2:Int×Int×Int×Int×Int×Int×Ins×List IOp×Unit→Int×Int×Int×Int×Int×Int×List IOp×Unit} (hp2:∀a1 a2 a3 a4 a5 a6 i ops,(ops.length:Int)<999000→p2 (a1,a2,a3,a4,a5,a6,i,ops,())=true) (hf2:∀a1 a2 a3 a4 a5 a6 i ops,(ops.length:Int)<999000→((f2 (a1,a2,a3,a4,a5,a6,i,ops,())).2.2.2.2.2.2.1.length:Int)≤ops.length+5) {p3:Int×Int×Int×Int×Int×Int×IOp×List IOp×Unit→Bool} {f3:Int×Int×Int×Int×Int×Int×IOp×List IOp×Unit→Int×Int×Int×Int×Int×Int×Int×List IOp×Unit} (hp3:∀a1 a2 a3 a4 a5 a6 o ops,(ops.length:Int)<1000000→p3 (a1,a2,a3,a4,a5,a6,o,ops,())=true) (hf3:∀a1 a2 a3 a4 a5 a6 o ops,(ops.length:Int)<1000000→((f3 (a1,a2,a3,a4,a5,a6,o,ops,())).2.2.2.2.2.2.2.1.length:Int)=ops.length+1) {p4:Int×Int×Int×Int×Int×Int×Ins×Int×List IOp×Unit→Bool} {f4:Int×Int×Int×Int×Int×Int×Ins×Int×List IOp×Unit→Int×Int×Int×Int×Int×Int×List IOp×Unit} (hp4:∀a1 a2 a3 a4 a5 a6 i k ops,(ops.length:Int)<998000→p4 (a1,a2,a3,a4,a5,a6,i,k,ops,())=true) (hf4:∀a1 a2 a3 a4 a5 a6 i k ops,(ops.length:Int)<998000→((f4 (a1,a2,a3,a4,a5,a6,i,k,ops,())).2.2.2.2.2.2.1.length:Int)=ops.length+5) {p5:Int×Int×Int×Int×Int×Int×Int×Int×IOp×List IOp×Unit→Bool} {f5:Int×Int×Int×Int×Int×Int×Int×Int×IOp×List IOp×Unit→Int×Int×Int×Int×Int×Int×Int×List IOp×Unit} (hp5:∀a1 a2 a3 a4 a5 a6 k a o ops,(ops.length:Int)<999000→p5 (a1,a2,a3,a4,a5,a6,k,a,o,ops,())=true) (hf5:∀a1 a2 a3 a4 a5 a6 k a o ops,(ops.length:Int)<999000→((f5 (a1,a2,a3,a4,a5,a6,k,a,o,ops,())).2.2.2.2.2.2.2.1.length:Int)=ops.length+3) {p6:Int×Int×Int×Int×Int×Int×Int×Int×List IOp×Unit→Bool} {f6:Int×Int×Int×Int×Int×Int×Int×Int×List IOp×Unit→Int×Int×Int×Int×Int×Int×List IOp×Unit} (hp6:∀a1 a2 a3 a4 a5 a6 k x ops,(ops.length:Int)<1000000→p6 (a1,a2,a3,a4,a5,a6,k,x,ops,())=true) (hf6:∀a1 a2 a3 a4 a5 a6 k x ops,(ops.length:Int)<1000000→((f6 (a1,a2,a3,a4,a5,a6,k,x,ops,())).2.2.2.2.2.2.1.length:Int)=ops.length+1) {p7:Int×Unit→Bool} {f7:Int×Unit→Int×Unit} (hp7:∀k,k<1000→p7 (k,())=true) (a1 a2 a3 a4 a5 a6:Int) (i:Ins) (k:Int) (ops:List IOp) (hk:i.k<1000) (hl:(ops.length:Int)<997000):Rl (std 0) p1 f1 p2 f2 p3 f3 p4 f4 p5 f5 p6 f6 p7 f7 (a1,a2,a3,a4,a5,a6,i,k,ops,()) (fun y=>(y.2.2.2.2.2.2.1.length:Int)≤ops.length+5):=by
 have e4:=fun i k=>hf4 a1 a2 a3 a4 a5 a6 i k ops (by omega)
 have e2:=fun i=>hf2 a1 a2 a3 a4 a5 a6 i ops (by omega)
 dsimp only [Rl,Alg.cl,Alg.cg,Alg.rb,Alg.bd,Alg.l1,Tup.q,Tup.o]
 simp (disch:=(first | omega | (simp (disch:=(first | omega | (simp (disch:=(first | omega | (simp (disch:=omega) only [hf1,hf3,hf5,RB];omega))) only [hf1,hf3,hf5,RB];omega))) only [hf1,hf3,hf5,RB];omega))) only [RR,RB,hp1,hp2,hp3,hp4,hp5,hp6,hp7,hf1,hf3,hf4,hf5,hf6]
 have:=e2 i
 repeat' (first | (refine⟨?_,?_⟩) | intro _)
 all_goals omega
def KB (l:List Ins):Prop:=∀i∈l,i.k<1000
theorem KB.at {l:List Ins} (h:KB l) (n:Nat):(l.getD n default).k<1000:=by
 by_cases h1:n<l.length
 ·rw [getD_lt h1];exact h _ (List.getElem_mem _)
 ·simp only [List.getD,List.getElem?_eq_none (by omega:l.length≤n)];decide
theorem aiy {p1:Int×List Ins×Unit→Bool} {f1:Int×List Ins×Unit→Bool×Unit} (hp1:∀pc l,(l.length:Int)<1000→p1 (pc,l,())=true) {p2:Int×Int×Int×Int×Int×Int×Ins×Int×List IOp×Unit→Bool} {f2:Int×Int×Int×Int×Int×Int×Ins×Int×List IOp×Unit→Int×Int×Int×Int×Int×Int×List IOp×Unit} (hp2:∀a1 a2 a3 a4 a5 a6 i k ops,i.k<1000→(ops.length:Int)<997000→p2 (a1,a2,a3,a4,a5,a6,i,k,ops,())=true) (hf2:∀a1 a2 a3 a4 a5 a6 i k ops,i.k<1000→(ops.length:Int)<997000→((f2 (a1,a2,a3,a4,a5,a6,i,k,ops,())).2.2.2.2.2.2.1.length:Int)≤ops.length+5) (pc:Int) (l:List Ins) (hl:(l.length:Int)<1000) (hk:KB l):Rm (std 0) p1 f1 p2 f2 (pc,l,()) (fun y=>(y.2.2.2.2.2.2.1.length:Int)≤5000):=by
 dsimp only [Rm,Alg.cl,Alg.cg,Alg.rb,Alg.bd,Alg.l1,Tup.q,Tup.o]
 simp (disch:=omega) only [RR,hp1,List.length_nil]
 refine⟨fun _=>by omega,fun _=> ?_⟩
 refine aA (fun(y:List Ins×Int×Int×Int×Int×Int×Int×Int×Int×Int×Int×Int×Int×Int×List IOp×Unit)=>y.1=l∧0≤y.2.1∧y.2.1≤l.length∧(y.2.2.2.2.2.2.2.2.2.2.2.2.2.2.1.length:Int)≤5*y.2.1) (fun y=>((l.length:Int)-y.2.1).toNat) ⟨rfl,by simp,by simp,by simp⟩ ?_
 rintro⟨(l':List Ins),(j:Int),u1,u2,u3,u4,u5,u6,b1,b2,b3,b4,b5,b6,(ops:List IOp),⟨⟩⟩ hI
 dsimp only at hI ⊢
 obtain⟨rfl,h1,h2,h3⟩:=hI
 have hk':=hk.at j.toNat
 simp (disch:=omega) only [RR,hp2]
 refine⟨fun h=> ?_,fun h=>by omega⟩
 have:=hf2 b1 b2 b3 b4 b5 b6 ((l').getD (j).toNat default) j ops hk' (by omega)
 exact⟨h1,h,⟨by omega,by omega,by omega⟩,by omega⟩
end Go.TX.F
namespace Go.TX.F
open Go Go.AE Go.TX
structure InD (m:Int) (b:List Int) (p:Int) (y:Int×Int×Int×Int×List Int×Int×Unit):Prop where
 b:y.2.2.2.2.1=b
 lo:p≤y.2.2.2.2.2.1
 hi:y.2.2.2.2.2.1≤p+m
 k:0≤y.2.2.2.1∧y.2.2.2.1≤255
@[reducible] def aiz : List Int → Prop
 | []=>True
 | x::l=>(0≤x∧x≤255)∧aiz l
theorem OI:∀(l:List Int) (n:Nat),aiz l→0≤l.getD n default∧l.getD n default≤255
 | [],n,_=>by simp only [List.getD_nil];decide
 | x::l,0,h=>h.1
 | x::l,n+1,h=>OI l n h.2
theorem pkR {f1:Int×List Int×Int×Unit→Int×List Int×Int×Unit} {b:List Int} (hb:Bt b) (hf1:∀n b p,Bt b→0≤p→p<1000000000→Pk n b p (f1 (n,b,p,()))):
  (∀n p,0≤p→p<1000000000→(f1 (n,b,p,())).2.1=b)∧(∀n p,0≤p→p<1000000000→(f1 (n,b,p,())).2.2.1=p+1)∧
  (∀n p,0≤p→p<1000000000→(0≤(f1 (n,b,p,())).1)=True)∧(∀n p k,0≤p→p<1000000000→n≤k→0<k→((f1 (n,b,p,())).1<k)=True)∧
  (∀n p k,0≤p→p<1000000000→n≤k+1→0≤k→((f1 (n,b,p,())).1≤k)=True):=
 ⟨fun n p h1 h2=>(hf1 n b p hb h1 h2).1,fun n p h1 h2=>(hf1 n b p hb h1 h2).2.1,fun n p h1 h2=>eq_true (hf1 n b p hb h1 h2).2.2.1,
  fun n p k h1 h2 h3 h4=>eq_true (by have:=(hf1 n b p hb h1 h2).2.2;omega),fun n p k h1 h2 h3 h4=>eq_true (by have:=(hf1 n b p hb h1 h2).2.2;omega)⟩
theorem aiA {p1:Int×List Int×Int×Unit→Bool} {f1:Int×List Int×Int×Unit→Int×List Int×Int×Unit} (hp1:∀n b p,Bt b→0≤p→p<1000000000→p1 (n,b,p,())=true) (hf1:∀n b p,Bt b→0≤p→p<1000000000→Pk n b p (f1 (n,b,p,()))) (b:List Int) (p:Int) (hb:Bt b) (h1:0≤p) (h2:p<900000000):QT (std 0) p1 f1 (b,p,()) (fun y=>InD 20 b p y):=by
 have R:=pkR hb hf1
 have P:=fun n p h1 h2=>hp1 n b p hb h1 h2
 dsimp only [QT,Alg.cl,Alg.cg,Alg.rb,Alg.bd,Alg.l1,Tup.q,Tup.o]
 simp (disch:=omega) only [RR,R,P,List.length_cons,List.length_nil]
 repeat' (first | (refine⟨?_,?_⟩) | intro _)
 all_goals try omega
 all_goals refine⟨rfl,by dsimp only;omega,by dsimp only;omega,?_⟩
 all_goals dsimp only
 all_goals first | omega | (refine OI _ _ ?_;simp (disch:=omega) only [aiz,R,Int.reduceLE,and_self,true_and,and_true]) | (simp (disch:=omega) only [R,Int.reduceLE,and_self,true_and,and_true])
theorem aiB {p1:List Int×Int×Unit→Bool} {f1:List Int×Int×Unit→Int×Int×Int×Int×List Int×Int×Unit} (hp1:∀b p,Bt b→0≤p→p<900000000→p1 (b,p,())=true) (hf1:∀b p,Bt b→0≤p→p<900000000→InD 20 b p (f1 (b,p,()))) {p2:Int×List Int×Int×Unit→Bool} {f2:Int×List Int×Int×Unit→Int×List Int×Int×Unit} (hp2:∀n b p,Bt b→0≤p→p<1000000000→p2 (n,b,p,())=true) (hf2:∀n b p,Bt b→0≤p→p<1000000000→Pk n b p (f2 (n,b,p,()))) {p3:Ins×Unit→Bool} {f3:Ins×Unit→Bool×Unit} (hp3:∀i,p3 (i,())=true) (b:List Int) (p:Int) (hb:Bt b) (h1:0≤p) (h2:p<800000000):Q6 (std 0) p1 f1 p2 f2 p3 f3 (b,p,()) (fun y=>InD 30 b p y):=by
 obtain⟨a1,a2,a3,a4⟩:=hf1 b p hb h1 (by omega)
 have R:=pkR hb hf2
 have P:=fun n p h1 h2=>hp2 n b p hb h1 h2
 dsimp only [Q6,Alg.cl,Alg.cg,Alg.rb,Alg.bd,Alg.l1,Tup.q,Tup.o]
 simp (disch:=omega) only [RR,hp1 b p hb h1 (by omega),hp3,a1,R,P]
 refine⟨fun _=>⟨rfl,by dsimp only;omega,by dsimp only;omega,?_⟩,fun _=>⟨rfl,a2,by dsimp only;omega,a4⟩⟩
 dsimp only
 simp (disch:=omega) only [R,Int.reduceLE,and_self]
structure LiD (b:List Int) (p:Int) (y:List Int×Int×List Ins×Unit):Prop where
 b:y.1=b
 lo:p≤y.2.1
 hi:y.2.1≤p+1000
 len:(y.2.2.1.length:Int)≤20
 k:KB y.2.2.1
theorem KB.app {l:List Ins} {i:Ins} (h:KB l) (h2:i.k≤255):KB (l++ [i]):=fun x hx=>by
 rw [List.mem_append,List.mem_singleton]at hx
 rcases hx with hx | rfl
 ·exact h x hx
 ·omega
theorem aiC {p1:List Int×Int×Unit→Bool} {f1:List Int×Int×Unit→Int×Int×Int×Int×List Int×Int×Unit} (hp1:∀b p,Bt b→0≤p→p<800000000→p1 (b,p,())=true) (hf1:∀b p,Bt b→0≤p→p<800000000→InD 30 b p (f1 (b,p,()))) {p2:Int×List Int×Int×Unit→Bool} {f2:Int×List Int×Int×Unit→Int×List Int×Int×Unit} (hp2:∀n b p,Bt b→0≤p→p<1000000000→p2 (n,b,p,())=true) (hf2:∀n b p,Bt b→0≤p→p<1000000000→Pk n b p (f2 (n,b,p,()))) (b:List Int) (p:Int) (hb:Bt b) (h1:0≤p) (h2:p<700000000):Q9 (std 0) p1 f1 p2 f2 (b,p,()) (fun y=>LiD b p y):=by
 obtain⟨e1,e2,e3,e4⟩:=hf2 8 b p hb h1 (by omega)
 dsimp only [Q9,Alg.cl,Alg.cg,Alg.rb,Alg.bd,Alg.l1,Tup.q,Tup.o]
 simp (disch:=omega) only [RR,hp2 8 b p hb h1 (by omega),e1,e2]
 refine aA (fun(y:Int×List Int×Int×List Ins×Unit)=>0≤y.1∧y.1≤8∧y.2.1=b∧p≤y.2.2.1∧y.2.2.1+40*y.1≤p+400∧(y.2.2.2.1.length:Int)+y.1≤8∧KB y.2.2.2.1) (fun y=>y.1.toNat)
  ⟨e3,by dsimp only;omega,rfl,by dsimp only;omega,by dsimp only;omega,by dsimp only [List.length_nil];omega,fun x hx=>by cases hx⟩ ?_
 rintro⟨(k:Int),(b':List Int),(q:Int),(l:List Ins),⟨⟩⟩ hI
 dsimp only at hI ⊢
 obtain⟨k1,k2,rfl,k3,k4,k5,k6⟩:=hI
 have R:=pkR hb hf2
 have P:=fun n p h1 h2=>hp2 n b' p hb h1 h2
 obtain⟨a1,a2,a3,a4⟩:=hf1 b' q hb (by omega) (by omega)
 obtain⟨b1,b2,b3,b4⟩:=hf1 b' (q+1) hb (by omega) (by omega)
 simp (disch:=omega) only [RR,RB,hp1 b' q hb (by omega) (by omega),hp1 b' (q+1) hb (by omega) (by omega),a1,b1,R,P,List.length_cons,List.length_nil,List.length_append]
 refine⟨fun c=>⟨by omega,⟨by omega,by omega,by omega,by omega,by omega,k6.app a4.2⟩,by omega⟩,fun c=>⟨fun _=>⟨by omega,rfl,by dsimp only;omega,by dsimp only;omega,?_,?_⟩,fun _=>⟨fun _=>⟨by omega,rfl,by dsimp only;omega,by dsimp only;omega,?_,?_⟩,fun _=>⟨by omega,rfl,by dsimp only;omega,by dsimp only;omega,?_,?_⟩⟩⟩⟩
 ·dsimp only;rw [List.length_append];simp only [List.length_cons,List.length_nil];omega
 ·refine k6.app ?_
  dsimp only
  simp (disch:=omega) only [R]
 ·dsimp only;rw [List.length_append];simp only [List.length_cons,List.length_nil];omega
 ·exact k6.app (by dsimp only;omega)
 ·dsimp only;rw [List.length_append];simp only [List.length_cons,List.length_nil];omega
 ·exact k6.app b4.2
end Go.TX.F
namespace Go.TX.F
open Go Go.AE Go.TX
theorem aao (b:Blk) (hb:b.ops.length<1000000):Qt (std 0) (b,()) (fun y=>y=(b.pc,b.len,b.fin,b.x,b.y,b.k,b.ops,())):=by
 dsimp only [Qt,Alg.cl,Alg.cg,Alg.rb,Alg.bd,Alg.l1,Tup.q,Tup.o]
 simp (disch:=omega) only [RR,RB,List.nil_append,List.length_nil]
 omega
def kn (ops:List IOp) (k:Int):Int×Bool:=if 0≤k∧k<ops.length∧(((ops).getD (k).toNat default)).kind=1 then((((ops).getD (k).toNat default)).k,true)else(0,false)
@[reducible] def bk7 (b : Blk) : Int × Int × Int × Int × Int × Int × List IOp × Unit := (b.pc, b.len, b.fin, b.x, b.y, b.k, b.ops, ())
structure FE (b:Blk):Prop where
 f:1≤b.fin∧b.fin≤4
 x:b.fin≠1→0≤b.x∧b.x<b.ops.length
 y:3≤b.fin→0≤b.y∧b.y<b.ops.length
 y0:b.fin≤2→b.y=0
 p:0≤b.pc∧b.pc≤100∧0≤b.len∧b.len≤100
theorem aap (ops:List IOp) (k:Int):QF (std 0) (ops,k,()) (fun y=>y=((kn ops k).1,(kn ops k).2,())):=by
 dsimp only [QF,Alg.cl,Alg.cg,Alg.rb,Alg.bd,Alg.l1,Tup.q,Tup.o]
 simp (disch:=omega) only [RR,RB]
 unfold kn
 refine⟨by omega,by omega,fun h=> ?_,fun h=>⟨by omega,by omega,?_⟩⟩
 ·rw [if_neg (by omega)]
 ·rw [if_pos (by omega)]
theorem aaq (b:Blk) (k:Int):QK (std 0) (b,k,()) (fun y=>y=(b.pc,b.len,b.ops,1,0,0,k,())):=by
 dsimp only [QK,Alg.cl,Alg.cg,Alg.rb,Alg.bd,Alg.l1,Tup.q,Tup.o]
 simp (disch:=omega) only [RR,RB]
theorem aiD {p1:Blk×Int×Unit→Bool} {f1:Blk×Int×Unit→Int×Int×List IOp×Int×Int×Int×Int×Unit} (hp1:∀b k,p1 (b,k,())=true) (hf1:∀b k,f1 (b,k,())=(b.pc,b.len,b.ops,1,0,0,k,())) {p2:List IOp×Int×Unit→Bool} {f2:List IOp×Int×Unit→Int×Bool×Unit} (hp2:∀ops k,p2 (ops,k,())=true) (hf2:∀ops k,f2 (ops,k,())=((kn ops k).1,(kn ops k).2,())) (b:Blk) (h:FE b):QL (std 0) p1 f1 p2 f2 (b,()) (fun y=>y=(fcB b b.ops,())):=by
 have hp:=h.p
 have hf:=h.f
 have k1:b.fin≠1→kn b.ops b.x=if(((b.ops).getD (b.x).toNat default)).kind=1 then((((b.ops).getD (b.x).toNat default)).k,true)else(0,false):=fun c=>by
  have:=h.x c
  unfold kn;simp only [this,true_and]
 have k2:3≤b.fin→kn b.ops b.y=if(((b.ops).getD (b.y).toNat default)).kind=1 then((((b.ops).getD (b.y).toNat default)).k,true)else(0,false):=fun c=>by
  have:=h.y c
  unfold kn;simp only [this,true_and]
 have y0:=h.y0
 have mkE:∀p l o f x y k,Co.mk .blk (p,l,o,f,x,y,k,())=Blk.mk p l o f x y k:=fun _ _ _ _ _ _ _=>rfl
 dsimp only [QL,Alg.cl,Alg.cg,Alg.rb,Alg.bd,Alg.l1,Tup.q,Tup.o]
 simp (disch:=omega) only [RR,RB,hp1,hf1,hp2,hf2,mkE,Bool.and_eq_false_iff]
 by_cases c1:b.fin=1
 ·have e:fcB b b.ops=b:=by unfold fcB;rw [if_neg (by omega),if_neg (by omega)]
  rw [e]
  refine⟨fun h=>absurd h.1 (by omega),fun _=>⟨fun h=>absurd h.1.1.1 (by omega),fun _=>⟨fun h=>absurd h.1.1.1 (by omega),fun _=>⟨fun h=>absurd h.1.1 (by omega),fun _=>rfl⟩⟩⟩⟩
 ·rw [k1 c1]
  by_cases c2:b.fin=2
  ·by_cases d:(((b.ops).getD (b.x).toNat default)).kind=1
   ·have e:fcB b b.ops=⟨b.pc,b.len,b.ops,1,0,0,(((b.ops).getD (b.x).toNat default)).k⟩:=by unfold fcB;rw [if_pos ⟨c2,d⟩,y0 (by omega)]
    rw [if_pos d,e]
    refine⟨fun _=>rfl,fun h=> ?_⟩
    rcases h with h | h
    ·exact absurd c2 h
    ·cases h
   ·have e:fcB b b.ops=b:=by unfold fcB;rw [if_neg (fun g=>d g.2),if_neg (by omega)]
    rw [if_neg d,e]
    refine⟨fun h=>absurd h.2 (by decide),fun _=>⟨fun h=>absurd h.1.1.1 (by omega),fun _=>⟨fun h=>absurd h.1.1.1 (by omega),fun _=>⟨fun h=>absurd h.1.1 (by omega),fun _=>rfl⟩⟩⟩⟩
  ·rw [k2 (by omega)]
   refine⟨fun h=>absurd h.1 c2,fun _=> ?_⟩
   by_cases d:(((b.ops).getD (b.x).toNat default)).kind=1∧(((b.ops).getD (b.y).toNat default)).kind=1
   ·have e:fcB b b.ops=⟨b.pc,b.len,b.ops,1,0,0,if b.fin=3∧(((b.ops).getD (b.x).toNat default)).k=(((b.ops).getD (b.y).toNat default)).k∨b.fin=4∧(((b.ops).getD (b.x).toNat default)).k< (((b.ops).getD (b.y).toNat default)).k then b.k else b.pc+b.len⟩:=by
     unfold fcB;rw [if_neg (by omega),if_pos ⟨by omega,d⟩]
    rw [if_pos d.1,if_pos d.2,e]
    dsimp only
    simp only [and_true,Bool.true_eq_false,or_false,Prod.mk.injEq,Blk.mk.injEq,true_and]
    refine⟨fun h=>⟨fun _=>by rw [if_pos (Or.inl h)],fun g=>by omega⟩,fun h=>⟨fun g=>by rw [if_pos (Or.inr g)],fun g=>⟨fun _=>by rw [if_neg (by omega)],fun q=>by omega⟩⟩⟩
   ·have e:fcB b b.ops=b:=by unfold fcB;rw [if_neg (by omega),if_neg (fun g=>d g.2)]
    rw [e]
    have n:¬((if(((b.ops).getD (b.x).toNat default)).kind=1 then((((b.ops).getD (b.x).toNat default)).k,true)else((0:Int),false)).2=true∧(if(((b.ops).getD (b.y).toNat default)).kind=1 then((((b.ops).getD (b.y).toNat default)).k,true)else((0:Int),false)).2=true):=fun⟨g1,g2⟩=>by
     split at g1
     ·split at g2
      ·exact d ⟨by assumption,by assumption⟩
      ·cases g2
     ·cases g1
    exact⟨fun h=>absurd ⟨h.1.1.2,h.1.2⟩ n,fun _=>⟨fun h=>absurd ⟨h.1.1.2,h.1.2⟩ n,fun _=>⟨fun h=>absurd ⟨h.1.2,h.2⟩ n,fun _=>rfl⟩⟩⟩
theorem aar {p1:Int×Int×Int×Unit→Bool} {f1:Int×Int×Int×Unit→Bool×Unit} (hp1:∀a b c,p1 (a,b,c,())=true) (hf1:∀a b c,f1 (a,b,c,())=(inB a b c,())) (o:IOp) (al:List Int) (hk:1≤o.kind∧o.kind≤8) (hx:hX o→0≤o.x∧o.x< (al.length:Int)) (hy:hY o→0≤o.y∧o.y< (al.length:Int)):Qu (std 0) p1 f1 (o,al,()) (fun y=>y=(ren al o,())):=by
 dsimp only [Qu,Alg.cl,Alg.cg,Alg.rb,Alg.bd,Alg.l1,Tup.q,Tup.o]
 simp (disch:=omega) only [RR,RB,hp1,hf1,fF,sw]
 have X:((3≤o.kind∧o.kind≤5)∨o.kind=7)∨o.kind=8→hX o:=fun c=>by unfold hX;omega
 have Xn:(¬(3≤o.kind∧o.kind≤5)∧¬o.kind=7)∧¬o.kind=8→¬hX o:=fun c g=>by unfold hX at g;omega
 unfold ren
 refine⟨fun c=>⟨(hx (X c)).1,(hx (X c)).2,fun d=>⟨(hy d).1,(hy d).2,?_⟩,fun d=> ?_⟩,fun c=>⟨fun d=>⟨(hy d).1,(hy d).2,?_⟩,fun d=> ?_⟩⟩
 ·rw [if_pos (X c),if_pos (show hY o from d)]
 ·rw [if_pos (X c),if_neg (show¬hY o from fun g=>g.elim d.1 d.2)]
 ·rw [if_neg (Xn c),if_pos (show hY o from d)]
 ·rw [if_neg (Xn c),if_neg (show¬hY o from fun g=>g.elim d.1 d.2)]
theorem aas (ops:List IOp) (k:Int) (h0:0≤k) (h1:k<ops.length) (h2:(ops.length:Int)<1000000):QD (std 0) (ops,k,()) (fun y=>y=(qG (ops.drop (k.toNat+1)) (((ops).getD (k).toNat default)).k,())):=by
 dsimp only [QD,Alg.cl,Alg.cg,Alg.rb,Alg.bd,Alg.l1,Tup.q,Tup.o]
 simp (disch:=omega) only [RR,RB]
 refine aA (fun(y:List IOp×Int×Int×Unit)=>y.1=ops∧y.2.1=k∧0≤y.2.2.1∧y.2.2.1≤ops.length∧qG (ops.drop (k.toNat+1)) (((ops).getD (k).toNat default)).k=qG (ops.drop y.2.2.1.toNat) (((ops).getD (k).toNat default)).k) (fun y=>((ops.length:Int)-y.2.2.1).toNat) ⟨rfl,rfl,by dsimp only;omega,by dsimp only;omega,by dsimp only;rw [show(k+1).toNat=k.toNat+1 by omega]⟩ ?_
 rintro⟨(l:List IOp),(k':Int),(j:Int),⟨⟩⟩ hI
 dsimp only at hI ⊢
 obtain⟨rfl,rfl,h3,h4,h5⟩:=hI
 rw [h5]
 simp (disch:=omega) only [RR,RB,Bool.and_eq_false_iff]
 have st:j<l.length→qG (l.drop j.toNat) (((l).getD (k').toNat default)).k=if(((l).getD (j).toNat default)).kind=4∨(((l).getD (j).toNat default)).kind=5∨(((l).getD (j).toNat default)).kind=2∧(((l).getD (j).toNat default)).k=(((l).getD (k').toNat default)).k then false else if(((l).getD (j).toNat default)).kind=8∧(((l).getD (j).toNat default)).k=(((l).getD (k').toNat default)).k then true else qG (l.drop (j+1).toNat) (((l).getD (k').toNat default)).k:=fun h=>by
  rw [List.drop_eq_getElem_cons (show j.toNat<l.length by omega),Sn,←getD_lt (d:=default) (show j.toNat<l.length by omega),show(j+1).toNat=j.toNat+1 by omega]
 refine⟨fun h=>⟨h3,h,by omega,by omega,by omega,by omega,by omega,by omega,by omega,by omega,fun c=> ?_,fun c=>⟨h3,h,by omega,by omega,by omega,by omega,fun d=> ?_,fun d=>⟨⟨by omega,by omega,?_⟩,by omega⟩⟩⟩,fun h=> ?_⟩
 ·rw [st h,if_pos (by omega)]
 ·rw [st h,if_neg (by omega),if_pos (by omega)]
 ·rw [st h,if_neg (by omega),if_neg (by omega)]
 ·rw [List.drop_of_length_le (by omega)];rfl
@[reducible] def aoV (z : Int × Int × Int × Int × Int × Int × List IOp × Unit) : Blk := ⟨z.1, z.2.1, z.2.2.2.2.2.2.1, z.2.2.1, z.2.2.2.1, z.2.2.2.2.1, z.2.2.2.2.2.1⟩
theorem aiE {p1:Blk×Unit→Bool} {f1:Blk×Unit→Blk×Unit} (hp1:∀b,b.ops.length<1000000→p1 (b,())=true) (hf1:∀b,b.ops.length<1000000→f1 (b,())=(fD b,())) {p2:Blk×Unit→Bool} {f2:Blk×Unit→Int×Int×Int×Int×Int×Int×List IOp×Unit} (hp2:∀b,b.ops.length<1000000→p2 (b,())=true) (hf2:∀b,b.ops.length<1000000→f2 (b,())=bk7 (dx b)) {p3:Blk×Unit→Bool} {f3:Blk×Unit→Int×Int×Int×Int×Int×Int×List IOp×Unit} (hp3:∀b,b.ops.length<1000000→p3 (b,())=true) (hf3:∀b,b.ops.length<1000000→f3 (b,())=bk7 (oD b)) {p4:Blk×Unit→Bool} {f4:Blk×Unit→Int×Int×Int×Int×Int×Int×List IOp×Unit} (hp4:∀b,b.ops.length<1000000→p4 (b,())=true) (hf4:∀b,b.ops.length<1000000→f4 (b,())=bk7 (wm b)) (b:Blk) (hb:b.ops.length<1000000):QS (std 0) p1 f1 p2 f2 p3 f3 p4 f4 (b,()) (fun y=>y=bk7 (KQ b)):=by
 have m1:(dx b).ops.length<1000000:=Nat.lt_of_le_of_lt (rP b) hb
 have m2:=Nat.lt_of_le_of_lt (Cg (dx b)) m1
 have m3:=Nat.lt_of_le_of_lt (yF (fD (dx b))) m2
 have m4:=Nat.lt_of_le_of_lt (H7 (oD (fD (dx b)))) m3
 have mkE:∀c:Blk,Co.mk .blk (c.pc,c.len,c.ops,c.fin,c.x,c.y,c.k,())=c:=fun _=>rfl
 dsimp only [QS,Alg.cl,Alg.cg,Alg.rb,Alg.bd,Alg.l1,Tup.q,Tup.o]
 simp (disch:=omega) only [RR,hp2 b hb,hf2 b hb,mkE,hp1 _ m1,hf1 _ m1,hp3 _ m2,hf3 _ m2,hp4 _ m3,hf4 _ m3,hp3 _ m4,hf3 _ m4]
 rfl
theorem aat {α:Type} {d:α} {f l:List α} {k:Nat} (hf:f.length=k) (h:k<l.length):(f++l.drop k).getD k d=l.getD k d:=by
 rw [getD_lt (by rw [List.length_append,List.length_drop];omega),getD_lt h,List.getElem_append_right (by omega),List.getElem_drop]
 simp only [hf,Nat.sub_self,Nat.add_zero]
theorem aiF {α:Type} {d:α} {f l:List α} {k j:Nat} (hf:f.length=k) (h:j<k):(f++l.drop k).getD j d=f.getD j d:=by
 rw [getD_lt (by rw [List.length_append];omega),getD_lt (by omega),List.getElem_append_left]
theorem Vb {α:Type} {x:α} {f l:List α} {k:Nat} (hf:f.length=k) (h:k<l.length):(f++l.drop k).set k x=(f++ [x])++l.drop (k+1):=by
 rw [List.set_append_right _ _ (by omega),hf,Nat.sub_self,List.drop_eq_getElem_cons h,List.set_cons_zero,List.append_assoc];rfl
theorem aau {α:Type} {d:α} {f l:List α} {k:Nat} (h:k<l.length):f++l.drop k=(f++ [l.getD k d])++l.drop (k+1):=by
 rw [List.drop_eq_getElem_cons h,getD_lt h,List.append_assoc];rfl
theorem Vd {α:Type} {f l:List α} {k:Nat} (hf:f.length=k) (h:k≤l.length):(f++l.drop k).length=l.length:=by
 rw [List.length_append,hf,List.length_drop];omega
theorem dz.fe {b:Blk} (ok:dz b) {f:List IOp} (h:f.length=b.ops.length):FE ⟨b.pc,b.len,f,b.fin,b.x,b.y,b.k⟩:=by
 have en:=ok.en
 have hp:=ok.pc
 have hl:=ok.ln
 exact⟨en.f,fun c=>⟨(en.x1 c).1,by dsimp only;rw [h];exact(en.x1 c).2.1⟩,fun c=>⟨(en.y1 c).1,by dsimp only;rw [h];exact(en.y1 c).2.1⟩,en.y0,by dsimp only;omega⟩
theorem aiG {p1:Blk×Unit→Bool} {f1:Blk×Unit→Bool×Unit} (hp1:∀b,b.ops.length<1000000000→p1 (b,())=true) (hf1:∀b,b.ops.length<1000000000→f1 (b,())=(bp (dz b),())) {p2:Int×Int×Int×Unit→Bool} {f2:Int×Int×Int×Unit→Int×Unit} (hp2:∀op a b,p2 (op,a,b,())=true) (hf2:∀op a b,f2 (op,a,b,())=(wdo op a b,())) {p3:Blk×Unit→Bool} {f3:Blk×Unit→Blk×Unit} (hp3:∀b,FE b→p3 (b,())=true) (hf3:∀b,FE b→f3 (b,())=(fcB b b.ops,())) {p4:List IOp×Int×Unit→Bool} {f4:List IOp×Int×Unit→Int×Bool×Unit} (hp4:∀ops k,p4 (ops,k,())=true) (hf4:∀ops k,f4 (ops,k,())=((kn ops k).1,(kn ops k).2,())) {p5:Blk×Unit→Bool} {f5:Blk×Unit→Int×Int×Int×Int×Int×Int×List IOp×Unit} (hp5:∀b,b.ops.length<1000000→p5 (b,())=true) (hf5:∀b,b.ops.length<1000000→f5 (b,())=(b.pc,b.len,b.fin,b.x,b.y,b.k,b.ops,())) (b:Blk) (hb:b.ops.length<1000000):QO (std 0) p1 f1 p2 f2 p3 f3 p4 f4 p5 f5 (b,()) (fun y=>y=(fD b,())):=by
 have mkE:∀p l o f x y k,Co.mk .blk (p,l,o,f,x,y,k,())=Blk.mk p l o f x y k:=fun _ _ _ _ _ _ _=>rfl
 dsimp only [QO,Alg.cl,Alg.cg,Alg.rb,Alg.bd,Alg.l1,Tup.q,Tup.o]
 simp (disch:=omega) only [RR,RB,hp1 b (by omega),hf1 b (by omega),hp5 b hb,hf5 b hb,mkE]
 refine⟨fun h=>by unfold fD;rw [h,if_neg (by decide)];rfl,fun h=> ?_⟩
 have ok:=bQ.1 h
 rw [KR ok]
 refine aA (fun(y:Int×Int×Int×Int×Int×Int×Int×Int×Int×Int×Int×Int×Int×List IOp×Unit)=>0≤y.1∧y.1≤b.ops.length∧y.2.2.2.2.2.2.2=(b.pc,b.len,b.fin,b.x,b.y,b.k,fc b.ops y.1.toNat++b.ops.drop y.1.toNat,())) (fun y=>((b.ops.length:Int)-y.1).toNat) ⟨by dsimp only;omega,by dsimp only;omega,rfl⟩ ?_
 rintro⟨(k:Int),u1,u2,u3,u4,u5,u6,b1,b2,b3,b4,b5,b6,(ops:List IOp),⟨⟩⟩ hI
 dsimp only at hI ⊢
 simp only [Prod.mk.injEq,and_true]at hI
 obtain⟨h1,h2,rfl,rfl,rfl,rfl,rfl,rfl,rfl⟩:=hI
 have fl:=pV b.ops k.toNat
 have ln:=Vd (l:=b.ops) fl (by omega)
 simp (disch:=omega) only [RR,RB,hp4,hf4,hp2,hf2,ln,mkE]
 refine⟨fun h=> ?_,fun h=> ?_⟩
 ·have o:=ok.op k h1 h
  have ek:=aat (d:=default) (l:=b.ops) fl (by omega)
  have kv:∀x:Int,Vl b.ops x k→kn (fc b.ops k.toNat++b.ops.drop k.toNat) x=if((((fc b.ops k.toNat)).getD (x).toNat default)).kind=1 then(((((fc b.ops k.toNat)).getD (x).toNat default)).k,true)else(0,false):=fun x v=>by
   have v0:=v.1
   have v1:=v.2.1
   unfold kn
   rw [aiF fl (by omega)]
   simp only [show 0≤x∧x< ((fc b.ops k.toNat++b.ops.drop k.toNat).length:Int)from⟨v0,by omega⟩,true_and]
  have nx:fc b.ops (k+1).toNat=fc b.ops k.toNat++ [fcO (fc b.ops k.toNat) ((b.ops).getD (k).toNat default)]:=by rw [show(k+1).toNat=k.toNat+1 by omega];rfl
  rw [ek]
  have hk:=aau (d:=default) (f:=fc b.ops k.toNat) (l:=b.ops) (k:=k.toNat) (by omega)
  have hs:=fun x=>Vb (x:=x) (l:=b.ops) fl (by omega)
  rw [nx,show(k+1).toNat=k.toNat+1 by omega]
  generalize ((b.ops).getD (k).toNat default)=q at o hk ⊢
  have vx:=fun c=>o.x1 c
  have vy:=fun c=>o.y1 c
  refine⟨h1,h,h1,h,fun c=>⟨h1,h,h1,h,⟨by omega,by omega,?_⟩,by omega⟩,fun c=>⟨⟨by omega,by omega,?_⟩,by omega⟩⟩
  ·have k1:=kv _ (o.x1 (by unfold hX;omega))
   have k2:=kv _ (o.y1 (Or.inl c.1.1))
   rw [k1,k2]at c ⊢
   by_cases d1:((((fc b.ops k.toNat)).getD (q.x).toNat default)).kind=1
   ·by_cases d2:((((fc b.ops k.toNat)).getD (q.y).toNat default)).kind=1
    ·rw [if_pos d1,if_pos d2,hs]
     have e:fcO (fc b.ops k.toNat) q=⟨1,0,0,wdo q.k ((((fc b.ops k.toNat)).getD (q.x).toNat default)).k ((((fc b.ops k.toNat)).getD (q.y).toNat default)).k,0⟩:=by unfold fcO;rw [if_pos ⟨c.1.1,d1,d2⟩]
     rw [e]
    ·rw [if_neg d2]at c;exact absurd c.2 (by decide)
   ·rw [if_neg d1]at c;exact absurd c.1.2 (by decide)
  ·have e:fcO (fc b.ops k.toNat) q=q:=by
    unfold fcO
    refine if_neg ?_
    rintro⟨d0,d1,d2⟩
    rw [kv _ (o.x1 (by unfold hX;omega)),kv _ (o.y1 (Or.inl d0)),if_pos d1,if_pos d2,decide_eq_true d0]at c
    cases c
   rw [e,hk]
 ·have e:fc b.ops k.toNat++b.ops.drop k.toNat=fc b.ops b.ops.length:=by rw [List.drop_of_length_le (by omega),List.append_nil,show k.toNat=b.ops.length by omega]
  rw [e]
  have fe:=ok.fe (pV b.ops b.ops.length)
  rw [hf3 _ fe]
  exact⟨hp3 _ fe,rfl⟩
theorem aav {a b:List Bool} (h:a.length=b.length) (g:∀t:Nat,t<a.length→(a.getD t default=true↔b.getD t default=true)):a=b:=by
 refine List.ext_getElem h fun i h1 h2=> ?_
 have:=g i h1
 rw [getD_lt h1,getD_lt h2]at this
 exact Bool.eq_iff_iff.2 this
theorem aiH {p1:Blk×Unit→Bool} {f1:Blk×Unit→Bool×Unit} (hp1:∀b,b.ops.length<1000000000→p1 (b,())=true) (hf1:∀b,b.ops.length<1000000000→f1 (b,())=(bp (dz b),())) {p2:Int×Int×Int×Unit→Bool} {f2:Int×Int×Int×Unit→Bool×Unit} (hp2:∀a b c,p2 (a,b,c,())=true) (hf2:∀a b c,f2 (a,b,c,())=(inB a b c,())) (b:Blk) (hb:b.ops.length<1000000):Qz (std 0) p1 f1 p2 f2 (b,()) (fun y=>y=(CQ b,())):=by
 dsimp only [Qz,Alg.cl,Alg.cg,Alg.rb,Alg.bd,Alg.l1,Tup.q,Tup.o]
 simp (disch:=omega) only [RR,RB,hp1 b (by omega),hf1 b (by omega)]
 unfold CQ
 refine⟨fun h=>by rw [h,if_neg (by decide)],fun h=> ?_⟩
 rw [if_pos h]
 have ok:=bQ.1 h
 have n48:=ok.sz
 have en:=ok.en
 refine aA (fun(y:Int×Blk×List Bool×Unit)=>0≤y.1∧y.1≤b.ops.length∧y.2.1=b∧(y.2.2.1.length:Int)=y.1∧∀t:Nat,t<y.2.2.1.length→(y.2.2.1.getD t default=true↔4≤(b.ops.getD t default).kind)) (fun y=>((b.ops.length:Int)-y.1).toNat) ⟨by dsimp only;omega,by dsimp only;omega,rfl,rfl,fun t h=>absurd h (by simp)⟩ ?_
 rintro⟨(k:Int),(b':Blk),(kp:List Bool),⟨⟩⟩ hI
 dsimp only at hI ⊢
 obtain⟨h1,h2,rfl,h3,h4⟩:=hI
 simp (disch:=omega) only [RR,RB,List.length_append,List.length_cons,List.length_nil]
 refine⟨fun h=>⟨h1,h,by omega,⟨by omega,by omega,by omega,fun t ht=> ?_⟩,by omega⟩,fun h=> ?_⟩
 ·rw [iT]
  rcases(by omega:t<kp.length∨t=kp.length)with c | c
  ·rw [if_pos c];exact h4 t c
  ·rw [if_neg (by omega),if_pos c,decide_eq_true_eq,c,show k.toNat=kp.length by omega]
 have ex:¬b'.fin=1→0≤b'.x∧b'.x<kp.length:=fun c=>by have:=ok.en.x1 c;exact⟨this.1,by have:=this.2.1;omega⟩
 have ey:b'.fin=3∨b'.fin=4→0≤b'.y∧b'.y<kp.length:=fun c=>by have:=ok.en.y1 (by omega);exact⟨this.1,by have:=this.2.1;omega⟩
 have ff:=en.f
 have u0:=U8 ok
 have kl:kp.length=b'.ops.length:=by omega
 rw [kl]at h4
 refine⟨fun c=>⟨(ex c).1,(ex c).2,(ex c).1,(ex c).2,fun c2=>⟨(ey c2).1,by rw [List.length_set];exact(ey c2).2,(ey c2).1,by rw [List.length_set];exact(ey c2).2,?_⟩,fun c2=> ?_⟩,fun c=>⟨fun c2=>absurd c2 (by omega),fun c2=> ?_⟩⟩
 all_goals
  refine aA (fun(y:Int×Blk×List Bool×Unit)=> -1≤y.1∧y.1<b'.ops.length∧y.2.1=b'∧y.2.2.1.length=b'.ops.length∧∀t:Nat,t<b'.ops.length→(y.2.2.1.getD t default=true↔(us b' (b'.ops.length-1-y.1).toNat).getD t default=true∨4≤(b'.ops.getD t default).kind)) (fun y=>(y.1+1).toNat) ⟨by dsimp only;omega,by dsimp only;omega,rfl,by simp only [List.length_set];omega,fun t ht=> ?_⟩ ?_
  ·dsimp only
   rw [show(b'.ops.length-1- ((b'.ops.length:Int)-1)).toNat=0 by omega]
   show _↔(us0 b').getD t default=true∨_
   have q:=h4 t ht
   have r:=u0 t
   first
    | (rw [Sl (by rw [List.length_set];have:=ey c2;omega),Sl (by have:=ex c;omega),q,r];grind)
    | (rw [Sl (by have:=ex c;omega),q,r];grind)
    | (rw [q,r];grind)
  rintro⟨(j:Int),(b2:Blk),(ms:List Bool),⟨⟩⟩ hI
  dsimp only at hI ⊢
  obtain⟨j0,j1,rfl,j3,j4⟩:=hI
  simp (disch:=omega) only [RR,RB,hp2,hf2,fF,sw,List.length_set]
  have ul:=A8 b2 (b2.ops.length-1-j).toNat
  have us1:0≤j→∀t:Nat,((us b2 (b2.ops.length-1- (j-1)).toNat).getD t default=true↔(us b2 (b2.ops.length-1-j).toNat).getD t default=true∨((us b2 (b2.ops.length-1-j).toNat).getD j.toNat default=true∨4≤(((b2.ops).getD (j).toNat default)).kind)∧(t=j.toNat∨hX (((b2.ops).getD (j).toNat default))∧t=(((b2.ops).getD (j).toNat default)).x.toNat∨hY (((b2.ops).getD (j).toNat default))∧t=(((b2.ops).getD (j).toNat default)).y.toNat)):=fun g t=>by
   have o:=ok.op j g j1
   rw [show(b2.ops.length-1- (j-1)).toNat=(b2.ops.length-1-j).toNat+1 by omega]
   show(usO (b2.ops.getD (b2.ops.length-1- (b2.ops.length-1-j).toNat) default) (b2.ops.length-1- (b2.ops.length-1-j).toNat) _).getD t default=true↔_
   rw [show b2.ops.length-1- (b2.ops.length-1-j).toNat=j.toNat by omega]
   exact U7 (by omega) (fun c=>by have:=o.x1 c;have g0:=this.1;have g1:=this.2.1;omega) (fun c=>by have:=o.y1 c;have g0:=this.1;have g1:=this.2.1;omega)
  have ue:¬0≤j→(us b2 (b2.ops.length-1-j).toNat)=us b2 b2.ops.length:=fun g=>by rw [show(b2.ops.length-1-j).toNat=b2.ops.length by omega]
  generalize us b2 (b2.ops.length-1-j).toNat=U at us1 j4 ue
  refine⟨fun g=> ?_,fun g=>congrArg (fun m:List Bool=>(m,())) (aav (b:=us b2 b2.ops.length) (by rw [A8];exact j3) fun t ht=> ?_)⟩
  ·have o:=ok.op j g j1
   have X:hX (((b2.ops).getD (j).toNat default))→0≤(((b2.ops).getD (j).toNat default)).x∧(((b2.ops).getD (j).toNat default)).x<ms.length:=fun c=>by have:=o.x1 c;have g0:=this.1;have g1:=this.2.1;omega
   have Y:hY (((b2.ops).getD (j).toNat default))→0≤(((b2.ops).getD (j).toNat default)).y∧(((b2.ops).getD (j).toNat default)).y<ms.length:=fun c=>by have:=o.y1 c;have g0:=this.1;have g1:=this.2.1;omega
   have us1:=us1 g
   have qj:=j4 j.toNat (by omega)
   have kd:=o.kd
   generalize ((b2.ops).getD (j).toNat default)=q at*
   have cx:((3≤q.kind∧q.kind≤5)∨q.kind=7)∨q.kind=8↔hX q:=by unfold hX;omega
   have cn:(¬(3≤q.kind∧q.kind≤5)∧¬q.kind=7)∧¬q.kind=8↔¬hX q:=by unfold hX;omega
   have cy:q.kind=3∨q.kind=5↔hY q:=Iff.rfl
   have dn:¬q.kind=3∧¬q.kind=5↔¬hY q:=by unfold hY;omega
   rw [cx,cn,cy,dn]
   generalize hX q=HX at*
   generalize hY q=HY at*
   refine⟨g,j1,g,by omega,g,by omega,fun c=>⟨⟨by omega,by omega,j3,fun t ht=> ?_⟩,by omega⟩,fun c=>⟨fun d=>⟨(X d).1,(X d).2,(X d).1,(X d).2,fun e=>⟨(Y e).1,(Y e).2,(Y e).1,(Y e).2,⟨by omega,by omega,j3,fun t ht=> ?_⟩,by omega⟩,fun e=>⟨⟨by omega,by omega,j3,fun t ht=> ?_⟩,by omega⟩⟩,fun d=>⟨fun e=>⟨(Y e).1,(Y e).2,(Y e).1,(Y e).2,⟨by omega,by omega,j3,fun t ht=> ?_⟩,by omega⟩,fun e=>⟨⟨by omega,by omega,j3,fun t ht=> ?_⟩,by omega⟩⟩⟩⟩
   ·rw [us1,j4 t ht];rw [c]at qj;grind
   ·rw [Sl (by rw [List.length_set];have:=Y e;omega),Sl (by have:=X d;omega),us1,j4 t ht];grind
   ·rw [Sl (by have:=X d;omega),us1,j4 t ht];grind
   ·rw [Sl (by have:=Y e;omega),us1,j4 t ht];grind
   ·rw [us1,j4 t ht];grind
  ·rw [j4 t (by omega),ue g]
   exact⟨fun h=>h.elim id ((aoB ok).k t (Nat.zero_le _) (by omega)),Or.inl⟩
end Go.TX.F
namespace Go.TX.F
open Go Go.AE Go.TX
theorem acK {ops:List IOp} {kp:List Bool} {len:Int} {k n:Nat} {o:IOp} (ho:Cz ops len k o) (h:k<n):ren (kpS ops kp (k+1)).1 o=ren (kpS ops kp n).1 o:=by
 have p:=(acG ops kp (show k+1≤n by omega)).2
 have l:=(zI ops kp (k+1)).1
 have e:∀x:Int,Vl ops x k→(((kpS ops kp (k+1)).1).getD (x).toNat default)=(((kpS ops kp n).1).getD (x).toNat default):=fun x v=>by
  have g0:=v.1
  have g1:=v.2.1
  exact(aad p (by omega)).symm
 have ox:=ho.x1
 have oy:=ho.y1
 unfold ren
 congr 1
 ·split
  ·rename_i c;exact e _ (ox c)
  ·rfl
 ·split
  ·rename_i c;exact e _ (oy c)
  ·rfl
theorem aiI {p1:IOp×List Int×Unit→Bool} {f1:IOp×List Int×Unit→IOp×Unit} (hp1:∀o al,(1≤o.kind∧o.kind≤8)→(hX o→0≤o.x∧o.x< (al.length:Int))→(hY o→0≤o.y∧o.y< (al.length:Int))→p1 (o,al,())=true) (hf1:∀o al,(1≤o.kind∧o.kind≤8)→(hX o→0≤o.x∧o.x< (al.length:Int))→(hY o→0≤o.y∧o.y< (al.length:Int))→f1 (o,al,())=(ren al o,())) (b:Blk) (kp:List Bool) (ok:dz b) (hk:kp.length=b.ops.length):Qy (std 0) p1 f1 (b,kp,()) (fun y=>y=bk7 (Ce b kp)):=by
 have n48:=ok.sz
 dsimp only [Qy,Alg.cl,Alg.cg,Alg.rb,Alg.bd,Alg.l1,Tup.q,Tup.o]
 simp (disch:=omega) only [RR,RB]
 refine aA (fun(y:List Bool×Int×Blk×Int×Int×Int×Int×Int×Int×List IOp×List Int×Unit)=>y.1=kp∧0≤y.2.1∧y.2.1≤b.ops.length∧y.2.2.1=b∧y.2.2.2.2.2.2.2.2.2.1=(kpS b.ops kp y.2.1.toNat).2.map (ren (kpS b.ops kp b.ops.length).1)∧y.2.2.2.2.2.2.2.2.2.2.1=(kpS b.ops kp y.2.1.toNat).1) (fun y=>((b.ops.length:Int)-y.2.1).toNat) ⟨rfl,by dsimp only;omega,by dsimp only;omega,rfl,rfl,rfl⟩ ?_
 rintro⟨(kp':List Bool),(k:Int),(b':Blk),u1,u2,u3,u4,u5,u6,(out:List IOp),(to:List Int),⟨⟩⟩ hI
 dsimp only at hI ⊢
 obtain⟨rfl,h1,h2,rfl,rfl,rfl⟩:=hI
 obtain⟨l1,l2⟩:=zI b'.ops kp' k.toNat
 have l3:=(zI b'.ops kp' (k+1).toNat).1
 have nx:(kpS b'.ops kp' (k+1).toNat).1=(kpS b'.ops kp' k.toNat).1++ [((kpS b'.ops kp' k.toNat).2.length:Int)]:=by rw [show(k+1).toNat=k.toNat+1 by omega];rfl
 have r:k<b'.ops.length→ren (kpS b'.ops kp' (k+1).toNat).1 ((b'.ops).getD (k).toNat default)=ren (kpS b'.ops kp' b'.ops.length).1 ((b'.ops).getD (k).toNat default):=fun h=>by
  rw [show(k+1).toNat=k.toNat+1 by omega]
  exact acK (by rw [show((k.toNat:Nat):Int)=k by omega];exact ok.op k h1 h) (by omega)
 have s:(kpS b'.ops kp' (k+1).toNat).2=if kp'.getD k.toNat default=true then(kpS b'.ops kp' k.toNat).2++ [((b'.ops).getD (k).toNat default)]else(kpS b'.ops kp' k.toNat).2:=by rw [show(k+1).toNat=k.toNat+1 by omega];rfl
 have fin:¬k<b'.ops.length→kpS b'.ops kp' k.toNat=kpS b'.ops kp' b'.ops.length:=fun h=>by rw [show k.toNat=b'.ops.length by omega]
 have kb:Ce b' kp'=Sd (kpS b'.ops kp' b'.ops.length).1 b' (kpS b'.ops kp' b'.ops.length).2:=rfl
 rw [kb]
 generalize kpS b'.ops kp' b'.ops.length=N at r fin ⊢
 generalize hT:kpS b'.ops kp' (k+1).toNat=T at l3 nx r s ⊢
 generalize kpS b'.ops kp' k.toNat=S at l1 l2 nx s fin ⊢
 have en:=ok.en
 have ex:¬k<b'.ops.length→¬b'.fin=1→0≤b'.x∧b'.x< (S.1.length:Int):=fun h c=>by have:=en.x1 c;exact⟨this.1,by have:=this.2.1;omega⟩
 have ey:¬k<b'.ops.length→b'.fin=3∨b'.fin=4→0≤b'.y∧b'.y< (S.1.length:Int):=fun h c=>by have:=en.y1 (by omega);exact⟨this.1,by have:=this.2.1;omega⟩
 simp (disch:=omega) only [RR,RB,List.length_append,List.length_cons,List.length_nil,List.length_map,Kz,←nx]
 refine⟨fun h=> ?_,fun h=> ?_⟩
 ·have op:=ok.op k h1 h
  have a2:hX (((b'.ops).getD (k).toNat default))→0≤(((b'.ops).getD (k).toNat default)).x∧(((b'.ops).getD (k).toNat default)).x< (T.1.length:Int):=fun c=>⟨(op.x1 c).1,by have:=(op.x1 c).2.1;omega⟩
  have a3:hY (((b'.ops).getD (k).toNat default))→0≤(((b'.ops).getD (k).toNat default)).y∧(((b'.ops).getD (k).toNat default)).y< (T.1.length:Int):=fun c=>⟨(op.y1 c).1,by have:=(op.y1 c).2.1;omega⟩
  have P:=hp1 _ T.1 op.kd a2 a3
  rw [hf1 _ T.1 op.kd a2 a3,hT,s,r h]
  refine⟨by omega,h1,by omega,fun c=>⟨h1,h,P,by omega,⟨by omega,by omega,?_⟩,by omega⟩,fun c=>⟨⟨by omega,by omega,?_⟩,by omega⟩⟩
  ·rw [if_pos c,List.map_append];exact⟨rfl,rfl⟩
  ·rw [c,if_neg (by decide)];exact⟨rfl,rfl⟩
 ·have ex:=ex h
  have ey:=ey h
  rw [fin h]at ex ey ⊢
  unfold bk7 Sd
  refine⟨fun c=>⟨(ex c).1,(ex c).2,(ex c).1,(ex c).2,fun c2=>⟨(ey c2).1,(ey c2).2,(ey c2).1,(ey c2).2,?_⟩,fun c2=> ?_⟩,fun c=>⟨fun c2=>⟨(ey c2).1,(ey c2).2,(ey c2).1,(ey c2).2,?_⟩,fun c2=> ?_⟩⟩
  ·rw [if_neg c,if_pos (by omega)]
  ·rw [if_neg c,if_neg (by have:=en.f;omega)]
  ·exact absurd c2 (by omega)
  ·rw [if_pos c,if_neg (by omega)]
theorem aiJ {p1:Blk×Unit→Bool} {f1:Blk×Unit→Bool×Unit} (hp1:∀b,b.ops.length<1000000000→p1 (b,())=true) (hf1:∀b,b.ops.length<1000000000→f1 (b,())=(bp (dz b),())) {p2:Blk×Unit→Bool} {f2:Blk×Unit→List Bool×Unit} (hp2:∀b,b.ops.length<1000000→p2 (b,())=true) (hf2:∀b,b.ops.length<1000000→f2 (b,())=(CQ b,())) {p3:Blk×List Bool×Unit→Bool} {f3:Blk×List Bool×Unit→Int×Int×Int×Int×Int×Int×List IOp×Unit} (hp3:∀b kp,dz b→kp.length=b.ops.length→p3 (b,kp,())=true) (hf3:∀b kp,dz b→kp.length=b.ops.length→f3 (b,kp,())=bk7 (Ce b kp)) (b:Blk) (hb:b.ops.length<1000000):QA (std 0) p1 f1 p2 f2 p3 f3 (b,()) (fun y=>y=bk7 (oD b)):=by
 dsimp only [QA,Alg.cl,Alg.cg,Alg.rb,Alg.bd,Alg.l1,Tup.q,Tup.o]
 simp (disch:=omega) only [RR,RB,hp1 b (by omega),hf1 b (by omega),hp2 b hb,hf2 b hb]
 unfold oD CQ
 refine⟨fun h=>by rw [h,if_neg (by decide)];rfl,fun h=> ?_⟩
 have ok:=bQ.1 h
 rw [if_pos h,if_pos h,hf3 _ _ ok (A8 b _)]
 exact⟨hp3 _ _ ok (A8 b _),rfl⟩
theorem aiK {p1:Blk×Unit→Bool} {f1:Blk×Unit→Bool×Unit} (hp1:∀b,b.ops.length<1000000000→p1 (b,())=true) (hf1:∀b,b.ops.length<1000000000→f1 (b,())=(bp (dz b),())) {p2:Blk×List Bool×Unit→Bool} {f2:Blk×List Bool×Unit→Int×Int×Int×Int×Int×Int×List IOp×Unit} (hp2:∀b kp,dz b→kp.length=b.ops.length→p2 (b,kp,())=true) (hf2:∀b kp,dz b→kp.length=b.ops.length→f2 (b,kp,())=bk7 (Ce b kp)) {p3:List IOp×Int×Unit→Bool} {f3:List IOp×Int×Unit→Bool×Unit} (hp3:∀ops k,0≤k→k<ops.length→(ops.length:Int)<1000000→p3 (ops,k,())=true) (hf3:∀ops k,0≤k→k<ops.length→(ops.length:Int)<1000000→f3 (ops,k,())=(qG (ops.drop (k.toNat+1)) (((ops).getD (k).toNat default)).k,())) (b:Blk) (hb:b.ops.length<1000000):QE (std 0) p1 f1 p2 f2 p3 f3 (b,()) (fun y=>y=bk7 (wm b)):=by
 dsimp only [QE,Alg.cl,Alg.cg,Alg.rb,Alg.bd,Alg.l1,Tup.q,Tup.o]
 simp (disch:=omega) only [RR,RB,hp1 b (by omega),hf1 b (by omega)]
 unfold wm
 refine⟨fun h=>by rw [h,if_neg (by decide)];rfl,fun h=> ?_⟩
 have ok:=bQ.1 h
 rw [if_pos h]
 have kl:(rO b.ops).length=b.ops.length:=by unfold rO;rw [List.length_map,List.length_range]
 refine aA (fun(y:Int×Blk×Int×Int×Int×Int×Int×Int×List Bool×Unit)=>0≤y.1∧y.1≤b.ops.length∧y.2.1=b∧y.2.2.2.2.2.2.2.2.1=(rO b.ops).take y.1.toNat) (fun y=>((b.ops.length:Int)-y.1).toNat) ⟨by dsimp only;omega,by dsimp only;omega,rfl,rfl⟩ ?_
 rintro⟨(k:Int),(b':Blk),u1,u2,u3,u4,u5,u6,(kp:List Bool),⟨⟩⟩ hI
 dsimp only at hI ⊢
 obtain⟨h1,h2,rfl,rfl⟩:=hI
 have tl:((rO b'.ops).take k.toNat).length=k.toNat:=by rw [List.length_take];omega
 simp (disch:=omega) only [RR,RB,List.length_append,List.length_cons,List.length_nil,tl]
 refine⟨fun h=>⟨h1,h,Or.inr (hp3 _ _ h1 h (by omega)),by omega,⟨by omega,by omega,?_⟩,by omega⟩,fun h=> ?_⟩
 ·rw [hf3 _ _ h1 h (by omega),show(k+1).toNat=k.toNat+1 by omega,List.take_succ_eq_append_getElem (by omega),←getD_lt (d:=default) (show k.toNat< (rO b'.ops).length by omega),Wy (by omega)]
  refine congrArg (fun x=>(rO b'.ops).take k.toNat++ [x]) ?_
  rw [Bool.not_and]
 ·rw [List.take_of_length_le (by omega),hf2 _ _ ok kl]
  exact⟨hp2 _ _ ok kl,rfl⟩
theorem aiL {ops:List IOp} {len:Int} {k n:Nat} {o:IOp} (ho:Cz ops len k o) (h:k≤n):ren (cpS ops k).1 o=ren (cpS ops n).1 o:=by
 have l:=(zH ops k).1
 have e:∀x:Int,Vl ops x k→(((cpS ops k).1).getD (x).toNat default)=(((cpS ops n).1).getD (x).toNat default):=fun x v=>by
  have g0:=v.1
  have g1:=v.2.1
  exact(Sg ops (by omega) h).symm
 have ox:=ho.x1
 have oy:=ho.y1
 unfold ren
 congr 1
 ·split
  ·rename_i c;exact e _ (ox c)
  ·rfl
 ·split
  ·rename_i c;exact e _ (oy c)
  ·rfl
theorem aiM {p1:Blk×Unit→Bool} {f1:Blk×Unit→Bool×Unit} (hp1:∀b,b.ops.length<1000000000→p1 (b,())=true) (hf1:∀b,b.ops.length<1000000000→f1 (b,())=(bp (dz b),())) {p2:IOp×List Int×Unit→Bool} {f2:IOp×List Int×Unit→IOp×Unit} (hp2:∀o al,(1≤o.kind∧o.kind≤8)→(hX o→0≤o.x∧o.x< (al.length:Int))→(hY o→0≤o.y∧o.y< (al.length:Int))→p2 (o,al,())=true) (hf2:∀o al,(1≤o.kind∧o.kind≤8)→(hX o→0≤o.x∧o.x< (al.length:Int))→(hY o→0≤o.y∧o.y< (al.length:Int))→f2 (o,al,())=(ren al o,())) {p3:Blk×Unit→Bool} {f3:Blk×Unit→Int×Int×Int×Int×Int×Int×List IOp×Unit} (hp3:∀b,b.ops.length<1000000→p3 (b,())=true) (hf3:∀b,b.ops.length<1000000→f3 (b,())=(b.pc,b.len,b.fin,b.x,b.y,b.k,b.ops,())) (b:Blk) (hb:b.ops.length<1000000):Qv (std 0) p1 f1 p2 f2 p3 f3 (b,()) (fun y=>y=bk7 (dx b)):=by
 dsimp only [Qv,Alg.cl,Alg.cg,Alg.rb,Alg.bd,Alg.l1,Tup.q,Tup.o]
 simp (disch:=omega) only [RR,RB,hp1 b (by omega),hf1 b (by omega),hp3 b hb,hf3 b hb,Kz]
 unfold dx
 refine⟨fun h=>by rw [h,if_neg (by decide)];rfl,fun h=> ?_⟩
 have ok:=bQ.1 h
 rw [if_pos h]
 have n48:=ok.sz
 refine aA (fun(y:Int×Int×Int×Int×Int×Int×Int×Int×Int×Int×Int×Int×Int×List Int×List Int×List IOp×Unit)=>0≤y.1∧y.1≤b.ops.length∧y.2.2.2.2.2.2.2=(b.pc,b.len,b.fin,b.x,b.y,b.k,(cpS b.ops y.1.toNat).1,(cpS b.ops y.1.toNat).2,(b.ops.take y.1.toNat).map (ren (cpS b.ops b.ops.length).1)++b.ops.drop y.1.toNat,())) (fun y=>((b.ops.length:Int)-y.1).toNat) ⟨by dsimp only;omega,by dsimp only;omega,rfl⟩ ?_
 rintro⟨(k:Int),u1,u2,u3,u4,u5,u6,b1,b2,b3,b4,b5,b6,(al:List Int),(la:List Int),(ops:List IOp),⟨⟩⟩ hI
 dsimp only at hI ⊢
 simp only [Prod.mk.injEq,and_true]at hI
 obtain⟨h1,h2,rfl,rfl,rfl,rfl,rfl,rfl,rfl,rfl,rfl⟩:=hI
 obtain⟨l1,l2⟩:=zH b.ops k.toNat
 have r:=fun h:k<b.ops.length=>aiL (ops:=b.ops) (k:=k.toNat) (n:=b.ops.length) (by rw [show((k.toNat:Nat):Int)=k by omega];exact ok.op k h1 h) (by omega)
 have fl:((b.ops.take k.toNat).map (ren (cpS b.ops b.ops.length).1)).length=k.toNat:=by rw [List.length_map,List.length_take];omega
 have ln:=Vd (l:=b.ops) fl (by omega)
 have ek:=fun h:k<b.ops.length=>aat (d:=default) (l:=b.ops) fl (by omega)
 have ms:=fun x (h:k<b.ops.length)=>Vb (x:=x) (l:=b.ops) fl (by omega)
 have tk:=fun h:k<b.ops.length=>(jG (d:=default) (l:=b.ops) h1 h rfl)
 have nx:k<b.ops.length→cpS b.ops (k+1).toNat=((cpS b.ops k.toNat).1++ [cpN (cpS b.ops k.toNat) k ((b.ops).getD (k).toNat default)],cpL (cpS b.ops k.toNat) k ((b.ops).getD (k).toNat default)):=fun h=>by
  rw [show(k+1).toNat=k.toNat+1 by omega,show k=((k.toNat:Nat):Int) by omega];rfl
 have fin:¬k<b.ops.length→cpS b.ops k.toNat=cpS b.ops b.ops.length:=fun h=>by rw [show k.toNat=b.ops.length by omega]
 have en:=ok.en
 by_cases h:k<b.ops.length
 ·have o:=ok.op k h1 h
  have r:=r h
  have ek:=ek h
  have nx:=nx h
  have ms:=fun x=>ms x h
  have tk:=tk h
  have a2:hX (((b.ops).getD (k).toNat default))→0≤(((b.ops).getD (k).toNat default)).x∧(((b.ops).getD (k).toNat default)).x< ((cpS b.ops k.toNat).1.length:Int):=fun c=>⟨(o.x1 c).1,by have:=(o.x1 c).2.1;omega⟩
  have a3:hY (((b.ops).getD (k).toNat default))→0≤(((b.ops).getD (k).toNat default)).y∧(((b.ops).getD (k).toNat default)).y< ((cpS b.ops k.toNat).1.length:Int):=fun c=>⟨(o.y1 c).1,by have:=(o.y1 c).2.1;omega⟩
  have P:=hp2 _ _ o.kd a2 a3
  have F:=hf2 _ _ o.kd a2 a3
  have kd:=o.k2
  have rx:(((b.ops).getD (k).toNat default)).kind=8→(ren (cpS b.ops b.ops.length).1 ((b.ops).getD (k).toNat default)).x=(((cpS b.ops k.toNat).1).getD ((((b.ops).getD (k).toNat default)).x).toNat default):=fun c=>by rw [←r];exact if_pos (by unfold hX;omega)
  rw [r]at F
  generalize hN:(cpS b.ops b.ops.length).1=N at*
  generalize hT:cpS b.ops (k+1).toNat=T at nx ⊢
  generalize cpS b.ops k.toNat=S at*
  simp (disch:=omega) only [RR,RB,ln,ek,P,F,ms,List.length_append,List.length_cons,List.length_nil,List.length_set,Kz,h]
  generalize hq:((b.ops).getD (k).toNat default)=q at*
  have rk:(ren N q).kind=q.kind:=rfl
  have rkk:(ren N q).k=q.k:=rfl
  generalize hR:ren N q=R at*
  have G:∀v w,v=cpN S k q→w=cpL S k q→(b.pc,b.len,b.fin,b.x,b.y,b.k,S.1++ [v],w,((b.ops.take k.toNat).map (ren N)++ [R])++b.ops.drop (k.toNat+1),())=(b.pc,b.len,b.fin,b.x,b.y,b.k,T.1,T.2,(b.ops.take (k+1).toNat).map (ren N)++b.ops.drop (k+1).toNat,()):=fun v w e1 e2=>by
   rw [nx,e1,e2,←tk,List.map_append,show(k+1).toNat=k.toNat+1 by omega,←hR];rfl
  have ss:∀i:Int,0≤i→i<S.2.length→S.2.set i.toNat ((S.2).getD (i).toNat default)=S.2:=fun i i0 i1=>by rw [getD_lt (show i.toNat<S.2.length by omega),List.set_getElem_self]
  by_cases c2:R.kind=2
  ·have kk:=kd (Or.inl (rk▸c2))
   by_cases c3:0≤((S.2).getD (R.k).toNat default)
   ·have g:=G (((S.2).getD (R.k).toNat default)) (S.2.set R.k.toNat ((S.2).getD (R.k).toNat default)) (by unfold cpN;rw [←rk,←rkk];rw [if_pos ⟨c2,c3⟩]) (by unfold cpL;rw [←rk,←rkk];rw [if_pos c2,if_pos c3,ss _ (by omega) (by omega)])
    simp only [c2,c3,show¬((2:Int)=8) by decide,true_and,and_true,true_implies,false_implies,not_true_eq_false,not_false_eq_true,false_or,decide_true,Bool.and_self,Bool.true_eq_false,hT,g]
    omega
   ·have g:=G k (S.2.set R.k.toNat k) (by unfold cpN;rw [←rk,←rkk];rw [if_neg (fun q=>c3 q.2)]) (by unfold cpL;rw [←rk,←rkk];rw [if_pos c2,if_neg c3])
    simp only [c2,c3,show¬((2:Int)=8) by decide,true_and,and_true,and_false,true_implies,false_implies,not_true_eq_false,not_false_eq_true,false_or,decide_true,decide_false,Bool.and_false,hT,g]
    omega
  ·by_cases c8:R.kind=8
   ·have kk:=kd (Or.inr (rk▸c8))
    have g:=G k (S.2.set R.k.toNat ((S.1).getD (q.x).toNat default)) (by unfold cpN;rw [←rk,←rkk];rw [if_neg (fun q=>c2 q.1)]) (by unfold cpL;rw [←rk,←rkk];rw [if_neg c2,if_pos c8])
    rw [←rx (rk▸c8)]at g
    simp only [c8,show¬((8:Int)=2) by decide,false_and,true_and,and_true,and_false,true_implies,false_implies,not_true_eq_false,not_false_eq_true,true_or,decide_false,Bool.false_and,hT,g]
    omega
   ·have g:=G k S.2 (by unfold cpN;rw [←rk,←rkk];rw [if_neg (fun q=>c2 q.1)]) (by unfold cpL;rw [←rk,←rkk];rw [if_neg c2,if_neg c8])
    simp only [c2,c8,false_and,true_and,and_true,and_false,true_implies,false_implies,not_true_eq_false,not_false_eq_true,true_or,decide_false,Bool.false_and,hT,g]
    omega
 ·have e:=fin h
  have ex:¬b.fin=1→0≤b.x∧b.x< ((cpS b.ops k.toNat).1.length:Int):=fun c=>by have:=en.x1 c;exact⟨this.1,by have:=this.2.1;omega⟩
  have ey:b.fin=3∨b.fin=4→0≤b.y∧b.y< ((cpS b.ops k.toNat).1.length:Int):=fun c=>by have:=en.y1 (by omega);exact⟨this.1,by have:=this.2.1;omega⟩
  have ff:=en.f
  have z:(b.ops.take k.toNat).map (ren (cpS b.ops b.ops.length).1)++b.ops.drop k.toNat=b.ops.map (ren (cpS b.ops b.ops.length).1):=by rw [List.take_of_length_le (by omega),List.drop_of_length_le (by omega),List.append_nil]
  have ln:(b.ops.map (ren (cpS b.ops b.ops.length).1)).length=b.ops.length:=List.length_map _
  rw [z]
  rw [e]at ex ey ⊢
  unfold bk7 Sd
  generalize (cpS b.ops b.ops.length).1=N at*
  simp (disch:=omega) only [RR,RB,ln,h]
  refine⟨fun c=>⟨(ex c).1,(ex c).2,(ex c).1,(ex c).2,fun c2=>⟨(ey c2).1,(ey c2).2,(ey c2).1,(ey c2).2,?_⟩,fun c2=> ?_⟩,fun c=>⟨fun c2=>absurd c2 (by omega),fun c2=> ?_⟩⟩
  ·rw [if_neg c,if_pos (by omega)]
  ·rw [if_neg c,if_neg (by omega)]
  ·rw [if_pos c,if_neg (by omega)]
end Go.TX.F
namespace Go.TX.F
open Go Go.AE Go.TX
structure BkD (m:Int) (n:Nat) (b:List Int) (p:Int) (y:Int×Int×Int×Int×Int×Int×List Int×Int×List IOp×Unit):Prop where
 b:y.2.2.2.2.2.2.1=b
 lo:p≤y.2.2.2.2.2.2.2.1
 hi:y.2.2.2.2.2.2.2.1≤p+m
 len:y.2.2.2.2.2.2.2.2.1.length≤n
theorem aiN {p1:Int×List Ins×Unit→Bool} {f1:Int×List Ins×Unit→Int×Int×Int×Int×Int×Int×List IOp×Unit} (hp1:∀pc l,(l.length:Int)<1000→KB l→p1 (pc,l,())=true) (hf1:∀pc l,(l.length:Int)<1000→KB l→((f1 (pc,l,())).2.2.2.2.2.2.1.length:Int)≤5000) {p2:Blk×Unit→Bool} {f2:Blk×Unit→Int×Int×Int×Int×Int×Int×List IOp×Unit} (hp2:∀b,b.ops.length<1000000→p2 (b,())=true) (hf2:∀b,b.ops.length<1000000→f2 (b,())=bk7 (KQ b)) {p3:Blk×Unit→Bool} {f3:Blk×Unit→Int×Int×Int×Int×Int×Int×List IOp×Unit} (hp3:∀b,b.ops.length<1000000→p3 (b,())=true) (hf3:∀b,b.ops.length<1000000→f3 (b,())=bk7 (dx b)) {p4:Int×List Int×Int×Unit→Bool} {f4:Int×List Int×Int×Unit→Int×List Int×Int×Unit} (hp4:∀n b p,Bt b→0≤p→p<1000000000→p4 (n,b,p,())=true) (hf4:∀n b p,Bt b→0≤p→p<1000000000→Pk n b p (f4 (n,b,p,()))) {p5:List Int×Int×Unit→Bool} {f5:List Int×Int×Unit→List Int×Int×List Ins×Unit} (hp5:∀b p,Bt b→0≤p→p<700000000→p5 (b,p,())=true) (hf5:∀b p,Bt b→0≤p→p<700000000→LiD b p (f5 (b,p,()))) (b:List Int) (p:Int) (hb:Bt b) (h1:0≤p) (h2:p<600000000):Rn (std 0) p1 f1 p2 f2 p3 f3 p4 f4 p5 f5 (b,p,()) (fun y=>BkD 2000 5000 b p y):=by
 replace hf2:=fun c h=>show(f2 (c,())).2.2.2.2.2.2.1.length≤c.ops.length by rw [hf2 c h];exact JA c
 replace hf3:=fun c h=>show(f3 (c,())).2.2.2.2.2.2.1.length≤c.ops.length by rw [hf3 c h];exact rP c
 obtain⟨a1,a2,a3,a4,a5⟩:=hf5 b p hb h1 (by omega)
 have R:=pkR hb hf4
 have P:=fun n p h1 h2=>hp4 n b p hb h1 h2
 have L:=fun pc=>hf1 pc _ (show((f5 (b,p,())).2.2.1.length:Int)<1000 by omega) a5
 have O1:=fun c (h:c.ops.length≤5000)=>hp2 c (by omega)
 have O2:=fun c (h:c.ops.length≤5000)=>hf2 c (by omega)
 have O3:=fun c (h:c.ops.length≤5000)=>hp3 c (by omega)
 have O4:=fun c (h:c.ops.length≤5000)=>hf3 c (by omega)
 dsimp only [Rn,Alg.cl,Alg.cg,Alg.rb,Alg.bd,Alg.l1,Tup.q,Tup.o]
 simp (disch:=omega) only [RR,hp5 b p hb h1 (by omega),a1,R,P,hp1 _ _ (show((f5 (b,p,())).2.2.1.length:Int)<1000 by omega) a5,List.length_cons,List.length_nil]
 have L':∀pc,(f1 (pc,(f5 (b,p,())).2.2.1,())).2.2.2.2.2.2.1.length≤5000:=fun pc=>by have:=L pc;omega
 refine⟨fun _=>⟨O1 _ (L' _),rfl,by dsimp only;omega,by dsimp only;omega,Nat.le_trans (O2 _ (L' _)) (L' _)⟩,fun _=>⟨fun _=>⟨O3 _ (L' _),rfl,by dsimp only;omega,by dsimp only;omega,Nat.le_trans (O4 _ (L' _)) (L' _)⟩,fun _=>⟨rfl,by dsimp only;omega,by dsimp only;omega,L' _⟩⟩⟩
theorem aiO {p1:Int×List Int×Int×Unit→Bool} {f1:Int×List Int×Int×Unit→Int×List Int×Int×Unit} (hp1:∀n b p,Bt b→0≤p→p<1000000000→p1 (n,b,p,())=true) (hf1:∀n b p,Bt b→0≤p→p<1000000000→Pk n b p (f1 (n,b,p,()))) {p2:Blk×Unit→Bool} {f2:Blk×Unit→Int×Int×Int×Int×Int×Int×List IOp×Unit} (hp2:∀b,b.ops.length<1000000→p2 (b,())=true) (hf2:∀b,b.ops.length<1000000→f2 (b,())=(b.pc,b.len,b.fin,b.x,b.y,b.k,b.ops,())) (c:Blk) (b:List Int) (p:Int) (ok:dz c) (hc:c.ops.length<1000000) (hb:Bt b) (h1:0≤p) (h2:p<600000000):RY (std 0) p1 f1 p2 f2 (c,b,p,()) (fun y=>BkD 1000000 c.ops.length b p y):=by
 dsimp only [RY,Alg.cl,Alg.cg,Alg.rb,Alg.bd,Alg.l1,Tup.q,Tup.o]
 simp (disch:=omega) only [RR,RB,hp2 c hc,hf2 c hc]
 refine aA (fun(y:Int×List Int×Int×Int×Int×Int×Int×Int×Int×Int×Int×Int×Int×Int×Int×List IOp×Unit)=>0≤y.1∧y.1≤c.ops.length∧y.2.1=b∧p≤y.2.2.1∧y.2.2.1≤p+y.1∧y.2.2.2.2.2.2.2.2.2.2.2.2.2.2.2.1.length=c.ops.length∧∀j:Int,y.1≤j→((y.2.2.2.2.2.2.2.2.2.2.2.2.2.2.2.1).getD (j).toNat default)=((c.ops).getD (j).toNat default)) (fun y=>((c.ops.length:Int)-y.1).toNat) ⟨by dsimp only;omega,by dsimp only;omega,rfl,by dsimp only;omega,by dsimp only;omega,rfl,fun _ _=>rfl⟩ ?_
 rintro⟨(k:Int),(b':List Int),(q:Int),u1,u2,u3,u4,u5,u6,b1,b2,b3,b4,b5,b6,(ops:List IOp),⟨⟩⟩ hI
 dsimp only at hI ⊢
 obtain⟨k1,k2,rfl,k3,k4,k5,k6⟩:=hI
 have e:=k6 k (Int.le_refl _)
 have R:=pkR hb hf1
 have P:=fun n p h1 h2=>hp1 n b' p hb h1 h2
 simp (disch:=omega) only [RR,RB,e,R,P,List.length_set,Bool.and_eq_false_iff]
 refine⟨fun h=> ?_,fun h=>⟨rfl,k3,by dsimp only;omega,Nat.le_of_eq k5⟩⟩
 have oy:((c.ops).getD (k).toNat default).kind=3→0≤((c.ops).getD (k).toNat default).y∧((c.ops).getD (k).toNat default).y<k:=fun c3=>by have:=(ok.op k k1 (by omega)).y1 (Or.inl c3);exact⟨this.1,this.2.1⟩
 have S:∀(X:List IOp) v (j:Int),k+1≤j→(X.set k.toNat v).getD j.toNat default=X.getD j.toNat default:=fun X v j hj=>by
  simp only [List.getD,List.getElem?_set_ne (show k.toNat≠j.toNat by omega)]
 repeat' (first | (refine⟨?_,?_⟩) | intro _)
 all_goals first | omega | rfl | exact k6 _ (by omega) | (simp (disch:=omega) only [S];exact k6 _ (by omega))
end Go.TX.F
namespace Go.TX.F
open Go Go.AE Go.TX
theorem aiP {p1:Int×List Int×Int×Unit→Bool} {f1:Int×List Int×Int×Unit→Int×List Int×Int×Unit} (hp1:∀n b p,Bt b→0≤p→p<1000000000→p1 (n,b,p,())=true) (hf1:∀n b p,Bt b→0≤p→p<1000000000→Pk n b p (f1 (n,b,p,()))) {p2:Blk×Unit→Bool} {f2:Blk×Unit→Int×Int×Int×Int×Int×Int×List IOp×Unit} (hp2:∀b,b.ops.length<1000000→p2 (b,())=true) (hf2:∀b,b.ops.length<1000000→f2 (b,())=(b.pc,b.len,b.fin,b.x,b.y,b.k,b.ops,())) (c:Blk) (b:List Int) (p:Int) (hc:c.ops.length<1000000) (hb:Bt b) (h1:0≤p) (h2:p<900000000):Kt (std 0) p1 f1 p2 f2 (c,b,p,()) (fun y=>BkD 20 c.ops.length b p y):=by
 have R:=pkR hb hf1
 have P:=fun n p h1 h2=>hp1 n b p hb h1 h2
 by_cases z:(c.ops.length:Int)=0
 ·dsimp only [Kt,Alg.cl,Alg.cg,Alg.rb,Alg.bd,Alg.l1,Tup.q,Tup.o]
  simp (disch:=omega) only [RR,RB,hp2 c hc,hf2 c hc,z]
  exact⟨rfl,by dsimp only;omega,by dsimp only;omega,Nat.le_refl _⟩
 have B:=(hf1 c.ops.length b p hb h1 (by omega)).2.2
 have W:IntKind.i64.wrap ((f1 (c.ops.length,b,p,())).1-1)=(f1 (c.ops.length,b,p,())).1-1:=w64 (by omega) (by omega)
 dsimp only [Kt,Alg.cl,Alg.cg,Alg.rb,Alg.bd,Alg.l1,Tup.q,Tup.o]
 simp (disch:=omega) only [RR,RB,hp2 c hc,hf2 c hc,R,P,z,List.length_set,W]
 repeat' (first | (refine And.intro ?_ ?_) | intro _)
 all_goals first | omega | exact⟨rfl,by dsimp only;omega,by dsimp only;omega,by dsimp only [ZI];simp only [List.length_set,List.length_take,List.length_drop];omega⟩ | exact⟨rfl,by dsimp only;omega,by dsimp only;omega,by simp only [List.length_drop,List.length_take];omega⟩ | exact⟨rfl,by dsimp only;omega,by dsimp only;omega,Nat.le_refl _⟩
structure BoD (b:List Int) (p:Int) (y:Blk×List Int×Int×Unit):Prop where
 len:y.1.ops.length<100000
 b:y.2.1=b
 lo:p≤y.2.2.1
 hi:y.2.2.1≤p+5000
theorem aiQ {p1:Int×List Int×Int×Unit→Bool} {f1:Int×List Int×Int×Unit→Bool×List Int×Int×Unit} (hp1:∀n b p,Bt b→0≤p→p<1000000000→p1 (n,b,p,())=true) (hf1:∀n b p,Bt b→0≤p→p<1000000000→(f1 (n,b,p,())).2.1=b∧(f1 (n,b,p,())).2.2.1=p+1) {p2:Int×List Int×Int×Unit→Bool} {f2:Int×List Int×Int×Unit→Int×List Int×Int×Unit} (hp2:∀n b p,Bt b→0≤p→p<1000000000→p2 (n,b,p,())=true) (hf2:∀n b p,Bt b→0≤p→p<1000000000→Pk n b p (f2 (n,b,p,()))) {p3:Blk×List Int×Int×Unit→Bool} {f3:Blk×List Int×Int×Unit→Int×Int×Int×Int×Int×Int×List Int×Int×List IOp×Unit} (hp3:∀c b p,c.ops.length<1000000→Bt b→0≤p→p<900000000→p3 (c,b,p,())=true) (hf3:∀c b p,c.ops.length<1000000→Bt b→0≤p→p<900000000→BkD 20 c.ops.length b p (f3 (c,b,p,()))) {p4:List Int×Int×Unit→Bool} {f4:List Int×Int×Unit→Int×Int×Int×Int×Int×Int×List Int×Int×List IOp×Unit} (hp4:∀b p,Bt b→0≤p→p<600000000→p4 (b,p,())=true) (hf4:∀b p,Bt b→0≤p→p<600000000→BkD 2000 5000 b p (f4 (b,p,()))) (n:Int) (b:List Int) (p:Int) (hb:Bt b) (h1:0≤p) (h2:p<500000000):Ro (std 0) p1 f1 p2 f2 p3 f3 p4 f4 (n,b,p,()) (fun y=>BoD b p y):=by
 obtain⟨a1,a2,a3,a4⟩:=hf4 b p hb h1 (by omega)
 have H4:=hp4 b p hb h1 (by omega)
 have R:=pkR hb hf2
 have P:=fun n p h1 h2=>hp2 n b p hb h1 h2
 have R1:=fun n p h1 h2=>(hf1 n b p hb h1 h2).1
 have R2:=fun n p h1 h2=>(hf1 n b p hb h1 h2).2
 have P1:=fun n p h1 h2=>hp1 n b p hb h1 h2
 dsimp only [Ro,Alg.cl,Alg.cg,Alg.rb,Alg.bd,Alg.l1,Tup.q,Tup.o]
 simp (disch:=omega) only [RR,RB,H4,a1,R,P,R1,R2,P1,List.length_cons,List.length_nil,List.length_append]
 repeat' (first | (refine And.intro ?_ ?_) | intro _)
 all_goals try omega
 all_goals try exact BoD.mk (show(f4 (b,p,())).2.2.2.2.2.2.2.2.1.length<100000 by omega) rfl (by dsimp only;omega) (by dsimp only;omega)
 all_goals try exact hp3 _ _ _ (show(f4 (b,p,())).2.2.2.2.2.2.2.2.1.length<1000000 by omega) hb (by omega) (by omega)
 all_goals try exact BoD.mk (show(_++ [_]).length<100000 by rw [List.length_append,List.length_singleton];omega) rfl (by dsimp only;omega) (by dsimp only;omega)
 all_goals try exact(fun h=>BoD.mk (Nat.lt_of_le_of_lt h.len (show(f4 (b,p,())).2.2.2.2.2.2.2.2.1.length<100000 by omega)) h.b (by have:=h.lo;dsimp only;omega) (by have:=h.hi;dsimp only;omega)) (hf3 _ _ _ (show(f4 (b,p,())).2.2.2.2.2.2.2.2.1.length<1000000 by omega) hb (by omega) (by omega))
 all_goals
  refine aA (fun(y:List Int×Int×Int×Int×Int×Int×Int×Int×Int×Int×Int×Int×Int×Int×List IOp×Unit)=>y.1=b∧p≤y.2.1∧y.2.1≤p+5000∧y.2.2.2.2.2.2.2.2.2.2.2.2.2.2.1.length<50000) (fun y=>50-y.2.2.2.2.2.2.2.2.2.2.2.2.2.2.1.length) ⟨rfl,by dsimp only;omega,by dsimp only;omega,by dsimp only;omega⟩ ?_
  rintro⟨(b':List Int),(q:Int),u1,u2,u3,u4,u5,u6,b1,b2,b3,b4,b5,b6,(ops:List IOp),⟨⟩⟩ hI
  dsimp only at hI ⊢
  obtain⟨rfl,h3,h4,h5⟩:=hI
  simp (disch:=omega) only [RR,List.length_append,List.length_cons,List.length_nil]
  refine⟨fun h=>⟨by omega,⟨by omega,by omega,by omega⟩,by omega⟩,fun h=>⟨show ops.length<100000 by omega,rfl,by dsimp only;omega,by dsimp only;omega⟩⟩
end Go.TX.F
namespace Go.TX.F
open Go Go.AE Go.TX
theorem aiR {p1:Blk×Unit→Bool} {f1:Blk×Unit→Bool×Unit} (hp1:∀b,b.ops.length<1000000000→p1 (b,())=true) (hf1:∀b,b.ops.length<1000000000→f1 (b,())=(bp (dz b),())) {p2:Blk×Unit→Bool} {f2:Blk×Unit→Int×Int×Int×Int×Int×Int×List IOp×Unit} (hp2:∀b,b.ops.length<1000000→p2 (b,())=true) (hf2:∀b,b.ops.length<1000000→f2 (b,())=bk7 (KQ b)) {p3:Blk×Unit→Bool} {f3:Blk×Unit→Int×Int×Int×Int×Int×Int×List IOp×Unit} (hp3:∀b,b.ops.length<1000000→p3 (b,())=true) (hf3:∀b,b.ops.length<1000000→f3 (b,())=bk7 (dx b)) {p4:Int×List Int×Int×Unit→Bool} {f4:Int×List Int×Int×Unit→Int×List Int×Int×Unit} (hp4:∀n b p,Bt b→0≤p→p<1000000000→p4 (n,b,p,())=true) (hf4:∀n b p,Bt b→0≤p→p<1000000000→Pk n b p (f4 (n,b,p,()))) {p5:Blk×List Int×Int×Unit→Bool} {f5:Blk×List Int×Int×Unit→Int×Int×Int×Int×Int×Int×List Int×Int×List IOp×Unit} (hp5:∀c b p,c.ops.length<1000000→Bt b→0≤p→p<900000000→p5 (c,b,p,())=true) (hf5:∀c b p,c.ops.length<1000000→Bt b→0≤p→p<900000000→BkD 20 c.ops.length b p (f5 (c,b,p,()))) {p6:Int×List Int×Int×Unit→Bool} {f6:Int×List Int×Int×Unit→Blk×List Int×Int×Unit} (hp6:∀n b p,Bt b→0≤p→p<500000000→p6 (n,b,p,())=true) (hf6:∀n b p,Bt b→0≤p→p<500000000→BoD b p (f6 (n,b,p,()))) {p7:Blk×List Int×Int×Unit→Bool} {f7:Blk×List Int×Int×Unit→Int×Int×Int×Int×Int×Int×List Int×Int×List IOp×Unit} (hp7:∀c b p,dz c→c.ops.length<1000000→Bt b→0≤p→p<600000000→p7 (c,b,p,())=true) (hf7:∀c b p,dz c→c.ops.length<1000000→Bt b→0≤p→p<600000000→BkD 1000000 c.ops.length b p (f7 (c,b,p,()))) (n:Int) (b:List Int) (p:Int) (hb:Bt b) (h1:0≤p) (h2:p<400000000):RZ (std 0) p1 f1 p2 f2 p3 f3 p4 f4 p5 f5 p6 f6 p7 f7 (n,b,p,()) (fun(y:Blk×Blk×List Int×Int×Unit)=>y.1.ops.length<100000∧y.2.1.ops.length<100000∧y.2.2.1=b∧p≤y.2.2.2.1∧y.2.2.2.1≤p+10000000):=by
 replace hf2:=fun c h=>show(f2 (c,())).2.2.2.2.2.2.1.length≤c.ops.length by rw [hf2 c h];exact JA c
 replace hf3:=fun c h=>show(f3 (c,())).2.2.2.2.2.2.1.length≤c.ops.length by rw [hf3 c h];exact rP c
 have R:=pkR hb hf4
 have P:=fun n p h1 h2=>hp4 n b p hb h1 h2
 obtain⟨a1,a2,a3,a4⟩:=hf6 n b p hb h1 (by omega)
 have ne:=fun(m:Int) h1 h2=>hf6 n b m hb h1 h2
 generalize hz:(f6 (n,b,p,())).1=z at a1
 generalize hq:(f6 (n,b,p,())).2.2.1=q at a3 a4
 have D1:=hp2 z (by omega)
 have D2:=hf2 z (by omega)
 have D3:=hp3 z (by omega)
 have D4:=hf3 z (by omega)
 have B1:=fun c m (h:c.ops.length<1000000) h1 h2=>hp5 c b m h hb h1 h2
 have B2:=fun c m (h:c.ops.length<1000000) h1 h2=>hf5 c b m h hb h1 h2
 dsimp only [RZ,Alg.cl,Alg.cg,Alg.rb,Alg.bd,Alg.l1,Tup.q,Tup.o]
 simp (disch:=omega) only [RR,hp6 n b p hb h1 (by omega),hz,a2,hq,hp1 z (by omega),hf1 z (by omega),R,P,D1,D3]
 refine⟨fun _=>⟨a1,a1,by omega,by omega⟩,fun h=> ?_⟩
 have ok:=bQ.1 h
 have c0:=hf7 z b (q+1) ok (by omega) hb (by omega) (by omega)
 have d0:=hp7 z b (q+1) ok (by omega) hb (by omega) (by omega)
 have l1:(f2 (z,())).2.2.2.2.2.2.1.length<1000000:=by omega
 have cl:=c0.len
 have ch:=c0.hi
 have cw:=c0.lo
 have cb:=c0.b
 refine⟨fun _=>⟨d0,a1,Nat.lt_of_le_of_lt cl a1,cb,by omega,by omega⟩,fun _=>⟨fun _=>⟨a1,Nat.lt_of_le_of_lt D2 a1,by omega,by omega⟩,fun _=>⟨fun _=>⟨d0,hp2 _ (Nat.lt_of_le_of_lt cl (by omega)),a1,Nat.lt_of_le_of_lt (hf2 _ (Nat.lt_of_le_of_lt cl (by omega))) (Nat.lt_of_le_of_lt cl a1),cb,by omega,by omega⟩,fun _=>⟨fun _=> ?_,fun _=>⟨fun _=> ?_,fun _=>⟨fun _=> ?_,fun _=>⟨fun _=> ?_,fun _=>⟨fun _=> ?_,fun _=> ?_⟩⟩⟩⟩⟩⟩⟩⟩
 ·have:=B2 z (q+1) (by omega) (by omega) (by omega)
  exact⟨B1 z (q+1) (by omega) (by omega) (by omega),a1,Nat.lt_of_le_of_lt this.len a1,this.b,by have:=this.lo;omega,by have:=this.hi;omega⟩
 ·have:=B2 (aoV (f2 (z,()))) (q+1) l1 (by omega) (by omega)
  exact⟨B1 (aoV (f2 (z,()))) (q+1) l1 (by omega) (by omega),a1,Nat.lt_of_le_of_lt this.len (Nat.lt_of_le_of_lt D2 a1),this.b,Int.le_trans (by omega) this.lo,Int.le_trans this.hi (by omega)⟩
 ·exact⟨Nat.lt_of_le_of_lt D2 a1,a1,by omega,by omega⟩
 ·obtain⟨g1,g2,g3,g4⟩:=hf6 n b (q+1) hb (by omega) (by omega)
  exact⟨hp6 n b (q+1) hb (by omega) (by omega),a1,g1,g2,by omega,by omega⟩
 ·exact⟨a1,Nat.lt_of_le_of_lt D4 a1,by omega,by omega⟩
 ·exact⟨a1,a1,by omega,by omega⟩
theorem aiS {p1:List Int×Unit→Bool} {f1:List Int×Unit→List Int×Int×Unit} (hp1:∀b,By b→b.length<1000000000→p1 (b,())=true) (hf1:∀b,By b→b.length<1000000000→Bt (f1 (b,())).1∧(f1 (b,())).2.1=0) {p2:Int×List Int×Int×Unit→Bool} {f2:Int×List Int×Int×Unit→Blk×Blk×List Int×Int×Unit} (hp2:∀n b p,Bt b→0≤p→p<400000000→p2 (n,b,p,())=true) (hf2:∀n b p,Bt b→0≤p→p<400000000→(f2 (n,b,p,())).1.ops.length<100000∧(f2 (n,b,p,())).2.1.ops.length<100000∧(f2 (n,b,p,())).2.2.1=b∧p≤(f2 (n,b,p,())).2.2.2.1∧(f2 (n,b,p,())).2.2.2.1≤p+10000000) (c:List Int) (hc:By c) (hl:c.length<1000000000):R3 (std 0) p1 f1 p2 f2 (c,()) (fun y=>y.1.ops.length<100000∧y.2.1.ops.length<100000):=by
 obtain⟨hb,e0⟩:=hf1 c hc hl
 generalize hbe:(f1 (c,())).1=b at hb
 obtain⟨a1,a2,a3,a4,a5⟩:=hf2 14 b 0 hb (by omega) (by omega)
 dsimp only [R3,Alg.cl,Alg.cg,Alg.rb,Alg.bd,Alg.l1,Tup.q,Tup.o]
 simp (disch:=omega) only [RR,hp1 c hc hl,hbe,e0,hp2 14 b 0 hb (by omega) (by omega)]
 exact⟨a1,a2⟩
end Go.TX.F
namespace Go.TX.F
open Go Go.AE Go.TX
theorem Wz (a b:List IOp):kg (a++b)=kg a++kg b:=List.filter_append ..
theorem Sv {ops:List IOp} {k:Nat} (hk:k<ops.length):(kg (ops.take (k+1))).length=(kg (ops.take k)).length+if evO (ops.getD k default)then 1 else 0:=by
 rw [List.take_succ_eq_append_getElem hk,Wz,List.length_append,getD_lt hk]
 congr 1
 unfold kg
 by_cases h:evO ops[k]
 ·rw [if_pos h,List.filter_cons_of_pos (by simp only [decide_eq_true_eq];exact h)];rfl
 ·rw [if_neg h,List.filter_cons_of_neg (by simp only [decide_eq_true_eq];exact h)];rfl
end Go.TX.F
namespace Go.TX.F
open Go Go.AE Go.TX
end Go.TX.F
namespace Go.TX.F
open Go Go.AE Go.TX
theorem aoW (x y:IOp):akZ .iop x y=decide (x=y):=rfl
theorem Sw {P:Prop} [Decidable P]:decide P=bp P:=by unfold bp;congr
theorem aaw (a b:List IOp) (ha:a.length<1000000000):Rq (std 0) (a,b,()) (fun y=>y=(bp (a=b),())):=by
 dsimp only [Rq,Alg.cl,Alg.cg,Alg.rb,Alg.bd,Alg.l1,Tup.q,Tup.o]
 simp (disch:=omega) only [RR]
 refine⟨fun h=> ?_,fun h=> ?_⟩
 ·rw [gU (fun e=>h (by rw [e]))]
 have hl:a.length=b.length:=by omega
 refine aA (fun(y:List IOp×List IOp×Int×Int×Unit)=>y.1=a∧y.2.1=b∧y.2.2.1=a.length∧0≤y.2.2.2.1∧y.2.2.2.1≤a.length∧All y.2.2.2.1 (fun i=>a.getD i.toNat default=b.getD i.toNat default)) (fun y=>(a.length-y.2.2.2.1).toNat) ⟨rfl,rfl,rfl,by simp,by simp,All.zero⟩ ?_
 rintro⟨(l1:List IOp),(l2:List IOp),(n:Int),(i:Int),⟨⟩⟩ hI
 dsimp only at hI ⊢
 obtain⟨rfl,rfl,rfl,h1,h2,h3⟩:=hI
 simp (disch:=omega) only [RR,aoW]
 refine⟨fun h4=>⟨by omega,by omega,by omega,by omega,fun h5=> ?_,fun h5=>⟨⟨by omega,by omega,h3.snoc h5⟩,by omega⟩⟩,fun h4=> ?_⟩
 ·rw [gU]
  intro e;rw [e]at h5;exact h5 rfl
 ·rw [bN (KE hl (h3.le (by omega)))]
theorem aoX {p1:List IOp×List IOp×Unit→Bool} {f1:List IOp×List IOp×Unit→Bool×Unit} (hp1:∀a b,a.length<1000000000→p1 (a,b,())=true) (hf1:∀a b,a.length<1000000000→f1 (a,b,())=(bp (a=b),())) (a b:Blk) (ha:a.ops.length<1000000000):Yg (std 0) p1 f1 (a,b,()) (fun y=>y=(bp (a=b),())):=by
 dsimp only [Yg,Alg.cl,Alg.cg,Alg.rb,Alg.bd,Alg.l1,Tup.q,Tup.o]
 simp (disch:=omega) only [RR,RB,hp1 _ _ ha,hf1 _ _ ha]
 simp only [Sw,←uQ]
 refine Prod.ext (uR ?_) rfl
 cases a;cases b;simp only [Blk.mk.injEq]
 constructor<;>(intro h;simp only [h,and_self])
theorem aoY {p1:List aj×List aj×Unit→Bool} {f1:List aj×List aj×Unit→Bool×Unit} (hp1:∀a b,Sh a→p1 (a,b,())=true) (hf1:∀a b,Sh a→f1 (a,b,())=(decide (dP a b=0),())) (a b:List aj) (ha:Sh a):Zq (std 0) p1 f1 (a,b,()) (fun y=>y=(decide (dP a b=0),())):=by
 dsimp only [Zq,Alg.cl,Alg.cg,Alg.rb,Alg.bd,Alg.l1,Tup.q,Tup.o]
 simp (disch:=omega) only [RR,hp1 _ _ ha,hf1 _ _ ha]
theorem aiT {p1:List aj×List aj×Unit→Bool} {f1:List aj×List aj×Unit→Bool×Unit} (hp1:∀a b,Sh a→p1 (a,b,())=true) (hf1:∀a b,Sh a→f1 (a,b,())=(decide (dP a b=0),())) (a b:List (List aj)) (ha:ShP a):RV (std 0) p1 f1 (a,b,()) (fun y=>y=(bp (a=b),())):=by
 have hlen:=ha.1
 dsimp only [RV,Alg.cl,Alg.cg,Alg.rb,Alg.bd,Alg.l1,Tup.q,Tup.o]
 simp (disch:=omega) only [RR]
 refine⟨fun h=> ?_,fun h=> ?_⟩
 ·rw [gU (fun e=>h (by rw [e]))]
 have hl:a.length=b.length:=by omega
 refine aA (fun(y:List (List aj)×List (List aj)×Int×Int×Unit)=>y.1=b∧y.2.1=a∧y.2.2.1=a.length∧0≤y.2.2.2.1∧y.2.2.2.1≤a.length∧All y.2.2.2.1 (fun i=>a.getD i.toNat default=b.getD i.toNat default)) (fun y=>(a.length-y.2.2.2.1).toNat) ⟨rfl,rfl,rfl,by simp,by simp,All.zero⟩ ?_
 rintro⟨(l1:List (List aj)),(l2:List (List aj)),(n:Int),(i:Int),⟨⟩⟩ hI
 dsimp only at hI ⊢
 obtain⟨rfl,rfl,rfl,h1,h2,h3⟩:=hI
 simp (disch:=omega) only [RR,hp1 _ _ (ha.at _),hf1 _ _ (ha.at _),gT]
 refine⟨fun h4=>⟨by omega,by omega,by omega,by omega,fun h5=> ?_,fun h5=>⟨⟨by omega,by omega,h3.snoc h5⟩,by omega⟩⟩,fun h4=> ?_⟩
 ·rw [gU]
  intro e;rw [e]at h5;exact h5 rfl
 ·rw [bN (KE hl (h3.le (by omega)))]
theorem aoZ {p1:List (List aj)×List (List aj)×Unit→Bool} {f1:List (List aj)×List (List aj)×Unit→Bool×Unit} (hp1:∀a b,ShP a→p1 (a,b,())=true) (hf1:∀a b,ShP a→f1 (a,b,())=(bp (a=b),())) (a b:List (List aj)) (ha:ShP a):Zr (std 0) p1 f1 (a,b,()) (fun y=>y=(bp (a=b),())):=by
 dsimp only [Zr,Alg.cl,Alg.cg,Alg.rb,Alg.bd,Alg.l1,Tup.q,Tup.o]
 simp (disch:=omega) only [RR,hp1 _ _ ha,hf1 _ _ ha]
theorem ao0 {p1:List aj×List aj×Unit→Bool} {f1:List aj×List aj×Unit→Bool×Unit} (hp1:∀a b,Sh a→p1 (a,b,())=true) (hf1:∀a b,Sh a→f1 (a,b,())=(decide (dP a b=0),())) {p2:List (List aj)×List (List aj)×Unit→Bool} {f2:List (List aj)×List (List aj)×Unit→Bool×Unit} (hp2:∀a b,ShP a→p2 (a,b,())=true) (hf2:∀a b,ShP a→f2 (a,b,())=(bp (a=b),())) (a b:Ev) (ha:ShE a):Zt (std 0) p1 f1 p2 f2 (a,b,()) (fun y=>y=(bp (a=b),())):=by
 dsimp only [Zt,Alg.cl,Alg.cg,Alg.rb,Alg.bd,Alg.l1,Tup.q,Tup.o]
 simp (disch:=omega) only [RR,RB,hp1 _ _ ha.1,hf1 _ _ ha.1,hp1 _ _ ha.2.1,hf1 _ _ ha.2.1,hp2 _ _ ha.2.2,hf2 _ _ ha.2.2,gT]
 simp only [Sw,←uQ]
 refine Prod.ext (uR ?_) rfl
 cases a;cases b;simp only [Ev.mk.injEq]
 constructor<;>(intro h;simp only [h,and_self])
theorem aiU {p1:Ev×Ev×Unit→Bool} {f1:Ev×Ev×Unit→Bool×Unit} (hp1:∀a b,ShE a→p1 (a,b,())=true) (hf1:∀a b,ShE a→f1 (a,b,())=(bp (a=b),())) (a b:List Ev) (ha:Ww a):RX (std 0) p1 f1 (a,b,()) (fun y=>y=(bp (a=b),())):=by
 have hlen:=ha.1
 dsimp only [RX,Alg.cl,Alg.cg,Alg.rb,Alg.bd,Alg.l1,Tup.q,Tup.o]
 simp (disch:=omega) only [RR]
 refine⟨fun h=> ?_,fun h=> ?_⟩
 ·rw [gU (fun e=>h (by rw [e]))]
 have hl:a.length=b.length:=by omega
 refine aA (fun(y:List Ev×List Ev×Int×Int×Unit)=>y.1=b∧y.2.1=a∧y.2.2.1=a.length∧0≤y.2.2.2.1∧y.2.2.2.1≤a.length∧All y.2.2.2.1 (fun i=>a.getD i.toNat default=b.getD i.toNat default)) (fun y=>(a.length-y.2.2.2.1).toNat) ⟨rfl,rfl,rfl,by simp,by simp,All.zero⟩ ?_
 rintro⟨(l1:List Ev),(l2:List Ev),(n:Int),(i:Int),⟨⟩⟩ hI
 dsimp only at hI ⊢
 obtain⟨rfl,rfl,rfl,h1,h2,h3⟩:=hI
 simp (disch:=omega) only [RR,hp1 _ _ (ha.at _),hf1 _ _ (ha.at _),bQ,uP]
 refine⟨fun h4=>⟨by omega,by omega,by omega,by omega,fun h5=> ?_,fun h5=>⟨⟨by omega,by omega,h3.snoc h5⟩,by omega⟩⟩,fun h4=> ?_⟩
 ·rw [gU]
  intro e;rw [e]at h5;exact h5 rfl
 ·rw [bN (KE hl (h3.le (by omega)))]
theorem ao1 {p1:List aj×List aj×Unit→Bool} {f1:List aj×List aj×Unit→Bool×Unit} (hp1:∀a b,Sh a→p1 (a,b,())=true) (hf1:∀a b,Sh a→f1 (a,b,())=(decide (dP a b=0),())) {p2:List (List aj)×List (List aj)×Unit→Bool} {f2:List (List aj)×List (List aj)×Unit→Bool×Unit} (hp2:∀a b,ShP a→p2 (a,b,())=true) (hf2:∀a b,ShP a→f2 (a,b,())=(bp (a=b),())) {p3:List Ev×List Ev×Unit→Bool} {f3:List Ev×List Ev×Unit→Bool×Unit} (hp3:∀b a,Ww b→p3 (b,a,())=true) (hf3:∀b a,Ww b→f3 (b,a,())=(bp (b=a),())) (a b:Sym) (ha:ShY a):Zw (std 0) p1 f1 p2 f2 p3 f3 (a,b,()) (fun y=>y=(bp (a=b),())):=by
 dsimp only [Zw,Alg.cl,Alg.cg,Alg.rb,Alg.bd,Alg.l1,Tup.q,Tup.o]
 simp (disch:=omega) only [RR,RB,hp1 _ _ ha.x,hf1 _ _ ha.x,hp1 _ _ ha.y,hf1 _ _ ha.y,hp2 _ _ ha.r,hf2 _ _ ha.r,hp3 _ _ ha.e,hf3 _ _ ha.e,gT]
 simp only [Sw,←uQ]
 refine Prod.ext (uR ?_) rfl
 cases a;cases b;simp only [Sym.mk.injEq]
 constructor<;>(intro h;simp only [h,and_self])
theorem ao2 {p1:Blk×Unit→Bool} {f1:Blk×Unit→Bool×Unit} (hp1:∀b,b.ops.length<1000000000→p1 (b,())=true) (hf1:∀b,b.ops.length<1000000000→f1 (b,())=(bp (dz b),())) {p2:Blk×Blk×Unit→Bool} {f2:Blk×Blk×Unit→Bool×Unit} (hp2:∀a b,a.ops.length<1000000000→p2 (a,b,())=true) (hf2:∀a b,a.ops.length<1000000000→f2 (a,b,())=(bp (a=b),())) {p3:Unit→Bool} {f3:Unit→List Atom×List (List aj)×Unit} (hp3:p3 ()=true) (hf3:(f3 ()).1=t4) {p4:List Atom×Blk×Unit→Bool} {f4:List Atom×Blk×Unit→List Atom×Sym×Unit} (hp4:∀t b,ShT t→b.ops.length<1000000000→p4 (t,b,())=true) (hf4:∀t b,ShT t→b.ops.length<1000000000→f4 (t,b,())=((bC t b).1,(bC t b).2,())) {p5:Sym×Sym×Unit→Bool} {f5:Sym×Sym×Unit→Bool×Unit} (hp5:∀a b,ShY a→p5 (a,b,())=true) (hf5:∀a b,ShY a→f5 (a,b,())=(bp (a=b),())) (b c:Blk) (hb:b.ops.length<1000000000) (hc:c.ops.length<1000000000):Zx (std 0) p1 f1 p2 f2 p3 f3 p4 f4 p5 f5 (b,c,()) (fun y=>y=(chk b c,())):=by
 have s4:ShT t4:=OD.1.sh
 have y1:=KN t4 b
 dsimp only [Zx,Alg.cl,Alg.cg,Alg.rb,Alg.bd,Alg.l1,Tup.q,Tup.o]
 simp (disch:=omega) only [RR,RB,hp1 b hb,hf1 b hb,hp1 c hc,hf1 c hc,hp2 b c hb,hf2 b c hb,hp3,hf3,hp4 t4 b s4 hb,hf4 t4 b s4 hb,hp4 _ c y1.2 hc,hf4 _ c y1.2 hc,hp5 _ _ y1.1,hf5 _ _ y1.1,bQ,uP]
 unfold chk
 refine⟨fun h=> ?_,fun h=>⟨fun e=> ?_,fun e=> ?_⟩⟩
 ·rw [gU];rintro⟨h1,h2,h3,h4,_⟩;simp_all
 ·rw [bN];exact⟨h.1.1.1,h.1.1.2,h.1.2,h.2,Or.inl e⟩
 ·refine Prod.ext (uR ?_) rfl
  exact⟨fun g=>⟨h.1.1.1,h.1.1.2,h.1.2,h.2,Or.inr g⟩,fun g=>g.2.2.2.2.resolve_left e⟩
end Go.TX.F
namespace Go.TX.F
open Go Go.AE Go.TX
structure arV (nm:List Int) (fin x y:Int) (ops:List IOp):Prop where
 op:∀i:Int,0≤i→i<ops.length→(hX ((ops).getD (i).toNat default)→0≤(((ops).getD (i).toNat default)).x∧(((ops).getD (i).toNat default)).x<nm.length)∧(hY ((ops).getD (i).toNat default)→0≤(((ops).getD (i).toNat default)).y∧(((ops).getD (i).toNat default)).y<nm.length)
 x:fin≠1→0≤x∧x<nm.length
 y:3≤fin→0≤y∧y<nm.length
 l:ops.length<1000000000
end Go.TX.F
namespace Go.TX.F
open Go Go.AE Go.TX
end Go.TX.F
namespace Go.TX.F
open Go Go.AE Go.TX
theorem ao3 {p1:IOp×Unit→Bool} {f1:IOp×Unit→Bool×Unit} (hp1:∀o,p1 (o,())=true) (hf1:∀o,f1 (o,())=(decide (evO o),())) (b:Blk) (hb:b.ops.length<1000000):Zy (std 0) p1 f1 (b,()) (fun y=>y=(((kg b.ops).length:Int),())):=by
 dsimp only [Zy,Alg.cl,Alg.cg,Alg.rb,Alg.bd,Alg.l1,Tup.q,Tup.o]
 simp (disch:=omega) only [RR,RB]
 refine aA (fun(y:Int×List IOp×Int×Int×Unit)=>y.2.1=b.ops∧y.2.2.1=b.ops.length∧0≤y.2.2.2.1∧y.2.2.2.1≤b.ops.length∧y.1=((kg (b.ops.take y.2.2.2.1.toNat)).length:Int)) (fun y=>(b.ops.length-y.2.2.2.1).toNat) ⟨rfl,rfl,by simp,by simp,rfl⟩ ?_
 rintro⟨(n:Int),(l:List IOp),(m:Int),(i:Int),⟨⟩⟩ hI
 dsimp only at hI ⊢
 obtain⟨rfl,rfl,h1,h2,rfl⟩:=hI
 have tk:i<b.ops.length→(kg (b.ops.take (i+1).toNat)).length=(kg (b.ops.take i.toNat)).length+if evO ((b.ops).getD (i).toNat default)then 1 else 0:=fun h=>by
  rw [show(i+1).toNat=i.toNat+1 by omega];exact Sv (by omega)
 have wl:(kg (b.ops.take i.toNat)).length≤b.ops.length:=Nat.le_trans (List.length_filter_le _ _) (by rw [List.length_take];omega)
 simp (disch:=omega) only [RR,RB,hp1,hf1]
 refine⟨fun h=>⟨h1,h,fun c=> ?_,fun c=> ?_⟩,fun h=> ?_⟩
 ·exact⟨⟨by omega,by omega,by rw [tk h,if_pos c];omega⟩,by omega⟩
 ·exact⟨⟨by omega,by omega,by rw [tk h,if_neg c];omega⟩,by omega⟩
 ·rw [List.take_of_length_le (by omega)]
end Go.TX.F
namespace Go.TX.F
open Go Go.AE Go.TX
end Go.TX.F
namespace Go.TX.F
open Go Go.AE Go.TX
def ShC (l:List Cer):Prop:=l.length<1000∧∀q∈l,q.base.ops.length<1000000∧q.made.ops.length<1000000
theorem ShC.at {l:List Cer} (h:ShC l) (i:Nat):(l.getD i default).base.ops.length<1000000∧(l.getD i default).made.ops.length<1000000:=by
 by_cases c:i<l.length
 ·rw [getD_lt c];exact h.2 _ (List.getElem_mem _)
 ·rw [List.getD_eq_getElem?_getD,List.getElem?_eq_none (by omega)];exact⟨by decide,by decide⟩
theorem ShC.add {l:List Cer} (h:ShC l) (n:l.length<999) {q:Cer} (h1:q.base.ops.length<1000000) (h2:q.made.ops.length<1000000):ShC (l++ [q]):=by
 refine⟨by rw [List.length_append,List.length_singleton];omega,fun c g=> ?_⟩
 rw [List.mem_append,List.mem_singleton]at g
 rcases g with g | rfl
 ·exact h.2 c g
 ·exact⟨h1,h2⟩
end Go.TX.F
namespace Go.TX.F
open Go Go.AE Go.TX
theorem jr (l:List Int):(dJ l).Perm l:=List.mergeSort_perm l _
theorem A9 (l:List Int):(dJ l).Pairwise (· ≤ ·):=by
 have:=List.pairwise_mergeSort (le:=fun x y:Int=>decide (x≤y)) (fun a b c h1 h2=>by simp only [decide_eq_true_eq]at*;omega) (fun a b=>by simp only [Bool.or_eq_true,decide_eq_true_eq];omega) l
 exact this.imp fun h=>by simpa using h
theorem uW {a b:List Int} (h:a.Perm b):dJ a=dJ b:=rG (A9 a) ((jr a).trans h)
theorem H8 {a:List Int} (h:a.Pairwise (· ≤ ·)):dJ a=a:=(rG h (List.Perm.refl a)).symm
structure Ren (s:Int→Int) (t:Int→Int) (n:Int):Prop where
 rng:∀k,0≤k→k<n→0≤s k∧s k≤199
 back:∀k,0≤k→k<n→t (s k)=k
def mapM (s:Int→Int) (m:aj):aj:=⟨m.gq,dJ (m.atoms.map s)⟩
def AtN (n:Int) (l:List Int):Prop:=l.Pairwise (· ≤ ·)∧∀k∈l,0≤k∧k<n
theorem Ren.bk {s t:Int→Int} {n:Int} (h:Ren s t n) {l:List Int} (hl:AtN n l):dJ ((dJ (l.map s)).map t)=l:=by
 rw [uW ((jr _).map t),List.map_map]
 have e:l.map (t ∘ s)=l:=by
  conv=>rhs;rw [←List.map_id l]
  exact List.map_congr_left fun k hk=>h.back k (hl.2 k hk).1 (hl.2 k hk).2
 rw [e,H8 hl.1]
theorem KS {s t:Int→Int} {n:Int} (h:Ren s t n) (K:List Int):∀ {l:List aj},(∀m∈l,AtN n m.atoms)→cf (l.map (mapM s)) K=if dJ ((dJ (K.map t)).map s)=K then cf l (dJ (K.map t))else 0
 | [],_=>by simp [jm]
 | m::l,hl=>by
  have hm:=hl m List.mem_cons_self
  rw [List.map_cons,bD,KS h K (fun m' hm'=>hl m' (List.mem_cons_of_mem _ hm')),bD]
  show(if dJ (m.atoms.map s)=K then m.gq else 0)+_=_
  by_cases c:dJ (m.atoms.map s)=K
  ·have e:=h.bk hm
   rw [c]at e
   rw [if_pos c,e,if_pos c,if_pos c,if_pos rfl]
  ·rw [if_neg c]
   by_cases d:dJ ((dJ (K.map t)).map s)=K
   ·rw [if_pos d,if_pos d,if_neg (fun x=>c (by rw [x,d]))]
   ·rw [if_neg d,if_neg d];rfl
noncomputable def aQ (s:Int→Int) (p:List aj):List aj:=nf (p.map (mapM s))
theorem acL {s t:Int→Int} {n:Int} (h:Ren s t n) {l l':List aj} (hl:∀m∈l,AtN n m.atoms) (hl':∀m∈l',AtN n m.atoms) (e:∀k,cf l k%65536=cf l' k%65536):nf (l.map (mapM s))=nf (l'.map (mapM s)):=
 Oz fun K=>by
  rw [KS h K hl,KS h K hl']
  split
  ·exact e _
  ·rfl
structure Dis (l:List aj):Prop where
 ne:l.Pairwise fun a b=>a.atoms≠b.atoms
 co:∀m∈l,1≤m.gq∧m.gq≤65535
theorem Nf.dis {o:List aj} (h:Nf o):Dis o:=⟨h.ss.imp fun g=>g.ne,h.co⟩
theorem Dis.perm {a b:List aj} (h:Dis a) (p:a.Perm b):Dis b:=⟨(p.pairwise_iff (R:=fun a b:aj=>a.atoms≠b.atoms) (fun g=>g.symm)).1 h.ne,fun m hm=>h.co m (p.mem_iff.2 hm)⟩
theorem Dis.rng (k:List Int):∀ {l:List aj},Dis l→0≤cf l k∧cf l k≤65535
 | [],_=>by simp [jm]
 | m::l,h=>by
  have c:=h.co m List.mem_cons_self
  rw [bD]
  by_cases e:m.atoms=k
  ·rw [if_pos e,gK fun m' hm'=>by rw [←e];exact(List.rel_of_pairwise_cons h.ne hm').symm];omega
  ·rw [if_neg e]
   have:=Dis.rng k (l:=l) ⟨h.ne.tail,fun m hm=>h.co m (List.mem_cons_of_mem _ hm)⟩
   omega
theorem Ve {a b:List aj} (p:a.Perm b) (k:List Int):cf a k=cf b k:=by
 induction p with
 | nil=>rfl
 | cons x _ ih=>rw [bD,bD,ih]
 | swap x y l=>rw [bD,bD,bD,bD];omega
 | trans _ _ h1 h2=>rw [h1,h2]
theorem acM {a b c:List Int} (h1:dZ a b≤0) (h2:dZ b c≤0):dZ a c≤0:=by
 by_cases e:dZ b c=0
 ·rw [←iD.1 e];exact h1
 ·exact Int.le_of_lt (dD (x:=⟨0,a⟩) (y:=⟨0,b⟩) (z:=⟨0,c⟩) h1 (by dsimp only;omega))
theorem Dis.nf {l:List aj} (h:Dis l):(nf l).Perm l∧Nf (nf l):=by
 have p:(l.mergeSort fun a b=>decide (dZ a.atoms b.atoms≤0)).Perm l:=List.mergeSort_perm l _
 have g:=List.pairwise_mergeSort (le:=fun a b:aj=>decide (dZ a.atoms b.atoms≤0)) (fun a b c h1 h2=>by
  simp only [decide_eq_true_eq]at*;exact acM h1 h2) (fun a b=>by
  simp only [Bool.or_eq_true,decide_eq_true_eq];rw [kP b.atoms a.atoms];omega) l
 have d:=h.perm p.symm
 have n:Nf (l.mergeSort fun a b=>decide (dZ a.atoms b.atoms≤0)):=by
  refine⟨(g.and d.ne).imp fun {a b} x=> ?_,d.co⟩
  have x1:dZ a.atoms b.atoms≤0:=by simpa using x.1
  have x2:dZ a.atoms b.atoms≠0:=fun e=>x.2 (iD.1 e)
  show dZ _ _<0
  omega
 have e:=Jo (l:=l) n fun k=>by
  rw [Ve p k];have:=h.rng k;omega
 rw [e];exact⟨p,n⟩
theorem H9 {s t:Int→Int} {n:Int} (h:Ren s t n) {p:List aj} (hp:Dis p) (ha:∀m∈p,AtN n m.atoms):(aQ s p).Perm (p.map (mapM s))∧Nf (aQ s p):=by
 refine Dis.nf ⟨?_,fun m hm=> ?_⟩
 ·rw [List.pairwise_map]
  refine hp.ne.imp_of_mem fun {a b} h1 h2 g e=>g ?_
  have e':dJ (a.atoms.map s)=dJ (b.atoms.map s):=e
  rw [←h.bk (ha a h1),e',h.bk (ha b h2)]
 ·obtain⟨m',h1,rfl⟩:=List.mem_map.1 hm
  exact hp.co m' h1
theorem aax {s t:Int→Int} {n:Int} (h:Ren s t n) {p:List aj} (hp:aO p) (ha:∀m∈p,AtN n m.atoms):aO (aQ s p):=by
 obtain⟨h1,h2,h3⟩:=iE.1 hp
 obtain⟨g1,g2⟩:=H9 h h1.dis ha
 refine iE.2 ⟨g2,by rw [g1.length_eq,List.length_map];exact h2,fun m hm=> ?_⟩
 obtain⟨m',k1,rfl⟩:=List.mem_map.1 (g1.mem_iff.1 hm)
 refine⟨by show(dJ _).length≤4;rw [vY,List.length_map];exact(h3 m' k1).1,A9 _,fun k hk=> ?_⟩
 obtain⟨j,j1,rfl⟩:=List.mem_map.1 ((jr _).mem_iff.1 hk)
 exact h.rng j ((ha m' k1).2 j j1).1 ((ha m' k1).2 j j1).2
theorem aay {l:List aj} {n:Int} (hl:∀m∈l,AtN n m.atoms):∀m∈nf l,AtN n m.atoms:=fun m hm=>by
 obtain⟨h1,h2⟩:=KG l
 obtain⟨m',g1,g2⟩:=h1.from h2 hm
 rw [←g2];exact hl m' g1
theorem aiV {s t:Int→Int} {n:Int} (h:Ren s t n) {l:List aj} (hl:∀m∈l,AtN n m.atoms):nf (l.map (mapM s))=aQ s (nf l):=
 acL h hl (aay hl) fun k=>by rw [(KG l).2];omega
theorem AtN.aok {n:Int} (hn:n≤200) {l:List Int} (h:AtN n l):aok l:=⟨h.1,fun k hk=>by have:=h.2 k hk;omega⟩
theorem acN {s t:Int→Int} {n:Int} (h:Ren s t n) (hn:n≤200) {p:List aj} (hp:Nf p) (ha:∀m∈p,AtN n m.atoms):aO (aQ s p)↔aO p:=by
 refine⟨fun g=> ?_,fun g=>aax h g ha⟩
 obtain⟨h1,h2,h3⟩:=iE.1 g
 obtain⟨g1,_⟩:=H9 h hp.dis ha
 refine iE.2 ⟨hp,by rw [g1.length_eq,List.length_map]at h2;exact h2,fun m hm=>⟨?_,(ha m hm).aok hn⟩⟩
 have:=(h3 _ (g1.mem_iff.2 (List.mem_map.2 ⟨m,hm,rfl⟩))).1
 have e:(mapM s m).atoms.length=m.atoms.length:=by show(dJ _).length=_;rw [vY,List.length_map]
 omega
theorem OJ {s t:Int→Int} {n:Int} (h:Ren s t n) (hn:n≤200) {l:List aj} (hl:∀m∈l,AtN n m.atoms):jZ (l.map (mapM s))=((jZ l).1,aQ s (jZ l).2):=by
 unfold jZ
 rw [aiV h hl]
 have e:=acN h hn (KG l).1 (aay hl)
 by_cases c:aO (nf l)
 ·rw [bN c,bN (e.2 c)];rfl
 ·rw [gU c,gU (fun g=>c (e.1 g))]
  show(false,[])=(false,aQ s [])
  have:aQ s []=[]:=vZ ⟨List.Pairwise.nil,fun m hm=>absurd hm (by simp)⟩
  rw [this]
theorem Vf {a b:List aj} (p:a.Perm b):nf a=nf b:=Oz fun k=>by rw [Ve p]
theorem JC {a b:List aj} (p:a.Perm b):jZ a=jZ b:=by unfold jZ;rw [Vf p]
def RP (n:Int) (p:List aj):Prop:=aO p∧∀m∈p,AtN n m.atoms
theorem RP.perm {s t:Int→Int} {n:Int} (h:Ren s t n) {p:List aj} (hp:RP n p):(aQ s p).Perm (p.map (mapM s)):=(H9 h hp.1.nf.dis hp.2).1
theorem RP.ok {s t:Int→Int} {n:Int} (h:Ren s t n) {p:List aj} (hp:RP n p):aO (aQ s p):=aax h hp.1 hp.2
theorem OL {s t:Int→Int} {n:Int} (h:Ren s t n) (hn:n≤200) {a b:List aj} (ha:RP n a) (hb:RP n b):nU (aQ s a) (aQ s b)=((nU a b).1,aQ s (nU a b).2):=by
 unfold nU
 rw [bN (ha.ok h),bN (hb.ok h),bN ha.1,bN hb.1]
 show jZ _=_
 rw [JC ((ha.perm h).append (hb.perm h)),←List.map_append,OJ h hn fun m hm=> ?_]
 ·rfl
 ·rcases List.mem_append.1 hm with g | g
  ·exact ha.2 m g
  ·exact hb.2 m g
theorem aaz (s:Int→Int) (m k:aj):mulM (mapM s m) (mapM s k)=mapM s (mulM m k):=by
 show aj.mk _ (dJ (dJ (m.atoms.map s)++dJ (k.atoms.map s)))=aj.mk _ (dJ ((dJ (m.atoms++k.atoms)).map s))
 rw [uW ((jr _).append (jr _)),←List.map_append,uW ((jr (m.atoms++k.atoms)).map s)];rfl
theorem WA (s:Int→Int) (a b:List aj):prods (a.map (mapM s)) (b.map (mapM s))=(prods a b).map (mapM s):=by
 unfold prods
 rw [List.flatMap_map,List.map_flatMap]
 congr 1;funext m
 rw [List.map_map,List.map_map]
 congr 1;funext k
 exact aaz s m k
theorem Sy {a a' b b':List aj} (h1:a.Perm a') (h2:b.Perm b'):(prods a b).Perm (prods a' b'):=by
 unfold prods
 refine(h1.flatMap_right _).trans ?_
 clear h1
 induction a' with
 | nil=>exact List.Perm.refl _
 | cons m l ih=>rw [List.flatMap_cons,List.flatMap_cons];exact(h2.map _).append ih
theorem AtN.mul {n:Int} {m k:aj} (h1:AtN n m.atoms) (h2:AtN n k.atoms):AtN n (mulM m k).atoms:=⟨A9 _,fun j hj=>by
 rcases List.mem_append.1 ((jr _).mem_iff.1 hj)with g | g
 ·exact h1.2 j g
 ·exact h2.2 j g⟩
theorem OM {n:Int} {a b:List aj} (ha:∀m∈a,AtN n m.atoms) (hb:∀m∈b,AtN n m.atoms):∀m∈prods a b,AtN n m.atoms:=fun m hm=>by
 obtain⟨x,hx,g⟩:=List.mem_flatMap.1 hm
 obtain⟨y,hy,rfl⟩:=List.mem_map.1 g
 exact(ha x hx).mul (hb y hy)
theorem OO {s t:Int→Int} {n:Int} (h:Ren s t n) (hn:n≤200) {a b:List aj} (ha:RP n a) (hb:RP n b):lH (aQ s a) (aQ s b)=((lH a b).1,aQ s (lH a b).2):=by
 unfold lH
 rw [bN (ha.ok h),bN (hb.ok h),bN ha.1,bN hb.1]
 show jZ _=_
 rw [JC (Sy (ha.perm h) (hb.perm h)),WA,OJ h hn (OM ha.2 hb.2)]
 rfl
theorem aaA {s t:Int→Int} {n:Int} (h:Ren s t n) {p:List aj} (hp:∀m∈p,AtN n m.atoms):(p.map (mapM s)).map (mapM t)=p:=by
 rw [List.map_map]
 conv=>rhs;rw [←List.map_id p]
 refine List.map_congr_left fun m hm=> ?_
 show aj.mk m.gq (dJ ((dJ (m.atoms.map s)).map t))=m
 rw [h.bk (hp m hm)]
theorem jU {s t:Int→Int} {n:Int} (h:Ren s t n) {p q:List aj} (hp:RP n p) (hq:RP n q) (e:aQ s p=aQ s q):p=q:=by
 have g:(p.map (mapM s)).Perm (q.map (mapM s)):=(hp.perm h).symm.trans (e▸hq.perm h)
 have:=Vf (g.map (mapM t))
 rwa [aaA h hp.2,aaA h hq.2,vZ hp.1.nf,vZ hq.1.nf]at this
theorem jV (s:Int→Int):aQ s []=[]:=vZ ⟨List.Pairwise.nil,fun m hm=>absurd hm (by simp)⟩
theorem RP.nil (n:Int):RP n []:=⟨bR,fun m hm=>absurd hm (by simp)⟩
theorem WB:dJ []=[]:=H8 List.Pairwise.nil
theorem RP.const (n k:Int):RP n (aP k):=by
 refine⟨bW k,fun m hm=> ?_⟩
 unfold aP at hm
 split at hm
 ·rw [List.mem_singleton]at hm;subst hm;exact⟨List.Pairwise.nil,fun j hj=>absurd hj (by simp)⟩
 ·exact absurd hm (by simp)
theorem wu {s:Int→Int} (k:Int):aQ s (aP k)=aP k:=by
 have e:(aP k).map (mapM s)=aP k:=by
  unfold aP
  split
  ·show [aj.mk k (dJ [])]=_;rw [WB]
  ·rfl
 unfold aQ;rw [e,vZ (bW k).nf]
theorem RP.atom {n j:Int} (h1:0≤j) (h2:j<n):RP n (dB j):=by
 refine⟨kR j,fun m hm=> ?_⟩
 unfold dB at hm
 split at hm
 ·rw [List.mem_singleton]at hm;subst hm;exact⟨List.pairwise_singleton _ _,fun i hi=>by rw [List.mem_singleton]at hi;subst hi;exact⟨h1,h2⟩⟩
 ·exact absurd hm (by simp)
theorem aaB {s t:Int→Int} {n:Int} (h:Ren s t n) (hn:n≤200) {j:Int} (h1:0≤j) (h2:j<n):aQ s (dB j)=dB (s j):=by
 have r:=h.rng j h1 h2
 have e:(dB j).map (mapM s)=dB (s j):=by
  unfold dB
  rw [if_pos (by omega),if_pos (by omega)]
  show [aj.mk 1 (dJ [s j])]=_;rw [H8 (List.pairwise_singleton _ _)]
 unfold aQ;rw [e,vZ (kR _).nf]
theorem acO {s t:Int→Int} {n:Int} (h:Ren s t n) {p:List aj} (hp:RP n p):(aQ s p).length=p.length:=by rw [(hp.perm h).length_eq,List.length_map]
theorem acP {s t:Int→Int} {n:Int} (h:Ren s t n) {m:aj} (hp:RP n [m]):aQ s [m]=[mapM s m]:=List.perm_singleton.1 (hp.perm h)
theorem zJ {s t:Int→Int} {n:Int} (h:Ren s t n) {p:List aj} (hp:RP n p):dL (aQ s p)=dL p:=by
 have l:=acO h hp
 unfold dL
 rw [bN (hp.ok h),bN hp.1,l]
 match p,hp,l with
 | [],_,_=>rfl
 | [m],hp,_=>
  rw [acP h hp]
  have e:(mapM s m).atoms.length=m.atoms.length:=by show(dJ _).length=_;rw [vY,List.length_map]
  have e2:(mapM s m).gq=m.gq:=rfl
  have z:((mapM s m).atoms=[])↔(m.atoms=[]):=by rw [←List.length_eq_zero_iff,e,List.length_eq_zero_iff]
  simp [e2,z]
 | a::b::r,_,_=>simp
theorem RP.sum {n:Int} {l:List aj} (hl:∀m∈l,AtN n m.atoms):RP n (jZ l).2:=by
 unfold jZ
 by_cases c:aO (nf l)
 ·rw [bN c];exact⟨c,aay hl⟩
 ·rw [gU c];exact RP.nil n
theorem RP.add {n:Int} {a b:List aj} (ha:RP n a) (hb:RP n b):RP n (nU a b).2:=by
 unfold nU
 rw [bN ha.1,bN hb.1]
 exact RP.sum fun m hm=>by
  rcases List.mem_append.1 hm with g | g
  ·exact ha.2 m g
  ·exact hb.2 m g
theorem RP.mul {n:Int} {a b:List aj} (ha:RP n a) (hb:RP n b):RP n (lH a b).2:=by
 unfold lH
 rw [bN ha.1,bN hb.1]
 exact RP.sum (OM ha.2 hb.2)
theorem RP.scale {n:Int} {a:List aj} (ha:RP n a) (k:Int):RP n (iM a k):=by
 unfold iM
 split
 ·exact ha.mul (RP.const n k)
 ·exact RP.nil n
theorem Sz {s t:Int→Int} {n:Int} (h:Ren s t n) (hn:n≤200) {a:List aj} (ha:RP n a) (k:Int):iM (aQ s a) k=aQ s (iM a k):=by
 unfold iM
 rw [bN (ha.ok h),bN ha.1]
 by_cases c:inB k 0 65535=true
 ·rw [c]
  show(lH (aQ s a) (aP k)).2=aQ s (lH a (aP k)).2
  rw [←wu (s:=s) k,OO h hn ha (RP.const n k),wu]
 ·rw [Bool.not_eq_true]at c;rw [c];exact(jV s).symm
theorem Ia {s t:Int→Int} {n:Int} (h:Ren s t n) {x y:List aj} (hx:RP n x) (hy:RP n y):dP (aQ s x) (aQ s y)=0↔dP x y=0:=by
 rw [gT,gT]
 exact⟨fun e=>jU h hx hy e,fun e=>by rw [e]⟩
theorem aaC {s t:Int→Int} {n:Int} (h:Ren s t n) {x y:List aj} (hx:RP n x) (hy:RP n y) (op:Int):Cy op (aQ s x) (aQ s y)=(aQ s (Cy op x y).1,(Cy op x y).2):=by
 unfold Cy
 rw [zJ h hx,zJ h hy]
 simp only [Ia h hx hy]
 repeat' split
 all_goals simp only [wu,jV]
theorem RP.bit {n:Int} {x y:List aj} (hx:RP n x) (hy:RP n y) (op:Int):RP n (Cy op x y).1:=by
 unfold Cy
 repeat' split
 all_goals first | exact hx | exact hy | exact RP.nil n | exact RP.const n _
theorem WE {s t:Int→Int} {n:Int} (h:Ren s t n) (hn:n≤200) {x y:List aj} (hx:RP n x) (hy:RP n y) (op:Int):fQ op (aQ s x) (aQ s y)=(aQ s (fQ op x y).1,(fQ op x y).2):=by
 unfold fQ
 split; · rw [OL h hn hx hy]
 split; · rw [Sz h hn hy,OL h hn hx (hy.scale _)]
 split; · rw [OO h hn hx hy]
 exact aaC h hx hy op
theorem RP.simp {n:Int} {x y:List aj} (hx:RP n x) (hy:RP n y) (op:Int):RP n (fQ op x y).1:=by
 unfold fQ
 split; · exact hx.add hy
 split; · exact hx.add (hy.scale _)
 split; · exact hx.mul hy
 exact hx.bit hy op
end Go.TX.F
namespace Go.TX.F
open Go Go.AE Go.TX
theorem Ba {n:Int} {p:List aj}:RP n p↔aO p∧bg p n:=by
 constructor
 ·rintro⟨h1,h2⟩;exact⟨h1,bO.2 fun m hm k hk=>((h2 m hm).2 k hk).2⟩
 ·rintro⟨h1,h2⟩
  refine⟨h1,fun m hm=>⟨(h1.aok hm).2.1,fun k hk=>⟨((h1.aok hm).2.2 k hk).1,bO.1 h2 m hm k hk⟩⟩⟩
theorem iU {s s':Int→Int} {n:Int} (e:∀j,0≤j→j<n→s' j=s j) {p:List aj} (hp:RP n p):aQ s' p=aQ s p:=by
 unfold aQ
 congr 1
 refine List.map_congr_left fun m hm=> ?_
 unfold mapM
 congr 2
 exact List.map_congr_left fun k hk=>e k ((hp.2 m hm).2 k hk).1 ((hp.2 m hm).2 k hk).2
theorem RP.le {n m:Int} {p:List aj} (h:RP n p) (hn:n≤m):RP m p:=⟨h.1,fun a ha=>⟨(h.2 a ha).1,fun k hk=>by have:=(h.2 a ha).2 k hk;omega⟩⟩
noncomputable def zK (s:Int→Int) (a:Atom):Atom:=
 if a.kind=4∧a.k≠2∧0<dP (aQ s a.x) (aQ s a.y)then⟨a.kind,a.k,aQ s a.y,aQ s a.x⟩else⟨a.kind,a.k,aQ s a.x,aQ s a.y⟩
def OP (a:Atom):Prop:=a.kind=4→a.k≠2→dP a.x a.y≤0
theorem aaD {s t:Int→Int} {n:Int} (h:Ren s t n) {a b:Atom} (ax:RP n a.x) (ay:RP n a.y) (bx:RP n b.x) (by_:RP n b.y) (oa:OP a) (ob:OP b) (e:zK s a=zK s b):a=b:=by
 have key:a.kind=b.kind→a.k=b.k→(a.kind=4∧a.k≠2)→aQ s a.x=aQ s b.y→aQ s a.y=aQ s b.x→a=b:=fun e1 e2 c e3 e4=>by
  have e3:=jU h ax by_ e3
  have e4:=jU h ay bx e4
  have o1:=oa c.1 c.2
  have o2:=ob (e1▸c.1) (e2▸c.2)
  rw [←e3,←e4,mJ]at o2
  have:a.x=a.y:=gT.1 (by omega)
  cases a;cases b;dsimp only at*;subst e1;subst e2;subst e3;subst e4;subst this;rfl
 have same:a.kind=b.kind→a.k=b.k→aQ s a.x=aQ s b.x→aQ s a.y=aQ s b.y→a=b:=fun e1 e2 e3 e4=>by
  have e3:=jU h ax bx e3
  have e4:=jU h ay by_ e4
  cases a;cases b;dsimp only at*;subst e1;subst e2;subst e3;subst e4;rfl
 unfold zK at e
 by_cases c:a.kind=4∧a.k≠2∧0<dP (aQ s a.x) (aQ s a.y)
 ·rw [if_pos c]at e
  by_cases d:b.kind=4∧b.k≠2∧0<dP (aQ s b.x) (aQ s b.y)
  ·rw [if_pos d]at e;injection e with e1 e2 e3 e4;exact same e1 e2 e4 e3
  ·rw [if_neg d]at e;injection e with e1 e2 e3 e4;exact key e1 e2 ⟨c.1,c.2.1⟩ e4 e3
 ·rw [if_neg c]at e
  by_cases d:b.kind=4∧b.k≠2∧0<dP (aQ s b.x) (aQ s b.y)
  ·rw [if_pos d]at e;injection e with e1 e2 e3 e4;exact key e1 e2 ⟨e1▸d.1,e2▸d.2.1⟩ e3 e4
  ·rw [if_neg d]at e;injection e with e1 e2 e3 e4;exact same e1 e2 e3 e4
theorem Ib {s s':Int→Int} {n:Int} (e:∀j,0≤j→j<n→s' j=s j) {a:Atom} (ax:RP n a.x) (ay:RP n a.y):zK s' a=zK s a:=by
 unfold zK;rw [iU e ax,iU e ay]
theorem OQ {a:Atom} {n:Int} (h:gV a n):RP n a.x∧RP n a.y:=by
 unfold gV at h
 split at h
 ·exact⟨Ba.2 ⟨h.2.1,h.2.2.2.1⟩,Ba.2 ⟨h.2.2.1,h.2.2.2.2⟩⟩
 ·rw [h.1.1,h.1.2];exact⟨RP.nil n,RP.nil n⟩
theorem Vg {α:Type} [Inhabited α] (l:List α) (a:α) (i:Int) (h:0≤i):((l++ [a]).getD (i).toNat default)=if i=l.length then a else((l).getD (i).toNat default):=by
 by_cases c:i=l.length
 ·rw [if_pos c,c,List.getD_eq_getElem?_getD];simp
 ·rw [if_neg c,List.getD_eq_getElem?_getD,List.getD_eq_getElem?_getD]
  by_cases d:i.toNat<l.length
  ·rw [List.getElem?_append_left d]
  ·rw [List.getElem?_eq_none (by rw [List.length_append,List.length_singleton];omega),List.getElem?_eq_none (by omega)]
structure TR (s t:Int→Int) (u T:List Atom):Prop where
 r:Ren s t u.length
 tok:aG u
 im:∀i:Int,0≤i→i<u.length→s i<T.length∧((T).getD (s i).toNat default)=zK s ((u).getD (i).toNat default)
 ord:∀i:Int,0≤i→i<u.length→OP ((u).getD (i).toNat default)
theorem TR.rp {s t:Int→Int} {u T:List Atom} (h:TR s t u T) {i:Int} (h1:0≤i) (h2:i<u.length):RP i ((u).getD (i).toNat default).x∧RP i ((u).getD (i).toNat default).y:=OQ ((jI.1 h.tok).1 i h1 h2).1
theorem TR.snoc {s t:Int→Int} {u T:List Atom} (h:TR s t u T) (hT:aG T) {a:Atom} (hu:aG (u++ [a])) (hn:∀i:Int,0≤i→i<u.length→((u).getD (i).toNat default)≠a) (ha:gV a u.length) (oa:OP a) {k:Int} (k0:0≤k) (k1:k<T.length) (k2:((T).getD (k).toNat default)=zK s a):
  ∃s' t':Int→Int,TR s' t' (u++ [a]) T∧(∀j:Int,0≤j→j<u.length→s' j=s j)∧s' u.length=k:=by
 have hT2:=(jI.1 hT).2
 obtain⟨ax,ay⟩:=OQ ha
 have ag:∀j:Int,0≤j→j< (u.length:Int)→(fun j:Int=>if j=u.length then k else s j) j=s j:=fun j h1 h2=>if_neg (by omega)
 have nk:∀j:Int,0≤j→j< (u.length:Int)→s j≠k:=fun j h1 h2 e=>by
  have g:=(h.im j h1 h2).2
  rw [e,k2]at g
  have:=h.rp h1 h2
  exact hn j h1 h2 (aaD h.r (this.1.le (by omega)) (this.2.le (by omega)) ax ay (h.ord j h1 h2) oa g.symm)
 have ln:((u++ [a]).length:Int)=u.length+1:=by rw [List.length_append,List.length_singleton];omega
 refine⟨fun j:Int=>if j=u.length then k else s j,fun v:Int=>if v=k then u.length else t v,⟨⟨fun j h1 h2=> ?_,fun j h1 h2=> ?_⟩,hu,fun j h1 h2=> ?_,fun j h1 h2=> ?_⟩,ag,if_pos rfl⟩
 ·split
  ·omega
  ·exact h.r.rng j h1 (by omega)
 ·by_cases c:j=u.length
  ·rw [if_pos c,if_pos rfl,c]
  ·rw [if_neg c,if_neg (nk j h1 (by omega))];exact h.r.back j h1 (by omega)
 ·rw [Vg _ _ _ h1]
  by_cases c:j=u.length
  ·rw [if_pos c,if_pos c,Ib (s:=s) ag ax ay];exact⟨k1,k2⟩
  ·rw [if_neg c,if_neg c]
   have:=h.rp h1 (show j<u.length by omega)
   rw [Ib (s:=s) ag (this.1.le (by omega)) (this.2.le (by omega))]
   exact h.im j h1 (by omega)
 ·rw [Vg _ _ _ h1]
  split
  ·exact oa
  ·exact h.ord j h1 (by omega)
theorem acQ {T:List Atom} (hT:aG T) {i j:Int} (i0:0≤i) (i1:i<T.length) (j0:0≤j) (j1:j<T.length) (e:((T).getD (i).toNat default)=((T).getD (j).toNat default)):i=j:=by
 have h:=(jI.1 hT).1
 rcases Int.lt_trichotomy i j with c | c | c
 ·exact absurd e.symm ((h j j0 j1).2 i i0 c)
 ·exact c
 ·exact absurd e ((h i i0 i1).2 j j0 c)
structure arJ (s:Int→Int) (s' t':Int→Int) (u u' T:List Atom) (r k:Int):Prop where
 tr:TR s' t' u' T
 ag:∀j:Int,0≤j→j<u.length→s' j=s j
 r0:0≤r
 r1:r<u'.length
 sr:s' r=k
 le:u.length≤u'.length
theorem TR.put {s t:Int→Int} {u T:List Atom} (h:TR s t u T) (hT:aG T) {a:Atom} (ha:gV a u.length) (oa:OP a) (hl:u.length<200) {k:Int} (k0:0≤k) (k1:k<T.length) (k2:((T).getD (k).toNat default)=zK s a):
  ∃s' t':Int→Int,arJ s s' t' u (bf u a).1 T (bf u a).2 k:=by
 have ok:=zB (a:=a) h.tok hl
 rcases kQ u a with⟨f1,f2⟩ | ⟨f1,f2,f3,_⟩
 ·have e:bf u a=(u++ [a],(u.length:Int)):=by
   unfold bf
   rw [if_neg (by omega),if_neg]
   rintro(g | g)
   ·exact g ha
   ·omega
  rw [e]at ok ⊢
  obtain⟨s',t',g1,g2,g3⟩:=h.snoc hT ok.1 (fun i i0 i1 g=>f2 i i0 i1 g.symm) ha oa k0 k1 k2
  exact⟨s',t',g1,g2,by dsimp only;omega,by dsimp only;rw [List.length_append,List.length_singleton];omega,g3,by dsimp only;rw [List.length_append];omega⟩
 ·have e:bf u a=(u,sD u a):=by unfold bf;rw [if_pos f1]
  rw [e]
  have g:=h.im _ f1 f2
  refine⟨s,t,h,fun _ _ _=>rfl,f1,f2,?_,Nat.le_refl _⟩
  have f3:a=((u).getD (sD u a).toNat default):=f3
  refine acQ hT (h.r.rng _ f1 f2).1 g.1 k0 k1 ?_
  rw [g.2,←f3,k2]
noncomputable def atD (op:Int) (x y:List aj):Atom:=if op≠2∧0<dP x y then⟨4,op,y,x⟩else⟨4,op,x,y⟩
theorem KT (t:List Atom) (op:Int) (x y:List aj):tDo t op x y=if(fQ op x y).2 then(t,(fQ op x y).1)else if(bf t (atD op x y)).2<0 then([],[])else((bf t (atD op x y)).1,dB (bf t (atD op x y)).2):=by
 unfold tDo atD
 split
 ·rfl
 ·split<;>rfl
theorem acR (op:Int) (x y:List aj):OP (atD op x y):=by
 unfold atD OP
 split
 ·rename_i c;intro _ _;dsimp only;rw [mJ];omega
 ·rename_i c;intro _ g;dsimp only at g ⊢;by_cases d:0<dP x y
  ·exact absurd ⟨g,d⟩ c
  ·omega
theorem acS {s t:Int→Int} {n:Int} (h:Ren s t n) {x y:List aj} (hx:RP n x) (hy:RP n y) (op:Int):zK s (atD op x y)=atD op (aQ s x) (aQ s y):=by
 have z:=Ia h hx hy
 have f:=mJ (aQ s x) (aQ s y)
 have eq:dP (aQ s x) (aQ s y)=0→aQ s x=aQ s y:=gT.1
 unfold atD zK
 by_cases c:op≠2∧0<dP x y
 ·rw [if_pos c]
  dsimp only
  by_cases d:0<dP (aQ s x) (aQ s y)
  ·rw [if_neg (by omega),if_pos ⟨c.1,d⟩]
  ·rw [if_pos ⟨rfl,c.1,by omega⟩,if_neg (by omega)]
 ·rw [if_neg c]
  dsimp only
  by_cases d:op≠2∧0<dP (aQ s x) (aQ s y)
  ·rw [if_pos ⟨rfl,d.1,d.2⟩,if_pos d]
  ·rw [if_neg (by omega),if_neg d]
end Go.TX.F
namespace Go.TX.F
open Go Go.AE Go.TX
noncomputable def KU (s:Int→Int) (e:Ev):Ev:=⟨e.kind,e.at_,aQ s e.x,aQ s e.y,e.regs.map (aQ s)⟩
def RPs (n:Int) (l:List (List aj)):Prop:=∀p∈l,RP n p
def RPE (n:Int) (l:List Ev):Prop:=∀e∈l,RP n e.x∧RP n e.y∧RPs n e.regs
theorem RPs.le {n m:Int} {l:List (List aj)} (h:RPs n l) (hn:n≤m):RPs m l:=fun p hp=>(h p hp).le hn
theorem RPE.le {n m:Int} {l:List Ev} (h:RPE n l) (hn:n≤m):RPE m l:=fun e he=>⟨(h e he).1.le hn,(h e he).2.1.le hn,(h e he).2.2.le hn⟩
theorem nN {s s':Int→Int} {n:Int} (e:∀j,0≤j→j<n→s' j=s j) {l:List (List aj)} (h:RPs n l):l.map (aQ s')=l.map (aQ s):=List.map_congr_left fun p hp=>iU e (h p hp)
theorem Ch {s s':Int→Int} {n:Int} (e:∀j,0≤j→j<n→s' j=s j) {l:List Ev} (h:RPE n l):l.map (KU s')=l.map (KU s):=List.map_congr_left fun v hv=>by
 unfold KU;rw [iU e (h v hv).1,iU e (h v hv).2.1,nN e (h v hv).2.2]
theorem Ic (s:Int→Int) (l:List (List aj)) (i:Int):((l.map (aQ s)).getD (i).toNat default)=aQ s ((l).getD (i).toNat default):=by
 rw [List.getD_eq_getElem?_getD,List.getD_eq_getElem?_getD,List.getElem?_map]
 cases l[i.toNat]? with
 | none=>exact(jV s).symm
 | some p=>rfl
theorem RPs.at {n:Int} {l:List (List aj)} (h:RPs n l) (i:Int):RP n ((l).getD (i).toNat default):=Ba.2 (AX (fun p hp=>Ba.1 (h p hp)) i)
theorem acT {op n:Int} {x y:List aj} (hop:1≤op∧op≤5) (hx:RP n x) (hy:RP n y):gV (atD op x y) n:=by
 have hx:=Ba.1 hx
 have hy:=Ba.1 hy
 unfold atD
 split
 ·unfold gV;rw [if_pos rfl];exact⟨hop,hy.1,hx.1,hy.2,hx.2⟩
 ·unfold gV;rw [if_pos rfl];exact⟨hop,hx.1,hy.1,hx.2,hy.2⟩
theorem aiW {t:List Atom} {op:Int} {x y:List aj} (h:tOk t op x y=true) (c:¬(fQ op x y).2=true):0≤(bf t (atD op x y)).2:=by
 unfold tOk at h
 unfold atD
 by_cases c2:op≠2∧0<dP x y
 ·rw [if_pos c2,Bool.or_eq_true,Bool.not_eq_true',decide_eq_false_iff_not]at h;rw [if_pos c2];have:=h.resolve_left c;omega
 ·rw [if_neg c2,Bool.or_eq_true,Bool.not_eq_true',decide_eq_false_iff_not]at h;rw [if_neg c2];have:=h.resolve_left c;omega
structure St1 (s s' t':Int→Int) (u u' T:List Atom) (v V:List aj):Prop where
 tr:TR s' t' u' T
 ag:∀j:Int,0≤j→j<u.length→s' j=s j
 eq:V=aQ s' v
 rp:RP u'.length v
theorem TR.n200 {s t:Int→Int} {u T:List Atom} (h:TR s t u T):(u.length:Int)≤200:=by have:=(jI.1 h.tok).2;omega
theorem TR.aiX {s t:Int→Int} {u T:List Atom} (h:TR s t u T) (hT:aG T) {a A:Atom} (ha:gV a u.length) (oa:OP a) (hl:u.length<200) (k0:0≤(bf T A).2) (hc:(bf T A).1=T) (e:A=zK s a):
  ∃s' t':Int→Int,St1 s s' t' u (bf u a).1 T (dB (bf u a).2) (dB (bf T A).2)∧0≤(bf u a).2:=by
 obtain⟨k1,k2⟩:=rJ k0
 rw [hc]at k1 k2
 obtain⟨s',t',P⟩:=h.put hT ha oa hl k0 k1 (by rw [k2,e])
 exact⟨s',t',⟨P.tr,P.ag,by rw [aaB P.tr.r P.tr.n200 P.r0 P.r1,P.sr],RP.atom P.r0 P.r1⟩,P.r0⟩
theorem TR.do1 {s t:Int→Int} {u T:List Atom} (h:TR s t u T) (hT:aG T) {op:Int} {x y:List aj} (hop:1≤op∧op≤5) (hx:RP u.length x) (hy:RP u.length y) (hl:u.length<200) (ok:tOk T op (aQ s x) (aQ s y)=true) (hc:(tDo T op (aQ s x) (aQ s y)).1=T):
  ∃s' t':Int→Int,St1 s s' t' u (tDo u op x y).1 T (tDo u op x y).2 (tDo T op (aQ s x) (aQ s y)).2:=by
 have e:=WE h.r h.n200 hx hy op
 by_cases c:(fQ op x y).2=true
 ·have e1:tDo u op x y=(u,(fQ op x y).1):=by rw [KT,if_pos c]
  have e2:tDo T op (aQ s x) (aQ s y)=(T,aQ s (fQ op x y).1):=by rw [KT,e,if_pos c]
  rw [e1,e2]
  exact⟨s,t,h,fun _ _ _=>rfl,rfl,hx.simp hy op⟩
 ·have k0:=aiW ok (by rw [e];exact c)
  have e2:tDo T op (aQ s x) (aQ s y)=((bf T (atD op (aQ s x) (aQ s y))).1,dB (bf T (atD op (aQ s x) (aQ s y))).2):=by rw [KT,e,if_neg c,if_neg (by omega)]
  rw [e2]at hc ⊢
  obtain⟨s',t',P,r0⟩:=h.aiX hT (acT hop hx hy) (acR op x y) hl k0 hc (acS h.r hx hy op).symm
  have e1:tDo u op x y=((bf u (atD op x y)).1,dB (bf u (atD op x y)).2):=by rw [KT,if_neg c,if_neg (by omega)]
  rw [e1]
  exact⟨s',t',P⟩
theorem Ie (s:Int→Int) {a:Atom} (h:a.kind≠4) (hx:a.x=[]) (hy:a.y=[]):zK s a=a:=by
 unfold zK;rw [if_neg (fun g=>h g.1),hx,hy,jV];cases a;dsimp only at*;rw [hx,hy]
structure LS (s t:Int→Int) (a A:SS):Prop where
 tr:TR s t a.t A.t
 regs:A.regs=a.regs.map (aQ s)
 rr:RPs a.t.length a.regs
 vals:A.vals=a.vals.map (aQ s)
 rv:RPs a.t.length a.vals
 ld:A.ld=a.ld
 inn:A.inn=a.inn
 evs:A.evs=a.evs.map (KU s)
 re:RPE a.t.length a.evs
theorem LS.x {s t:Int→Int} {a A:SS} (h:LS s t a A) (o:IOp):xOf A o=aQ s (xOf a o)∧RP a.t.length (xOf a o):=by
 unfold xOf;split
 ·rw [h.vals,Ic];exact⟨rfl,h.rv.at _⟩
 ·exact⟨(jV s).symm,RP.nil _⟩
theorem LS.y {s t:Int→Int} {a A:SS} (h:LS s t a A) (o:IOp):yOf A o=aQ s (yOf a o)∧RP a.t.length (yOf a o):=by
 unfold yOf;split
 ·rw [h.vals,Ic];exact⟨rfl,h.rv.at _⟩
 ·exact⟨(jV s).symm,RP.nil _⟩
theorem LS.val {s t:Int→Int} {a A:SS} (h:LS s t a A) (hT:aG A.t) {n:Int} {i:Nat} (si:SI n i a) (hn:n+i<200) (hi:i<200) {o:IOp} (hk:o.kind=3→1≤o.k∧o.k≤5) (sA:SOK A o) (hc:nT A o=A.t):
  ∃s' t':Int→Int,St1 s s' t' a.t (nT a o) A.t (nV a o) (nV A o):=by
 have hl:=si.tl
 have hl:a.t.length<200:=by omega
 have ea:aOf A o=aOf a o:=by unfold aOf;rw [h.ld,h.inn]
 have id:∀v V,V=aQ s v→RP a.t.length v→nT a o=a.t→nV a o=v→nV A o=V→∃s' t':Int→Int,St1 s s' t' a.t (nT a o) A.t (nV a o) (nV A o):=fun v V e r e1 e2 e3=>by
  rw [e1,e2,e3];exact⟨s,t,h.tr,fun _ _ _=>rfl,e,r⟩
 by_cases c3:o.kind=3
 ·have e1:∀w:SS,nT w o=(tDo w.t o.k (xOf w o) (yOf w o)).1:=fun w=>by unfold nT;rw [if_pos c3]
  have e2:∀w:SS,nV w o=(tDo w.t o.k (xOf w o) (yOf w o)).2:=fun w=>by unfold nV;rw [if_neg (by omega),if_neg (by omega),if_pos c3]
  have ok:=(sA.d c3).ok
  rw [e1]at hc
  rw [(h.x o).1,(h.y o).1]at ok hc
  rw [e1,e2,e2,(h.x o).1,(h.y o).1]
  exact h.tr.do1 hT (hk c3) (h.x o).2 (h.y o).2 hl ok hc
 ·by_cases c4:o.kind=4∨o.kind=6
  ·have e1:∀w:SS,nT w o=(bf w.t (aOf w o)).1:=fun w=>by unfold nT;rw [if_neg c3,if_pos c4]
   have e2:∀w:SS,nV w o=dB (bf w.t (aOf w o)).2:=fun w=>by unfold nV;rw [if_neg (by omega),if_neg (by omega),if_neg c3,if_pos c4]
   have k0:=sA.p c4
   rw [e1]at hc
   have f1:(aOf a o).kind≠4∧(aOf a o).x=[]∧(aOf a o).y=[]:=by unfold aOf;split<;>exact⟨by dsimp only;decide,rfl,rfl⟩
   obtain⟨s',t',P,_⟩:=h.tr.aiX hT (U3 si hi o _) (fun g=>absurd g f1.1) hl k0 hc (by rw [ea,Ie s f1.1 f1.2.1 f1.2.2])
   rw [e1,e2,e2]
   exact⟨s',t',P⟩
  ·have eT:nT a o=a.t:=by unfold nT;rw [if_neg c3,if_neg c4]
   by_cases c1:o.kind=1
   ·exact id _ _ (wu o.k).symm (RP.const _ _) eT (by unfold nV;rw [if_pos c1]) (by unfold nV;rw [if_pos c1])
   ·by_cases c2:o.kind=2
    ·exact id _ _ rfl (h.rr.at o.k) eT (by unfold nV;rw [if_neg c1,if_pos c2]) (by unfold nV;rw [if_neg c1,if_pos c2,h.regs,Ic])
    ·exact id _ _ (jV s).symm (RP.nil _) eT (by unfold nV;rw [if_neg c1,if_neg c2,if_neg c3,if_neg c4]) (by unfold nV;rw [if_neg c1,if_neg c2,if_neg c3,if_neg c4])
theorem LS.step {s t:Int→Int} {a A:SS} (h:LS s t a A) (hT:aG A.t) {n:Int} {i:Nat} (si:SI n i a) (hn:n+i<200) (hi:i<200) {o:IOp} (hk:o.kind=3→1≤o.k∧o.k≤5) (sA:SOK A o) (hc:(stp A o).t=A.t):
  ∃s' t':Int→Int,LS s' t' (stp a o) (stp A o)∧∀j:Int,0≤j→j<a.t.length→s' j=s j:=by
 have hc:nT A o=A.t:=hc
 obtain⟨s',t',P⟩:=h.val hT si hn hi hk sA hc
 have le:(a.t.length:Int)≤(nT a o).length:=by have:=jd (yD si hk hn hi).2.pre;exact Int.ofNat_le.2 this
 have ag:=P.ag
 obtain⟨x1,x2⟩:=h.x o
 obtain⟨y1,y2⟩:=h.y o
 have x1':xOf A o=aQ s' (xOf a o):=by rw [x1,iU ag x2]
 have y1':yOf A o=aQ s' (yOf a o):=by rw [y1,iU ag y2]
 have r1':A.regs=a.regs.map (aQ s'):=by rw [h.regs,nN ag h.rr]
 refine⟨s',t',⟨?_,?_,?_,?_,?_,?_,?_,?_,?_⟩,ag⟩
 ·show TR s' t' (nT a o) (nT A o);rw [hc];exact P.tr
 ·show nR A o=(nR a o).map (aQ s')
  unfold nR;split
  ·rw [List.map_set,←r1',x1']
  ·exact r1'
 ·show RPs _ (nR a o)
  unfold nR;split
  ·intro p hp
   rcases List.mem_or_eq_of_mem_set hp with hp | rfl
   ·exact(h.rr p hp).le le
   ·exact x2.le le
  ·exact h.rr.le le
 ·show A.vals++ [nV A o]=(a.vals++ [nV a o]).map (aQ s')
  rw [List.map_append,h.vals,nN ag h.rv,P.eq];rfl
 ·show RPs _ (a.vals++ [nV a o])
  intro p hp
  rw [List.mem_append,List.mem_singleton]at hp
  rcases hp with hp | rfl
  ·exact(h.rv p hp).le le
  ·exact P.rp
 ·show(if o.kind=4 then A.ld+1 else A.ld)=if o.kind=4 then a.ld+1 else a.ld;rw [h.ld]
 ·show(if o.kind=6 then A.inn+1 else A.inn)=if o.kind=6 then a.inn+1 else a.inn;rw [h.inn]
 ·show nE A o=(nE a o).map (KU s')
  unfold nE
  have e0:A.evs=a.evs.map (KU s'):=by rw [h.evs,Ch ag h.re]
  split
  ·rw [List.map_append,e0,x1',y1',r1']
   congr 1
   show [_]=[KU s' _]
   unfold KU
   dsimp only
   split<;>rfl
  ·exact e0
 ·show RPE _ (nE a o)
  unfold nE;split
  ·intro e he
   rw [List.mem_append,List.mem_singleton]at he
   rcases he with he | rfl
   ·exact h.re.le le e he
   ·refine⟨x2.le le,y2.le le,?_⟩
    dsimp only
    split
    ·exact h.rr.le le
    ·exact fun p hp=>absurd hp (by simp)
  ·exact h.re.le le
theorem aaE {α:Type} {a b c:List α} (h:a<+:b) (g:b<+:c) (e:c=a):b=a:=by
 subst e;exact g.eq_of_length (Nat.le_antisymm (jd g) (jd h))
theorem LS.run {n N:Int}:∀(ops:List IOp) (i:Nat) (s t:Int→Int) (a A:SS),LS s t a A→SI n i a→SI N i A→(∀o∈ops,o.kind=3→1≤o.k∧o.k≤5)→n+i+ops.length≤200→N+i+ops.length≤200→i+ops.length≤200→(ops.foldl stp A).t=A.t→
  ∃s' t':Int→Int,LS s' t' (ops.foldl stp a) (ops.foldl stp A)∧∀j:Int,0≤j→j<a.t.length→s' j=s j
 | [],_,s,t,_,_,h,_,_,_,_,_,_,_=>⟨s,t,h,fun _ _ _=>rfl⟩
 | o::r,i,s,t,a,A,h,si,SI,hk,h1,h2,h3,hc=>by
  rw [List.length_cons]at h1 h2 h3
  have ko:=hk o List.mem_cons_self
  obtain⟨a1,a2⟩:=yD si ko (by omega) (by omega)
  obtain⟨A1,A2⟩:=yD SI ko (by omega) (by omega)
  have kr:∀o∈r,o.kind=3→1≤o.k∧o.k≤5:=fun o ho=>hk o (List.mem_cons_of_mem _ ho)
  rw [List.foldl_cons]at hc
  obtain⟨_,B2⟩:=yE r (i+1) (stp A o) A1 kr (by omega) (by omega)
  have e1:(stp A o).t=A.t:=aaE A2.pre B2 hc
  obtain⟨s1,t1,g1,g2⟩:=h.step SI.tok si (by omega) (by omega) ko A2 e1
  obtain⟨s2,t2,g3,g4⟩:=LS.run r (i+1) s1 t1 _ _ g1 a1 A1 kr (by omega) (by omega) (by omega) (by rw [hc,e1])
  rw [List.foldl_cons,List.foldl_cons]
  exact⟨s2,t2,g3,fun j j0 j1=>by rw [g4 j j0 (by have:=jd a2.pre;omega),g2 j j0 j1]⟩
theorem SA {s t:Int→Int} {u T:List Atom} (h:TR s t u T) (hT:aG T) (hTl:T.length≤196) (hul:u.length≤196) (hTn:∀n:Nat,n≤4→(rN T n).1=T):∀n:Nat,n≤4→
  ∃s' t':Int→Int,TR s' t' (rN u n).1 T∧(∀j:Int,0≤j→j<u.length→s' j=s j)∧(rN T n).2=(rN u n).2.map (aQ s')∧RPs (rN u n).1.length (rN u n).2
 | 0,_=>⟨s,t,h,fun _ _ _=>rfl,rfl,fun p hp=>absurd hp (by simp [rN])⟩
 | n+1,hn=>by
  obtain⟨s1,t1,g1,g2,g3,g4⟩:=SA h hT hTl hul hTn n (by omega)
  have ok:=Ca h.tok hul n (by omega)
  have l:=ok.tl
  have pl:=jd ok.pre
  have k0:=HZ hT hTl (n:=n) (by omega)
  have hc:(bf (rN T n).1 ⟨1,n,[],[]⟩).1=T:=hTn (n+1) hn
  rw [hTn n (by omega)]at k0 hc
  obtain⟨s2,t2,P,_⟩:=g1.aiX hT (a:=⟨1,n,[],[]⟩) (by unfold gV;rw [if_neg (by simp)];exact⟨⟨rfl,rfl⟩,Or.inl ⟨rfl,by dsimp only;omega,by dsimp only;omega⟩⟩) (fun g=>absurd g (by dsimp only;decide)) (by omega) k0 hc (Ie s1 (a:=⟨1,n,[],[]⟩) (by dsimp only;decide) rfl rfl).symm
  have le:(((rN u n).1.length:Nat):Int)≤(rN u (n+1)).1.length:=Int.ofNat_le.2 (jd (nL (rN u n).1 ⟨1,n,[],[]⟩))
  refine⟨s2,t2,P.tr,fun j j0 j1=>by rw [P.ag j j0 (by omega),g2 j j0 j1],?_,?_⟩
  ·show(rN T n).2++ [dB (bf (rN T n).1 ⟨1,n,[],[]⟩).2]=((rN u n).2++ [dB (bf (rN u n).1 ⟨1,n,[],[]⟩).2]).map (aQ s2)
   rw [hTn n (by omega),List.map_append,nN P.ag g4,g3,P.eq];rfl
  ·show RPs _ ((rN u n).2++ [dB (bf (rN u n).1 ⟨1,n,[],[]⟩).2])
   intro p hp
   rw [List.mem_append,List.mem_singleton]at hp
   rcases hp with hp | rfl
   ·exact(g4 p hp).le le
   ·exact P.rp
theorem OT {s t:Int→Int} {u T:List Atom} (h:TR s t u T) (hT:aG T) (hTl:T.length≤148) (hul:u.length≤100) (hTn:∀n:Nat,n≤4→(rN T n).1=T) {b:Blk} (hb:dz b) (hc:(cB T b).t=T):
  ∃s' t':Int→Int,LS s' t' (cB u b) (cB T b)∧∀j:Int,0≤j→j<u.length→s' j=s j:=by
 obtain⟨s1,t1,g1,g2,g3,g4⟩:=SA h hT (by omega) (by omega) hTn 4 (by omega)
 have sz:=hb.sz
 have eT:(s0 T).t=T:=hTn 4 (by omega)
 have L:LS s1 t1 (s0 u) (s0 T):=⟨by rw [eT];exact g1,g3,g4,rfl,fun p hp=>absurd hp (by simp [s0]),rfl,rfl,rfl,fun p hp=>absurd hp (by simp [s0])⟩
 obtain⟨s2,t2,k1,k2⟩:=LS.run b.ops 0 s1 t1 _ _ L (zG h.tok (by omega)) (zG hT (by omega)) hb.k3 (by omega) (by omega) (by omega) (by rw [eT];exact hc)
 exact⟨s2,t2,k1,fun j j0 j1=>by rw [k2 j j0 (by have:=jd (Ca h.tok (show u.length≤196 by omega) 4 (by omega)).pre;show j< ((rN u 4).1.length:Int);omega),g2 j j0 j1]⟩
theorem yG {α β:Type} {f:α→β}:∀ {l l':List α},(∀a∈l,∀b∈l',f a=f b→a=b)→l.map f=l'.map f→l=l'
 | [],[],_,_=>rfl
 | [],_::_,_,e=>by cases e
 | _::_,[],_,e=>by cases e
 | a::l,b::l',h,e=>by
  rw [List.map_cons,List.map_cons]at e
  injection e with e1 e2
  rw [h a List.mem_cons_self b List.mem_cons_self e1,yG (fun a ha b hb=>h a (List.mem_cons_of_mem _ ha) b (List.mem_cons_of_mem _ hb)) e2]
theorem OU {s t:Int→Int} {n:Int} (h:Ren s t n) {l l':List (List aj)} (hl:RPs n l) (hl':RPs n l') (e:l.map (aQ s)=l'.map (aQ s)):l=l':=yG (fun a ha b hb e=>jU h (hl a ha) (hl' b hb) e) e
structure YOK (n:Int) (y:Sym):Prop where
 e:RPE n y.events
 r:RPs n y.regs
 x:RP n y.x
 y:RP n y.y
noncomputable def zL (s:Int→Int) (y:Sym):Sym:=⟨y.events.map (KU s),y.regs.map (aQ s),y.fin,aQ s y.x,aQ s y.y,y.k⟩
theorem zN {s t:Int→Int} {n:Int} (h:Ren s t n) {y z:Sym} (hy:YOK n y) (hz:YOK n z) (e:zL s y=zL s z):y=z:=by
 injection e with e1 e2 e3 e4 e5 e6
 have e1:=yG (fun a ha b hb e=>by
  injection e with f1 f2 f3 f4 f5
  have f3:=jU h (hy.e a ha).1 (hz.e b hb).1 f3
  have f4:=jU h (hy.e a ha).2.1 (hz.e b hb).2.1 f4
  have f5:=OU h (hy.e a ha).2.2 (hz.e b hb).2.2 f5
  exact Ev.ext f1 f2 f3 f4 f5) e1
 exact Sym.ext e1 (OU h hy.r hz.r e2) e3 (jU h hy.x hz.x e4) (jU h hy.y hz.y e5) e6
def swY (y:Sym):Sym:=⟨y.events,y.regs,y.fin,y.y,y.x,y.k⟩
theorem Ig {s t:Int→Int} {n:Int} (h:Ren s t n) {y:Sym} (hy:YOK n y) (b:Int):(symEnd (zL s y) b=zL s (symEnd y b)∨(symEnd y b).fin=3∧symEnd (zL s y) b=zL s (swY (symEnd y b)))∧YOK n (symEnd y b)∧((symEnd y b).fin=3→dP (symEnd y b).x (symEnd y b).y≤0):=by
 obtain⟨ev,rg,fin,x,z,k⟩:=y
 have hx:RP n x:=hy.x
 have hz:RP n z:=hy.y
 have e1:=zJ h hx
 have e2:=zJ h hz
 have e3:aQ s x=aQ s z↔x=z:=⟨jU h hx hz,congrArg _⟩
 have N:=RP.nil n
 have f1:=mJ z x
 have z1:=Ia h hx hz
 have f2:=mJ (aQ s z) (aQ s x)
 unfold symEnd zL
 dsimp only
 rw [bN ⟨hx.ok h,hz.ok h⟩,bN ⟨hx.1,hz.1⟩,e1,e2]
 simp only [e3]
 rw [if_neg (show¬(true=false) by decide),if_neg (show¬(true=false) by decide)]
 by_cases c1:fin=2∧(dL x).2=true
 ·rw [if_pos c1,if_pos c1]
  exact⟨Or.inl (by rw [jV]),⟨hy.e,hy.r,N,N⟩,fun g=>absurd g (by dsimp only;decide)⟩
 ·rw [if_neg c1,if_neg c1]
  by_cases c2:fin≠3∧fin≠4
  ·rw [if_pos c2,if_pos c2]
   exact⟨Or.inl rfl,hy,fun g=>absurd g c2.1⟩
  ·rw [if_neg c2,if_neg c2]
   by_cases c3:x=z∨(dL x).2=true∧(dL z).2=true
   ·rw [if_pos c3,if_pos c3]
    exact⟨Or.inl (by rw [jV]),⟨hy.e,hy.r,N,N⟩,fun g=>absurd g (by dsimp only;decide)⟩
   ·rw [if_neg c3,if_neg c3]
    by_cases c4:fin=3∧0<dP x z
    ·rw [if_pos c4]
     refine⟨?_,⟨hy.e,hy.r,hz,hx⟩,fun _=>by dsimp only;omega⟩
     by_cases c5:fin=3∧0<dP (aQ s x) (aQ s z)
     ·rw [if_pos c5];exact Or.inl rfl
     ·rw [if_neg c5];exact Or.inr ⟨c4.1,rfl⟩
    ·rw [if_neg c4]
     refine⟨?_,hy,fun g=>by have:¬0<dP x z:=fun d=>c4 ⟨g,d⟩;dsimp only;omega⟩
     by_cases c5:fin=3∧0<dP (aQ s x) (aQ s z)
     ·rw [if_pos c5];exact Or.inr ⟨c5.1,rfl⟩
     ·rw [if_neg c5];exact Or.inl rfl
theorem SB {s t:Int→Int} {n:Int} (h:Ren s t n) {y z:Sym} (hy:YOK n y) (hz:YOK n z) {b c:Int} (e:symEnd (zL s y) b=symEnd (zL s z) c):symEnd y b=symEnd z c:=by
 obtain⟨d1,o1,p1⟩:=Ig h hy b
 obtain⟨d2,o2,p2⟩:=Ig h hz c
 generalize symEnd y b=F at*
 generalize symEnd z c=G at*
 have key:∀ {F G:Sym},F=swY G→F.fin=3→(F.fin=3→dP F.x F.y≤0)→(G.fin=3→dP G.x G.y≤0)→F=G:=fun {F G} e f p q=>by
  subst e
  have p:dP G.y G.x≤0:=p f
  have q:=q f
  have fl:=mJ G.y G.x
  have:G.x=G.y:=gT.1 (by omega)
  unfold swY
  exact Sym.ext rfl rfl rfl this.symm this rfl
 rcases d1 with d1 | ⟨f1,d1⟩<;>rcases d2 with d2 | ⟨f2,d2⟩<;>rw [d1,d2]at e
 ·exact zN h o1 o2 e
 ·have g:=zN h o1 (z:=swY G) ⟨o2.e,o2.r,o2.y,o2.x⟩ e
  exact key g (by rw [g];exact f2) p1 p2
 ·have g:=zN h (y:=swY F) ⟨o1.e,o1.r,o1.y,o1.x⟩ o2 e
  exact(key g.symm (by rw [←g];exact f1) p2 p1).symm
 ·have g:=zN h (y:=swY F) (z:=swY G) ⟨o1.e,o1.r,o1.y,o1.x⟩ ⟨o2.e,o2.r,o2.y,o2.x⟩ e
  injection g with g1 g2 g3 g4 g5 g6
  exact Sym.ext g1 g2 g3 g5 g4 g6
theorem OV {s t:Int→Int} {a A:SS} (h:LS s t a A) (b:Blk):jo b A=zL s (jo b a)∧YOK a.t.length (jo b a):=by
 unfold jo
 constructor
 ·unfold zL
  dsimp only
  rw [h.evs,h.regs,h.vals,Ic,Ic]
  congr 1
  ·split
   ·exact(jV s).symm
   ·rfl
  ·split
   ·rfl
   ·exact(jV s).symm
 ·refine⟨h.re,h.rr,?_,?_⟩<;>dsimp only<;>split
  ·exact RP.nil _
  ·exact h.rv.at _
  ·exact h.rv.at _
  ·exact RP.nil _
theorem YOK.le {n m:Int} {y:Sym} (h:YOK n y) (hn:n≤m):YOK m y:=⟨h.e.le hn,h.r.le hn,h.x.le hn,h.y.le hn⟩
theorem SE {s s':Int→Int} {n:Int} (e:∀j,0≤j→j<n→s' j=s j) {y:Sym} (h:YOK n y):zL s' y=zL s y:=by
 unfold zL;rw [Ch e h.e,nN e h.r,iU e h.x,iU e h.y]
theorem aaF (t:List Atom) (n:Nat):∀m:Nat,(rN t n).1<+:(rN t (n+m)).1
 | 0=>List.prefix_refl _
 | m+1=>(aaF t n m).trans (nL _ _)
theorem TR.nil (T:List Atom):TR id id [] T:=by
 refine⟨⟨fun k h1 h2=> ?_,fun k h1 h2=> ?_⟩,mK,fun k h1 h2=> ?_,fun k h1 h2=> ?_⟩<;>exact absurd h2 (by simp;omega)
theorem aaG {b c:Blk} (hb:dz b) (hc:dz c) (e:(bC t4 b).2=(bC (bC t4 b).1 c).2):(bC t4 c).2=(bC (bC t4 c).1 b).2:=by
 have h4:=OD
 have szb:=hb.sz
 have szc:=hc.sz
 obtain⟨b1,b2⟩:=rM h4.1 (by omega) hb
 have bl:=b1.tl
 have h5:=h4.2
 obtain⟨c1,c2⟩:=rM b1.tok (by omega) hc
 have cl:=c1.tl
 rw [jq h4.1 (by omega) hb]at e
 dsimp only at e
 rw [jq b1.tok (by omega) hc]at e
 dsimp only at e
 have Eb:=KH h4.1 (by omega) hb c1.tok c2
 have Ec:=KH b1.tok (by omega) hc c1.tok (List.prefix_refl _)
 have T4:t4<+:(cB (cB t4 b).t c).t:=b2.trans c2
 rw [←U4 b _ (cB (cB t4 b).t c).t,←Eb,←U4 c _ (cB (cB t4 b).t c).t,←Ec]at e
 have hTb:(cB (cB (cB t4 b).t c).t b).t=(cB (cB t4 b).t c).t:=by rw [Eb];rfl
 have hTc:(cB (cB (cB t4 b).t c).t c).t=(cB (cB t4 b).t c).t:=by rw [Ec];rfl
 have hT:=c1.tok
 have hTn:∀n:Nat,n≤4→(rN (cB (cB t4 b).t c).t n).1=(cB (cB t4 b).t c).t:=fun n hn=>by
  have p:(rN [] n).1<+:t4:=by
   have:=aaF [] n (4-n)
   rw [show n+(4-n)=4 by omega]at this;exact this
  rw [aag mK (by simp) hT n hn (p.trans T4)]
 have tl:(cB (cB t4 b).t c).t.length≤148:=by omega
 generalize (cB (cB t4 b).t c).t=T at*
 obtain⟨s1,t1,g1,_⟩:=SA (TR.nil T) hT (by omega) (by simp) hTn 4 (by omega)
 have g1:TR s1 t1 t4 T:=g1
 obtain⟨s2,t2,g2,_⟩:=OT g1 hT tl (by omega) hTn hc hTc
 obtain⟨d1,d2⟩:=rM h4.1 (by omega) hc
 have dl:=d1.tl
 have g2t:TR s2 t2 (cB t4 c).t T:=by have:=g2.tr;rw [hTc]at this;exact this
 obtain⟨s3,t3,g3,ag⟩:=OT g2t hT tl (by omega) hTn hb hTb
 obtain⟨f1,f2⟩:=rM d1.tok (by omega) hb
 obtain⟨Y1,Y2⟩:=OV g2 c
 obtain⟨Z1,Z2⟩:=OV g3 b
 rw [Y1,Z1,←SE ag Y2]at e
 have:=SB g3.tr.r Z2 (Y2.le (by have:=jd f2;omega)) e
 rw [jq h4.1 (by omega) hc]
 dsimp only
 rw [jq d1.tok (by omega) hb]
 exact this.symm
theorem aaH (b c:Blk):chk b c=chk c b:=by
 have key:∀ {b c:Blk},chk b c=true→chk c b=true:=fun {b c} h=>by
  obtain⟨h1,h2,h3,h4,h5⟩:=bQ.1 h
  refine bN ⟨h2,h1,h3.symm,h4.symm,?_⟩
  rcases h5 with h5 | h5
  ·exact Or.inl h5.symm
  ·exact Or.inr (aaG h1 h2 h5)
 exact Bool.eq_iff_iff.2 ⟨key,key⟩
end Go.TX.F
namespace Go.TX.F
open Go Go.AE Go.TX
theorem aaI (b:Blk):chk b b=bp (dz b):=by
 by_cases h:dz b
 ·rw [bN h];exact(Lk.refl h).chk
 ·rw [gU h]
  unfold chk;exact gU fun g=>h g.1
theorem ao4 {p1:Blk×Blk×Unit→Bool} {f1:Blk×Blk×Unit→Bool×Unit} (hp1:∀b c,b.ops.length<1000000000→c.ops.length<1000000000→p1 (b,c,())=true) (hf1:∀b c,b.ops.length<1000000000→c.ops.length<1000000000→f1 (b,c,())=(chk b c,())) {p2:Blk×Unit→Bool} {f2:Blk×Unit→Int×Unit} (hp2:∀b,b.ops.length<1000000→p2 (b,())=true) (hf2:∀b,b.ops.length<1000000→f2 (b,())=(((kg b.ops).length:Int),())) {p3:Unit→Bool} {f3:Unit→Bool×Unit} (hp3:p3 ()=true) (hf3:f3 ()=(true,())) {p4:List Int×Unit→Bool} {f4:List Int×Unit→Blk×Blk×Unit} (hp4:∀c,By c→c.length<1000000000→p4 (c,())=true) (hf4:∀c,By c→c.length<1000000000→(f4 (c,())).1.ops.length<100000∧(f4 (c,())).2.1.ops.length<100000) {p5:Blk×Unit→Bool} {f5:Blk×Unit→Bool×Unit} (hp5:∀b,b.ops.length<1000000000→p5 (b,())=true) (hf5:∀b,b.ops.length<1000000000→f5 (b,())=(bp (dz b),())) (c:List Int) (hc:By c):ZF (std 0) p1 f1 p2 f2 p3 f3 p4 f4 p5 f5 (c,()) (fun y=>y=(true,())):=by
 dsimp only [ZF,Alg.cl,Alg.cg,Alg.rb,Alg.bd,Alg.l1,Tup.q,Tup.o]
 simp (disch:=omega) only [RR]
 by_cases hl:1048576< (c.length:Int)
 ·simp (disch:=omega) only [RR,hl]
 ·obtain⟨D1,D2⟩:=hf4 c hc (by omega)
  have P:=hp4 c hc (by omega)
  generalize (f4 (c,())).1=b at D1 ⊢
  generalize (f4 (c,())).2.1=d at D2 ⊢
  simp (disch:=omega) only [RR,hl,P,RB,hp1 b d (by omega) (by omega),hf1 b d (by omega) (by omega),hp1 d b (by omega) (by omega),hf1 d b (by omega) (by omega),hp1 b b (by omega) (by omega),hf1 b b (by omega) (by omega),hp3,hf3,hp5 b (by omega),hf5 b (by omega),hp2 b (by omega),hf2 b (by omega),hp2 d (by omega),hf2 d (by omega),aaH d b,aaI]
  simp only [beq_self_eq_true,Bool.true_eq_false,or_self,false_implies,true_and,and_self,true_implies,Bool.and_true]
  by_cases h:chk b d=true
  ·have l:=congrArg List.length (acE h)
   rw [List.length_map,List.length_map]at l
   obtain⟨_,_,h3,h4,_⟩:=bQ.1 h
   rw [h,l,h3,h4];simp
  ·rw [Bool.not_eq_true]at h;rw [h];rfl
end Go.TX.F
namespace Go.TX
open Go Go.AE
theorem enters_of {P:Program} {f:FuncId} {fn:Func} {c:Code} (hf:P.funcs[f]? =some fn) (hname:(fn.name== "runtime.NumGoroutine")=false) (hb:fn.body=some c):Enters P f:=by
 intro args w
 have h1:fn.name≠ "runtime.NumGoroutine" :=by simpa using hname
 simp [callFunc,hf,h1,hb,mark]
def Vh (P:Program):Nat→List Field→Bool
 | _,[]=>true
 | k,f::fs=> !(f.name== "_")&&f.offset==k&& (match P.underlying f.type with | some (.int _)=>true | _=>false)&&Vh P (k+1) fs
theorem Vi {P:Program} (w:World) (d:Nat) (xs ys:List Int) (hl:xs.length=ys.length):∀(fs:List Field) (k:Nat),Vh P k fs=true→k+fs.length=xs.length→
  (Op.eqFields (d+1) (xs.map (Value.int .i64)).toArray (ys.map (Value.int .i64)).toArray fs).run P w= .ok (xs.drop k==ys.drop k) w
 | [],k,_,h2=>by
  rw [List.drop_eq_nil_of_le (show xs.length≤k by simp only [List.length_nil]at h2;omega),List.drop_eq_nil_of_le (show ys.length≤k by simp only [List.length_nil]at h2;omega)]
  simp [Op.eqFields]
 | f::fs,k,h1,h2=>by
  simp only [List.length_cons]at h2
  simp only [Vh,Bool.and_eq_true,Bool.not_eq_true',beq_eq_false_iff_ne,beq_iff_eq]at h1
  obtain⟨⟨⟨n1,n2⟩,n3⟩,n4⟩:=h1
  have hk:k<xs.length:=by omega
  have hk':k<ys.length:=by omega
  obtain⟨kd,hu⟩:∃kd,P.underlying f.type=some (.int kd):=by
   cases hu:P.underlying f.type with
   | none=>rw [hu]at n3;cases n3
   | some z=>cases z<;>(first | exact⟨_,rfl⟩ | (rw [hu]at n3;cases n3))
  have pk:P.plainKey f.type=true:=by unfold Program.plainKey;rw [hu]
  have p1:=run_part_plain w pk (xs:=(xs.map (Value.int .i64)).toArray) (off:=f.offset) (v:= .int .i64 xs[k]) (by rw [n2];simp [hk])
  have p2:=run_part_plain w pk (xs:=(ys.map (Value.int .i64)).toArray) (off:=f.offset) (v:= .int .i64 ys[k]) (by rw [n2];simp [hk'])
  have ih:=Vi w d xs ys hl fs (k+1) n4 (by omega)
  simp only [Op.eqFields,if_pos n1,Sem.run_bind,p1,p2,Result.andThen_ok,run_equalIn_int w d f.type .i64 kd _ _ hu]
  have e:(xs.drop k==ys.drop k)=((xs[k]==ys[k])&& (xs.drop (k+1)==ys.drop (k+1))):=by rw [List.drop_eq_getElem_cons hk,List.drop_eq_getElem_cons hk'];rfl
  rw [e]
  by_cases c:(xs[k]==ys[k])=true
  ·rw [c]
   simp only [Bool.not_true,Bool.false_eq_true,if_false,ih,Bool.true_and]
  ·have c2:(xs[k]==ys[k])=false:=by simpa using c
   rw [c2]
   simp only [Bool.not_false,if_true,Sem.run_pure,Bool.false_and]
theorem aiY {P:Program} {t:TypeId} {n:Nat} (hu:P.underlying t=some (.struct (P.fieldsOf t))) (hs:P.stoodInHeld t=false) (hg:P.eqGuardType P.depth t=false) (hf:Vh P 0 (P.fieldsOf t).toList=true) (hn:(P.fieldsOf t).size=n) (xs ys:List Int) (hx:xs.length=n) (hy:ys.length=n) (w:World):
  (Op.equal t (.agg (xs.map (Value.int .i64)).toArray) (.agg (ys.map (Value.int .i64)).toArray)).run P w= .ok (xs==ys) w∧
  (eqGuard .eql t (.tmp 0) (.tmp 0) (.agg (xs.map (Value.int .i64)).toArray) (.agg (ys.map (Value.int .i64)).toArray)).run P w= .ok () w:=by
 refine⟨?_,run_eqGuard_agg w _ _ _ _ _ _ hg⟩
 show(Op.equalIn (9999+1) t _ _).run P w=_
 rw [run_equalIn_struct w 9999 t _ _ hu hs,Vi w 9998 xs ys (by omega) _ 0 hf (by rw [Array.length_toList];omega)]
 rfl
noncomputable def never (s:Sig):Ct aD s:={pre:=fun _=>false,fn:=fun _=>Classical.choice (um _)}
theorem jW {E:Tab} {f:FuncId} {s:Sig} (h:Enters E.P f):dw E f (cO (never s)) where
 enters:=h
 calls:=by
  rintro args hh n K ⟨m,vs,h2,h3,h4,h5,cr,h6,h7,h8⟩
  exfalso
  unfold q9 at h6
  split at h6
  ·split at h6
   ·split at h6
    ·split at h6
     ·cases h6
      have:=h7 false (List.mem_append_right _ (List.mem_singleton.2 rfl))
      cases this
     ·cases h6
    ·cases h6
   ·cases h6
  ·cases h6
abbrev arK:Sig:={args:=[.c (.rows true .u8)],objs:=[],res:=[.c .bool],dS:=[]}
def entry (W:World):Ctx:={K:=fun _ b=>b<W.heap.size,μ:=fun _=>none,n:=0}
theorem SF (W:World):bJ (entry W) W []:=
 ⟨fun l o h=>(by cases h),fun l o l' o' b h=>(by cases h),fun f b ⟨l,o,h,_⟩=>(by cases h),fun f b h=>h,fun b h=>h⟩
theorem OW {W W':World} {c':Ctx} {h':Heap} (g:Grow (entry W) W [] c' W' h'):RowKit.Below W.heap.size W W':=
 ⟨g.os,g.tape,g.output,g.size,fun k hk=>g.kept k hk fun⟨l,o,h,_⟩=>by cases h⟩
theorem acU {c:Ctx} {w:World} {v:Value} {r:PV} {N:NM} {b:Bool} (h1:bI c w v r) (h2:PVR N r (.c (.d true (.bool b)))):v= .bool b:=by
 cases h2 with
 | one h=>
  cases h with
  | c h=>
   cases h with
   | d h3 _=>
    subst h3
    cases h1 with
    | c _ _ h4=>cases h4 with
     | d _ _ _ h5=>cases h5;rfl
  | agg h=>cases h
theorem arL {E:Tab} {f:FuncId} {c:Ct aD arK} (hc:dw E f (cO c)) {xs:List Int} {W:World} {v:Value} (hv:dQ (fun b=>b<W.heap.size) W v (.rows 1 (aL .u8 xs)))
  (hg:qO E (entry W) W) (hp:c.pre (xs,())=true):Go.Calls E.P f #[v] W fun e W'=>e= .returned (.bool (c.fn (xs,())).1)∧RowKit.Below W.heap.size W W':=by
 refine(hc.calls [.c (.d true (.rows 1 (aL .u8 xs)))] [] 0 (fun r _ _=>PVR (nmh []) r (.c (.d true (.bool (c.fn (xs,())).1)))) ?_ (entry W) W [v] rfl (.cons (.c _ _ (.d true _ _ hv)) .nil) (SF W) hg).mono ?_
 ·refine⟨0,[.c (.d true (.rows .u8 xs))],[],.cons (.one (.c (.d rfl fun _=> .inl rfl))) .nil,⟨fun l o h=>(by cases h),fun _ _=>rfl⟩,rfl,_,rfl,?_,_,_,rfl,?_⟩
  ·intro b hb
   rcases List.mem_append.1 hb with h | h
   ·cases h
   ·rw [List.mem_singleton]at h;rw [h];exact hp
  ·intro r _ _ h _ _ _;exact h
 ·rintro e W' he
  cases e with
  | returned u=>
   obtain⟨c',r,h',j,g,_,_,h1,h2⟩:=he
   exact⟨by rw [acU h1 h2],OW g⟩
  | outgrown=>exact he.elim
  | panicked _=>exact he.elim
open Go.RowKit Go.ChangeShapes Go.WideShapes Go.ChangeAt in
theorem aaJ {H:Type} {enc:TypeId×Value→H} {P:Program} {t e:TypeId} (ht:P.underlying t=some (.slice e)) (he:P.underlying e=some (.int .u8)) (hc:P.cellsOf e=1) {W:World} {base:Nat} {v:Value} {d:DataW H} {p:List MemPlace}
  (hval:Value.okWide P W .any base t v) (h:DataW.Trod enc P W 0 (fun _=>true) true t v d p) (hlt:∀x∈p,x.block<W.heap.size):
  ∃xs:List Int,dQ (fun b=>b<W.heap.size) W v (.rows 1 (aL .u8 xs))∧∀z∈xs,0≤z∧z≤255:=by
 obtain⟨a0,len,cap,rfl⟩:=okWide_slice ht hval
 obtain⟨fuel,hf⟩:=h
 rcases open_ints ht he hc hf with⟨hcs,hx⟩ | ⟨a,len',cap',zs,hcs,_,hl,hm,hz,hx,hcell,hwz⟩
 ·simp [Value.cells]at hcs
  obtain⟨rfl,rfl,rfl⟩:=hcs
  exact⟨[],.none _ _ _,fun _ h=>by cases h⟩
 ·simp [Value.cells]at hcs
  obtain⟨rfl,rfl,rfl⟩:=hcs
  simp only [Prod.mk.injEq]at hx
  obtain⟨rfl,rfl⟩:=hx
  simp only [if_true]at hz
  have rng:∀z∈zs,0≤z∧z≤255:=fun z hz=>by
   obtain⟨i,hi,rfl⟩:=List.getElem_of_mem hz
   have:=range_u8 hwz i
   rwa [List.getElem?_eq_getElem hi]at this
  refine⟨zs.take len,?_,fun z h=>rng z (List.mem_of_mem_take h)⟩
  by_cases h0:len=0
  ·subst h0;exact .none _ _ _
  ·obtain⟨b,off,spot⟩:=a
   have hspot:spot=none:=by simpa [Addr.add]using World.cell?_spot (hcell 0 (by omega))
   subst hspot
   have hbW:b<W.heap.size:=hlt (.cell b off) (MemPlace.mem_row.2 ⟨0,by omega,by simp⟩)
   have hlen:(aL .u8 (zs.take len)).length=len:=by simp only [aL,List.length_map,List.length_take];omega
   have hget:∀i,i<len→(aL .u8 (zs.take len)).getD i []=[.int .u8 (zs.getD i 0)]:=fun i hi=>by
    simp only [aL,List.getD,List.getElem?_map,List.getElem?_take_of_lt hi,List.getElem?_eq_getElem (show i<zs.length by omega)]
    rfl
   refine .rows b off cap 1 len _ (fun i j=> .int .u8 (zs.getD i 0)) hbW hlen.symm hl (fun i j hi hj=> ?_) (fun i hi=> ?_) (fun i j hi hj=> ?_)
   ·rw [hlen]at hi
    have:=hcell i (by omega)
    rw [add_plain]at this
    rw [show off+i*1+j=off+i by omega]
    exact this
   ·rw [hlen]at hi;rw [hget i hi];rfl
   ·rw [hlen]at hi
    have hj0:j=0:=by omega
    subst hj0
    unfold gd;rw [hget i hi];exact .int _ _
end Go.TX
namespace Go.TX.Seat
open Go Go.AE Go.TX Go.TX.F Go.Proofs
set_option maxRecDepth 100000
theorem arM:∀t n,E.ieq t=some n→∀(xs ys:List Int),xs.length=n→ys.length=n→∀w,
  (Op.equal t (.agg (xs.map (Value.int .i64)).toArray) (.agg (ys.map (Value.int .i64)).toArray)).run E.P w= .ok (xs==ys) w∧
  (eqGuard .eql t (.tmp 0) (.tmp 0) (.agg (xs.map (Value.int .i64)).toArray) (.agg (ys.map (Value.int .i64)).toArray)).run E.P w= .ok () w:=by
 intro t n h
 obtain⟨c,hc,rfl⟩:∃c,ieq t=some c∧c.size=n:=by
  have h':(ieq t).map (fun c=>c.size)=some n:=h
  cases hi:ieq t with
  | none=>rw [hi]at h';cases h'
  | some c=>rw [hi]at h';cases h';exact⟨c,rfl,rfl⟩
 unfold ieq at hc
 split at hc
 all_goals first | (cases hc;exact aiY (by kernel_rfl) (by kernel_rfl) (by kernel_rfl) (by kernel_rfl) (by kernel_rfl)) | cases hc
theorem hE:aG E:=⟨arw,arM⟩
theorem arN:∀t c,X.ieq t=some c→(c= .ins∧E.ieq t=some 4)∨(c= .iop∧E.ieq t=some 5):=by
 intro t c h
 have h:ieq t=some c:=h
 have e:E.ieq t=(ieq t).map fun c=>c.size:=rfl
 rw [e,h]
 unfold ieq at h
 split at h
 all_goals first | (cases h;first | exact Or.inl ⟨rfl,rfl⟩ | exact Or.inr ⟨rfl,rfl⟩) | cases h
theorem xok:XOK X E:=⟨rfl,fun g c h=>(by cases h),arN⟩
theorem hm:E.P.follows .mixedOrders=true:=by kernel_rfl
theorem hlN:∀p∈([]:List (FuncId×Sigma (Ct aD))),dw E p.1 (cO p.2.2):=fun _ h=>by cases h
theorem hlC {f:FuncId} {s:Sig} {c:Ct aD s} {l:List (FuncId×Sigma (Ct aD))} (h:dw E f (cO c)) (r:∀p∈l,dw E p.1 (cO p.2.2)):∀p∈(f,⟨s,c⟩)::l,dw E p.1 (cO p.2.2):=fun p hp=>by
 rcases List.mem_cons.1 hp with rfl | hp
 ·exact h
 ·exact r p hp
@[reducible] def _root_.Go.TX.Fn.c {E : Tab} {f : FuncId} {s : Sig} {F : iq s.inp → (iq s.out → Prop) → Prop} {c : Ct aD s} (_ : Fn E f F c) : Ct aD s := c
theorem mk {lk:aH} {f:FuncId} {fn:Func} (hf:E.P.funcs[f]? =some fn) {l:List (FuncId×Sigma (Ct aD))} (hl:∀p∈l,dw E p.1 (cO p.2.2)) {ord:List (Nat×List fJ)} {s:Sig} {an:Ann}
 {F:iq s.inp→(iq s.out→Prop)→Prop} (h:Ru X E (std 0) ord an s fn l F) (hb:fn.body.isSome=true:=by rfl) (hn:(fn.name== "runtime.NumGoroutine")=false:=by kernel_rfl):Fn E f F (cn F):=aqM hE xok hm hf hb (fun _=>enters_of hf hn) hl h
theorem aaK {E:Tab} {f:FuncId} {c:Ct aD {args:=[.c (.int .u64)],objs:=[],res:=[.c (.int .i64)],dS:=[]}} {g:Int→Int} (hent:Enters E.P f) (hg:(fun x:Int=>(c.fn (x,())).1)=g)
  (h:∀(x:Int) (w:World),c.pre (x,())=true→Go.Calls E.P f #[.int .u64 x] w fun e w'=>e= .returned (.int .i64 (g x))∧w'=w):dw E f (cO c) where
 enters:=hent
 calls:=by
  rintro args hh n K ⟨m,qs,hs,hargs,HR,hlen,cr,hcall,ab7,v,kT,hvk,hK⟩ c1 w vs hcn qB Hh Gl
  have key:∀f0 (x:Int),qs=[.c (.d f0 (.int .u64 x))]→q9 (std m) hs {args:=[.c (.int .u64)],objs:=[],res:=[.c (.int .i64)],dS:=[]} c qs=some {ck:=[c.pre (x,())],ts:=[.i],y:=c.fn (x,()),touched:=[],pure:=true,k:=fun y=>some (.c (.d true (.int .i64 y.1)),hs)}:=by
   intro f0 x e;subst e;rfl
  have hq:∃f0 x,qs=[.c (.d f0 (.int .u64 x))]:=by
   unfold q9 at hcall
   cases qs with
   | nil=>simp [oh]at hcall
   | cons q r=>
    cases r with
    | cons q2 r2=>
     exfalso
     simp only [oh]at hcall
     cases hx:IB (std m) hs (.c (.int .u64)) q (es0 (std m) 0 [])with
     | none=>rw [hx]at hcall;simp at hcall
     | some s=>rw [hx]at hcall;simp [oh]at hcall
    | nil=>
     simp only [oh]at hcall
     cases q with
     | c y=>
      simp only [IB,extC]at hcall
      cases y with
      | d f0 y=>
       cases y with
       | int k x=>
        by_cases hk:IntKind.u64=k
        ·subst hk;exact⟨f0,x,rfl⟩
        ·simp [hk]at hcall
       | _=>simp at hcall
      | _=>simp at hcall
     | _=>simp [IB]at hcall
  obtain⟨f0,x,rfl⟩:=hq
  rw [key f0 x rfl]at hcall
  simp only [Option.some.injEq]at hcall
  subst hcall
  simp only [Option.some.injEq,Prod.mk.injEq]at hvk
  obtain⟨rfl,rfl⟩:=hvk
  have hpre:=ab7 _ (List.mem_singleton.2 rfl)
  have hv:vs=[.int .u64 x]:=by
   cases hargs with
   | cons h1 h2=>
    cases h2
    cases qB with
    | cons h3 h4=>
     cases h4
     cases h1 with
     | one h1=>
      cases h1 with
      | c h1=>
       cases h1 with
       | d h5 _=>
        subst h5
        cases h3 with
        | c _ _ h6=>cases h6 with
         | d _ _ _ h7=>cases h7;rfl
      | agg h1=>cases h1
  subst hv
  refine(h x w hpre).mono ?_
  rintro e w' ⟨rfl,rfl⟩
  refine⟨c1,.c (.d true (.int .i64 (g x))),hh,0,.refl _ _ _,Hh,hcn,.c _ _ (.d _ _ _ (.int _ _)),hK _ _ _ ?_ HR (.refl _ _ _) hlen⟩
  rw [←hg]
  exact .one (.c (.d rfl fun _=> .inl rfl))
end Go.TX.Seat
namespace Go.TX.F
open Go Go.AE Go.TX Go.TX.Seat Go.Proofs
set_option maxRecDepth 100000
def lW:=mk Tryz.func78 hlN (agB (std 0))
noncomputable def bE:=lW.c
def rQ:=fun n b p hb h1 h2=>(lW.cs (Z6 n b p hb h1 h2)).1
def rR:=fun n b p hb h1 h2=>(lW.cs (Z6 n b p hb h1 h2)).2
def SG:=mk Tryz.func91 (hlC lW.ok hlN) (agC (std 0) bE)
noncomputable def Gx:=SG.c
def qH:=fun n b p hb h1 h2=>SG.cs (ah9 rQ rR n b p hb h1 h2)
def aiZ:=fun n b p hb h1 h2=>(qH n b p hb h1 h2).1
def ai0:=fun n b p hb h1 h2=>(qH n b p hb h1 h2).2
def pW:=mk Tryz.func61 hlN (agD (std 0))
noncomputable def bU:=pW.c
def uX:=fun a b c=>(pW.cs (ZT a b c)).1
def uY:=fun a b c=>(pW.cs (ZT a b c)).2
def Bb:=mk Tryz.func115 hlN (agE (std 0))
noncomputable def jk:=Bb.c
def SH:=fun a=>(Bb.cs (ZU a)).1
def SK:=fun a=>(Bb.cs (ZU a)).2
def SL:=mk Tryz.func156 (hlC pW.ok hlN) (agF (std 0) bU)
noncomputable def F6:=SL.c
def uZ:=fun k=>SL.cs (aii uX uY k)
def ai1:=fun k=>(uZ k).1
def ai2:=fun k=>(uZ k).2
def KV:=mk Tryz.func116 (hlC SL.ok hlN) (agG (std 0) F6)
noncomputable def pq:=KV.c
def zO:=fun ops x n h1=>KV.cs (aij ai1 ai2 ops x n h1)
def aaL:=fun ops x n h1=>(zO ops x n h1).1
def aaM:=fun ops x n h1=>(zO ops x n h1).2
def SN:=mk Tryz.func62 (hlC Bb.ok (hlC pW.ok (hlC KV.ok hlN))) (agH (std 0) jk bU pq)
noncomputable def F8:=SN.c
def Ci:=fun ops i len h0 h1 h3=>SN.cs (aik SH SK uX uY aaL aaM ops i len h0 h1 h3)
def ai3:=fun ops i len h0 h1 h3=>(Ci ops i len h0 h1 h3).1
def ai4:=fun ops i len h0 h1 h3=>(Ci ops i len h0 h1 h3).2
def SQ:=mk Tryz.func63 (hlC Bb.ok (hlC KV.ok hlN)) (agI (std 0) jk pq)
noncomputable def F7:=SQ.c
def zP:=fun b=>SQ.cs (ail SH SK aaL aaM b)
def ai5:=fun b=>(zP b).1
def ai6:=fun b=>(zP b).2
def rT:=mk Tryz.func19 (hlC pW.ok (hlC SQ.ok (hlC SN.ok hlN))) (agJ (std 0) bU F7 F8)
noncomputable def bV:=rT.c
def Cj:=fun b h2=>rT.cs (ain uX uY ai5 ai6 ai3 ai4 b h2)
def yH:=fun b h2=>(Cj b h2).1
def yI:=fun b h2=>(Cj b h2).2
def yJ:=mk Tryz.func59 hlN (agK (std 0))
noncomputable def gP:=yJ.c
def KW:=fun b hb=>(yJ.cs (aao b hb)).1
def KY:=fun b hb=>(yJ.cs (aao b hb)).2
def Ih:=mk Tryz.func60 (hlC pW.ok hlN) (agL (std 0) bU)
noncomputable def pz:=Ih.c
def aaN:=fun o al hk hx hy=>(Ih.cs (aar uX uY o al hk hx hy)).1
def aaO:=fun o al hk hx hy=>(Ih.cs (aar uX uY o al hk hx hy)).2
def Ii:=mk Tryz.func18 (hlC rT.ok (hlC Ih.ok (hlC yJ.ok hlN))) (agM (std 0) bV pz gP)
noncomputable def jl:=Ii.c
def u7:=fun b hb=>Ii.cs (aiM yH yI aaN aaO KW KY b hb)
def SX:=fun b hb=>(u7 b hb).1
def SY:=fun b hb=>(u7 b hb).2
def KZ:=mk Tryz.func130 (hlC Ih.ok hlN) (agN (std 0) pz)
noncomputable def pE:=KZ.c
def vg:=fun b kp ok hk=>KZ.cs (aiI aaN aaO b kp ok hk)
def aaP:=fun b kp ok hk=>(vg b kp ok hk).1
def aaQ:=fun b kp ok hk=>(vg b kp ok hk).2
def S9:=mk Tryz.func131 (hlC rT.ok (hlC pW.ok hlN)) (agO (std 0) bV bU)
noncomputable def F9:=S9.c
def vk:=fun b hb=>S9.cs (aiH yH yI uX uY b hb)
def ai7:=fun b hb=>(vk b hb).1
def ai8:=fun b hb=>(vk b hb).2
def Ta:=mk Tryz.func70 (hlC rT.ok (hlC S9.ok (hlC KZ.ok hlN))) (agP (std 0) bV F9 pE)
noncomputable def Gh:=Ta.c
def vo:=fun b hb=>Ta.cs (aiJ yH yI ai7 ai8 aaP aaQ b hb)
def ai9:=fun b hb=>(vo b hb).1
def aja:=fun b hb=>(vo b hb).2
def K4:=mk Tryz.func132 hlN (agQ (std 0))
noncomputable def Ga:=K4.c
def ajb:=fun ops k h0 h1 h2=>(K4.cs (aas ops k h0 h1 h2)).1
def ajc:=fun ops k h0 h1 h2=>(K4.cs (aas ops k h0 h1 h2)).2
def Tc:=mk Tryz.func71 (hlC rT.ok (hlC KZ.ok (hlC K4.ok hlN))) (agR (std 0) bV pE Ga)
noncomputable def Gi:=Tc.c
def vw:=fun b hb=>Tc.cs (aiK yH yI aaP aaQ ajb ajc b hb)
def ajd:=fun b hb=>(vw b hb).1
def aje:=fun b hb=>(vw b hb).2
def Ij:=mk Tryz.func133 hlN (agS (std 0))
noncomputable def pF:=Ij.c
def aaR:=fun ops k=>(Ij.cs (aap ops k)).1
def aaS:=fun ops k=>(Ij.cs (aap ops k)).2
def K6:=mk Tryz.func169 hlN (agT (std 0))
noncomputable def Gb:=K6.c
def ajf:=fun a=>(K6.cs (ZW a)).1
def ajg:=fun a=>(K6.cs (ZW a)).2
def Td:=mk Tryz.func134 (hlC K6.ok (hlC Bb.ok hlN)) (agU (std 0) Gb jk)
noncomputable def Gd:=Td.c
def zQ:=fun op a b=>Td.cs (ah7 SH SK ajf ajg op a b)
def ajh:=fun op a b=>(zQ op a b).1
def aji:=fun op a b=>(zQ op a b).2
def K7:=mk Tryz.func170 hlN (agV (std 0))
noncomputable def Gc:=K7.c
def ajj:=fun b k=>(K7.cs (aaq b k)).1
def ajk:=fun b k=>(K7.cs (aaq b k)).2
def Te:=mk Tryz.func135 (hlC K7.ok (hlC Ij.ok hlN)) (agW (std 0) Gc pF)
noncomputable def Gf:=Te.c
def vB:=fun b h=>Te.cs (aiD ajj ajk aaR aaS b h)
def ajl:=fun b h=>(vB b h).1
def ajm:=fun b h=>(vB b h).2
def Tf:=mk Tryz.func72 (hlC rT.ok (hlC Td.ok (hlC Te.ok (hlC Ij.ok (hlC yJ.ok hlN))))) (agX (std 0) bV Gd Gf pF gP)
noncomputable def Gg:=Tf.c
def sF:=fun b hb=>Tf.cs (aiG yH yI ajh aji ajl ajm aaR aaS KW KY b hb)
def ajn:=fun b hb=>(sF b hb).1
def ajo:=fun b hb=>(sF b hb).2
def K8:=mk Tryz.func25 (hlC Tf.ok (hlC Ii.ok (hlC Ta.ok (hlC Tc.ok hlN)))) (agY (std 0) Gg jl Gh Gi)
noncomputable def pQ:=K8.c
def xA:=fun b hb=>K8.cs (aiE ajn ajo SX SY ai9 aja ajd aje b hb)
def aaT:=fun b hb=>(xA b hb).1
def aaU:=fun b hb=>(xA b hb).2
def Tg:=mk Tryz.func179 (hlC lW.ok hlN) (agZ (std 0) bE)
noncomputable def Gm:=Tg.c
def xB:=fun b p hb h1 h2=>Tg.cs (aiA rQ rR b p hb h1 h2)
def ajp:=fun b p hb h1 h2=>(xB b p hb h1 h2).1
def ajq:=fun b p hb h1 h2=>(xB b p hb h1 h2).2
def Ti:=mk Tryz.func237 hlN (ag0 (std 0))
noncomputable def Gj:=Ti.c
def ajr:=fun i=>(Ti.cs (aip i)).1
def K9:=mk Tryz.func181 (hlC pW.ok (hlC Ti.ok hlN)) (ag1 (std 0) bU Gj)
noncomputable def pI:=K9.c
def La:=fun i=>K9.cs (aiq uX uY ajr i)
def aaV:=fun i=>(La i).1
def Lb:=mk Tryz.func182 hlN (ag2 (std 0))
noncomputable def pG:=Lb.c
def aaW:=fun i=>(Lb.cs (air i)).1
def Lc:=mk Tryz.func180 (hlC Lb.ok (hlC K9.ok hlN)) (ag3 (std 0) pG pI)
noncomputable def pJ:=Lc.c
def Ik:=fun i=>Lc.cs (ais aaW aaV i)
def aaX:=fun i=>(Ik i).1
def Tj:=mk Tryz.func143 (hlC Tg.ok (hlC lW.ok (hlC Lc.ok hlN))) (ag4 (std 0) Gm bE pJ)
noncomputable def Gn:=Tj.c
def vC:=fun b p hb h1 h2=>Tj.cs (aiB ajp ajq rQ rR aaX b p hb h1 h2)
def ajs:=fun b p hb h1 h2=>(vC b p hb h1 h2).1
def ajt:=fun b p hb h1 h2=>(vC b p hb h1 h2).2
def Tk:=mk Tryz.func92 (hlC Tj.ok (hlC lW.ok hlN)) (ag5 (std 0) Gn bE)
noncomputable def Gw:=Tk.c
def vD:=fun b p hb h1 h2=>Tk.cs (aiC ajs ajt rQ rR b p hb h1 h2)
def aju:=fun b p hb h1 h2=>(vD b p hb h1 h2).1
def ajv:=fun b p hb h1 h2=>(vD b p hb h1 h2).2
def Tm:=mk Tryz.func145 (hlC Lb.ok (hlC K9.ok (hlC pW.ok (hlC Lc.ok hlN)))) (ag6 (std 0) pG pI bU pJ)
noncomputable def Gs:=Tm.c
def Ld:=fun pc l hl=>Tm.cs (ait aaW aaV uX uY aaX pc l hl)
def ajw:=fun pc l hl=>(Ld pc l hl).1
def vE:=mk Tryz.func183 hlN (ag7 (std 0))
noncomputable def eZ:=vE.c
def yK:=fun a1 a2 a3 a4 a5 a6 o ops hl=>(vE.cs (aak a1 a2 a3 a4 a5 a6 o ops hl)).1
def yL:=fun a1 a2 a3 a4 a5 a6 o ops hl=>(vE.cs (aak a1 a2 a3 a4 a5 a6 o ops hl)).2
def Il:=mk Tryz.func184 (hlC vE.ok hlN) (ag8 (std 0) eZ)
noncomputable def pO:=Il.c
def aaY:=fun a1 a2 a3 a4 a5 a6 k x ops hl=>(Il.cs (aam yK yL a1 a2 a3 a4 a5 a6 k x ops hl)).1
def aaZ:=fun a1 a2 a3 a4 a5 a6 k x ops hl=>(Il.cs (aam yK yL a1 a2 a3 a4 a5 a6 k x ops hl)).2
def yM:=mk Tryz.func185 (hlC vE.ok hlN) (ag9 (std 0) eZ)
noncomputable def gQ:=yM.c
def Im:=fun a1 a2 a3 a4 a5 a6 k ops hl=>(yM.cs (aal yK yL a1 a2 a3 a4 a5 a6 k ops hl)).1
def Io:=fun a1 a2 a3 a4 a5 a6 k ops hl=>(yM.cs (aal yK yL a1 a2 a3 a4 a5 a6 k ops hl)).2
def Le:=mk Tryz.func186 (hlC yM.ok (hlC vE.ok hlN)) (aha (std 0) gQ eZ)
noncomputable def pK:=Le.c
def sG:=fun a1 a2 a3 a4 a5 a6 k a o ops hl=>Le.cs (aiu Im Io yK yL a1 a2 a3 a4 a5 a6 k a o ops hl)
def aa0:=fun a1 a2 a3 a4 a5 a6 k a o ops hl=>(sG a1 a2 a3 a4 a5 a6 k a o ops hl).1
def aa1:=fun a1 a2 a3 a4 a5 a6 k a o ops hl=>(sG a1 a2 a3 a4 a5 a6 k a o ops hl).2
def Tn:=mk Tryz.func187 hlN (ahb (std 0))
noncomputable def Gr:=Tn.c
def ajx:=fun k hk=>(Tn.cs (aiw k hk)).1
def Tp:=mk Tryz.func188 (hlC yM.ok (hlC vE.ok (hlC Le.ok (hlC Il.ok hlN)))) (ahc (std 0) gQ eZ pK pO)
noncomputable def Gq:=Tp.c
def vF:=fun a1 a2 a3 a4 a5 a6 i k ops hl=>Tp.cs (aiv Im Io yK yL aa0 aa1 aaY aaZ a1 a2 a3 a4 a5 a6 i k ops hl)
def ajy:=fun a1 a2 a3 a4 a5 a6 i k ops hl=>(vF a1 a2 a3 a4 a5 a6 i k ops hl).1
def ajz:=fun a1 a2 a3 a4 a5 a6 i k ops hl=>(vF a1 a2 a3 a4 a5 a6 i k ops hl).2
def Lf:=mk Tryz.func189 (hlC yM.ok hlN) (ahd (std 0) gQ)
noncomputable def Gp:=Lf.c
def ajA:=fun a1 a2 a3 a4 a5 a6 i ops hl=>(Lf.cs (aan Im Io a1 a2 a3 a4 a5 a6 i ops hl)).1
def ajB:=fun a1 a2 a3 a4 a5 a6 i ops hl=>(Lf.cs (aan Im Io a1 a2 a3 a4 a5 a6 i ops hl)).2
def Tq:=mk Tryz.func146 (hlC yM.ok (hlC Lf.ok (hlC vE.ok (hlC Tp.ok (hlC Le.ok (hlC Il.ok (hlC Tn.ok hlN))))))) (ahe (std 0) gQ Gp eZ Gq pK pO Gr)
noncomputable def Gt:=Tq.c
def zR:=fun a1 a2 a3 a4 a5 a6 i k ops hk hl=>Tq.cs (aix Im Io ajA ajB yK yL ajy ajz aa0 aa1 aaY aaZ ajx a1 a2 a3 a4 a5 a6 i k ops hk hl)
def ajC:=fun a1 a2 a3 a4 a5 a6 i k ops hk hl=>(zR a1 a2 a3 a4 a5 a6 i k ops hk hl).1
def ajD:=fun a1 a2 a3 a4 a5 a6 i k ops hk hl=>(zR a1 a2 a3 a4 a5 a6 i k ops hk hl).2
def Tt:=mk Tryz.func94 (hlC Tm.ok (hlC Tq.ok hlN)) (ahf (std 0) Gs Gt)
noncomputable def Gu:=Tt.c
def sH:=fun pc l hl hk=>Tt.cs (aiy ajw ajC ajD pc l hl hk)
def ajE:=fun pc l hl hk=>(sH pc l hl hk).1
def ajF:=fun pc l hl hk=>(sH pc l hl hk).2
def Tv:=mk Tryz.func111 (hlC Tt.ok (hlC K8.ok (hlC Ii.ok (hlC lW.ok (hlC Tk.ok hlN))))) (ahg (std 0) Gu pQ jl bE Gw)
noncomputable def Gy:=Tv.c
def sI:=fun b p hb h1 h2=>Tv.cs (aiN ajE ajF aaT aaU SX SY rQ rR aju ajv b p hb h1 h2)
def ajG:=fun b p hb h1 h2=>(sI b p hb h1 h2).1
def ajH:=fun b p hb h1 h2=>(sI b p hb h1 h2).2
end Go.TX.F
namespace Go.TX.F
open Go Go.AE Go.TX Go.TX.Seat Go.Proofs
set_option maxRecDepth 100000
def Lg:=mk Tryz.func112 (hlC lW.ok (hlC yJ.ok hlN)) (ahh (std 0) bE gP)
noncomputable def pR:=Lg.c
def vG:=fun c b p hc hb h1 h2=>Lg.cs (aiP rQ rR KW KY c b p hc hb h1 h2)
def aa2:=fun c b p hc hb h1 h2=>(vG c b p hc hb h1 h2).1
def aa3:=fun c b p hc hb h1 h2=>(vG c b p hc hb h1 h2).2
def Tw:=mk Tryz.func55 (hlC SG.ok (hlC lW.ok (hlC Lg.ok (hlC Tv.ok hlN)))) (ahi (std 0) Gx bE pR Gy)
noncomputable def G9:=Tw.c
def oF:=fun n b p hb h1 h2=>Tw.cs (aiQ aiZ ai0 rQ rR aa2 aa3 ajG ajH n b p hb h1 h2)
def ajI:=fun n b p hb h1 h2=>(oF n b p hb h1 h2).1
def ajJ:=fun n b p hb h1 h2=>(oF n b p hb h1 h2).2
def Lh:=mk Tryz.func56 hlN (ahj (std 0))
noncomputable def Hl:=Lh.c
def ajK:=fun b hb hl=>(Lh.cs (Z5 b hb hl)).1
def ajL:=fun b hb hl=>(Lh.cs (Z5 b hb hl)).2
def lI:=mk Tryz.func73 hlN (amX (std 0))
noncomputable def aZ:=lI.c
def lJ:=fun a b c=>(lI.cs (adp a b c)).1
def lK:=fun a b c=>(lI.cs (adp a b c)).2
def zS:=mk Tryz.func64 (hlC lI.ok hlN) (amY (std 0) aZ)
noncomputable def fU:=zS.c
def JD:=fun a=>(zS.cs (adq lJ lK a)).1
def JE:=fun a=>(zS.cs (adq lJ lK a)).2
def Vj:=mk Tryz.func113 (hlC lI.ok hlN) (amZ (std 0) aZ)
noncomputable def wN:=Vj.c
def sJ:=fun o=>Vj.cs (aoC lJ lK o)
def adC:=fun o=>(sJ o).1
def adD:=fun o=>(sJ o).2
def OX:=mk Tryz.func136 (hlC lI.ok hlN) (am0 (std 0) aZ)
noncomputable def wP:=OX.c
def adE:=fun a=>(OX.cs (ads lJ lK a)).1
def adF:=fun a=>(OX.cs (ads lJ lK a)).2
def OY:=mk Tryz.func137 (hlC lI.ok hlN) (am1 (std 0) aZ)
noncomputable def wO:=OY.c
def adG:=fun a=>(OY.cs (adr lJ lK a)).1
def adH:=fun a=>(OY.cs (adr lJ lK a)).2
def aa4:=mk Tryz.func171 (hlC lI.ok hlN) (am2 (std 0) aZ)
noncomputable def NP:=aa4.c
def lM:=fun o=>aa4.cs (aoD lJ lK o)
def ao5:=fun o=>(lM o).1
def ao6:=fun o=>(lM o).2
def Vk:=mk Tryz.func138 (hlC aa4.ok (hlC lI.ok hlN)) (am3 (std 0) NP aZ)
noncomputable def wM:=Vk.c
def lN:=fun b x n h0 h1 h2=>Vk.cs (aoF ao5 ao6 lJ lK b x n h0 h1 h2)
def adI:=fun b x n h0 h1 h2=>(lN b x n h0 h1 h2).1
def adJ:=fun b x n h0 h1 h2=>(lN b x n h0 h1 h2).2
def aa5:=mk Tryz.func74 (hlC Vk.ok (hlC Vj.ok (hlC zS.ok (hlC lI.ok (hlC OY.ok (hlC OX.ok hlN)))))) (am4 (std 0) wM wN fU aZ wO wP)
noncomputable def NR:=aa5.c
def l6:=fun b i h0 h1 h2 h3=>aa5.cs (aoG adI adJ adC adD JD JE lJ lK adG adH adE adF b i h0 h1 h2 h3)
def ao7:=fun b i h0 h1 h2 h3=>(l6 b i h0 h1 h2 h3).1
def ao8:=fun b i h0 h1 h2 h3=>(l6 b i h0 h1 h2 h3).2
def OZ:=mk Tryz.func114 hlN (am5 (std 0))
noncomputable def wQ:=OZ.c
def adK:=fun b=>(OZ.cs (adB b)).1
def adL:=fun b=>(OZ.cs (adB b)).2
def aa6:=mk Tryz.func75 (hlC OZ.ok (hlC Vk.ok (hlC zS.ok (hlC lI.ok hlN)))) (am6 (std 0) wQ wM fU aZ)
noncomputable def NQ:=aa6.c
def lQ:=fun b h2=>aa6.cs (aoH adK adL adI adJ JD JE lJ lK b h2)
def ao9:=fun b h2=>(lQ b h2).1
def apa:=fun b h2=>(lQ b h2).2
def Vm:=mk Tryz.func26 (hlC aa6.ok (hlC aa5.ok (hlC lI.ok hlN))) (am7 (std 0) NQ NR aZ)
noncomputable def xq:=Vm.c
def Ck:=fun b h2=>Vm.cs (aoI ao9 apa ao7 ao8 lJ lK b h2)
def adM:=fun b h2=>(Ck b h2).1
def adN:=fun b h2=>(Ck b h2).2
def aa7:=mk Tryz.func20 (hlC zS.ok hlN) (am8 (std 0) fU)
noncomputable def Ox:=aa7.c
def Cm:=aa7.cs (aoy JD JE)
def apb:=(Cm).1
def apc:=(Cm).2
def Li:=mk Tryz.func117 hlN (ahk (std 0))
noncomputable def Gz:=Li.c
def ajM:=fun a b ha=>(Li.cs (aaw a b ha)).1
def ajN:=fun a b ha=>(Li.cs (aaw a b ha)).2
def aa8:=mk Tryz.func66 (hlC Li.ok hlN) (am9 (std 0) Gz)
noncomputable def Om:=aa8.c
def xC:=fun a b ha=>aa8.cs (aoX ajM ajN a b ha)
def apd:=fun a b ha=>(xC a b ha).1
def ape:=fun a b ha=>(xC a b ha).2
def Vn:=mk Tryz.func252 hlN (ana (std 0))
noncomputable def NS:=Vn.c
def apf:=fun a n=>(Vn.cs (adt a n)).1
def apg:=fun a n=>(Vn.cs (adt a n)).2
def Tx:=mk Tryz.func275 (hlC Vn.ok hlN) (ahl (std 0) NS)
noncomputable def GA:=Tx.c
def iN:=fun a n ha=>Tx.cs (ahV apf apg a n ha)
def ajO:=fun a n ha=>(iN a n ha).1
def ajP:=fun a n ha=>(iN a n ha).2
def Tz:=mk Tryz.func251 (hlC Tx.ok hlN) (ahm (std 0) GA)
noncomputable def GD:=Tz.c
def gX:=fun a n ha=>Tz.cs (ahW ajO ajP a n ha)
def ajQ:=fun a n ha=>(gX a n ha).1
def ajR:=fun a n ha=>(gX a n ha).2
def Vo:=mk Tryz.func210 (hlC Tz.ok hlN) (anb (std 0) GD)
noncomputable def wR:=Vo.c
def sK:=fun a n ha=>Vo.cs (an7 ajQ ajR a n ha)
def adO:=fun a n ha=>(sK a n ha).1
def adP:=fun a n ha=>(sK a n ha).2
def aa9:=mk Tryz.func257 hlN (arx (std 0))
noncomputable def IC:=aa9.c
def aph:=fun a=>(aa9.cs (an3 a)).1
def apj:=fun a=>(aa9.cs (an3 a)).2
def abb:=mk Tryz.func217 (hlC aa9.ok hlN) (arz (std 0) IC)
noncomputable def yA:=abb.c
def oG:=fun a b=>abb.cs (arD aph apj a b)
def ajS:=fun a b=>(oG a b).1
def ajT:=fun a b=>(oG a b).2
def abd:=mk Tryz.func218 hlN (arA (std 0))
noncomputable def IE:=abd.c
def apk:=fun a b=>(abd.cs (an4 a b)).1
def apl:=fun a b=>(abd.cs (an4 a b)).2
def abe:=mk Tryz.func258 (hlC abb.ok hlN) (ane (std 0) yA)
noncomputable def NT:=abe.c
def iZ:=fun a b ha=>abe.cs (an5 ajS ajT a b ha)
def apm:=fun a b ha=>(iZ a b ha).1
def apn:=fun a b ha=>(iZ a b ha).2
def JF:=mk Tryz.func219 (hlC abd.ok (hlC abb.ok (hlC abe.ok hlN))) (anf (std 0) IE yA NT)
noncomputable def jF:=JF.c
def oH:=fun a b ha=>JF.cs (an6 ajS ajT apm apn apk apl a b ha)
def Vp:=fun a b ha=>(oH a b ha).1
def Vq:=fun a b ha=>(oH a b ha).2
def abf:=mk Tryz.func259 (hlC aa9.ok hlN) (arB (std 0) IC)
noncomputable def yB:=abf.c
def vH:=fun a b=>abf.cs (arE aph apj a b)
def apo:=fun a b=>(vH a b).1
def apq:=fun a b=>(vH a b).2
def TA:=mk Tryz.func221 (hlC abf.ok hlN) (ahn (std 0) yB)
noncomputable def GI:=TA.c
def iX:=fun a ha=>TA.cs (ahU apo apq a ha)
def ajU:=fun a ha=>(iX a ha).1
def ajV:=fun a ha=>(iX a ha).2
def Vr:=mk Tryz.func223 hlN (ang (std 0))
noncomputable def NU:=Vr.c
def apr:=fun m=>(Vr.cs (adu m)).1
def aps:=fun m=>(Vr.cs (adu m)).2
def TB:=mk Tryz.func260 (hlC Vr.ok hlN) (aho (std 0) NU)
noncomputable def GH:=TB.c
def dF:=fun a ha=>TB.cs (ahX (G:=(fun m:aj=>0<m.atoms.length∧m.atoms.getD 0 default<0)) apr aps a ha)
def ajW:=fun a ha=>(dF a ha).1
def ajX:=fun a ha=>(dF a ha).2
def TD:=mk Tryz.func222 (hlC TB.ok hlN) (ahp (std 0) GH)
noncomputable def GJ:=TD.c
def dh:=fun a ha=>TD.cs (ahY (G:=(fun m:aj=>0<m.atoms.length∧m.atoms.getD 0 default<0)) ajW ajX a ha)
def ajY:=fun a ha=>(dh a ha).1
def ajZ:=fun a ha=>(dh a ha).2
def zT:=mk Tryz.func164 (hlC lI.ok (hlC Vo.ok (hlC TA.ok (hlC JF.ok (hlC TD.ok hlN))))) (anh (std 0) aZ wR GI jF GJ)
noncomputable def eH:=zT.c
def zU:=fun a ha=>zT.cs (an8 lJ lK adO adP ajU ajV Vp Vq ajY ajZ a ha)
def Ip:=fun a ha=>(zU a ha).1
def Iq:=fun a ha=>(zU a ha).2
end Go.TX.F
namespace Go.TX.F
open Go Go.AE Go.TX Go.TX.Seat Go.Proofs
set_option maxRecDepth 100000
def Vs:=mk Tryz.func158 (hlC lI.ok (hlC OY.ok (hlC Vo.ok (hlC zT.ok (hlC OX.ok hlN))))) (ani (std 0) aZ wO wR eH wP)
noncomputable def wS:=Vs.c
def jX:=fun a n ha=>Vs.cs (aon lJ lK adG adH adO adP Ip Iq adE adF a n ha)
def adQ:=fun a n ha=>(jX a n ha).1
def adR:=fun a n ha=>(jX a n ha).2
def O5:=mk Tryz.func161 (hlC abd.ok (hlC abb.ok (hlC JF.ok hlN))) (anj (std 0) IE yA jF)
noncomputable def nC:=O5.c
def sM:=fun a b ha=>O5.cs (an9 apk apl ajS ajT Vp Vq a b ha)
def abg:=fun a b ha=>(sM a b ha).1
def abh:=fun a b ha=>(sM a b ha).2
def Cn:=mk Tryz.func128 (hlC O5.ok hlN) (ank (std 0) nC)
noncomputable def fV:=Cn.c
def l7:=fun a b ha=>Cn.cs (aoa abg abh a b ha)
def JG:=fun a b ha=>(l7 a b ha).1
def JH:=fun a b ha=>(l7 a b ha).2
def abj:=mk Tryz.func213 (hlC Cn.ok hlN) (anl (std 0) fV)
noncomputable def NV:=abj.c
def l8:=fun a b ha=>abj.cs (aoj JG JH a b ha)
def apt:=fun a b ha=>(l8 a b ha).1
def apu:=fun a b ha=>(l8 a b ha).2
def abk:=mk Tryz.func212 (hlC abj.ok hlN) (anm (std 0) NV)
noncomputable def NW:=abk.c
def lS:=fun a b hb=>abk.cs (aol apt apu a b hb)
def apv:=fun a b hb=>(lS a b hb).1
def apw:=fun a b hb=>(lS a b hb).2
def TF:=mk Tryz.func211 (hlC abk.ok hlN) (ahq (std 0) NW)
noncomputable def GK:=TF.c
def dG:=fun a b ha hb=>TF.cs (ahZ apv apw a b ha hb)
def aj0:=fun a b ha hb=>(dG a b ha hb).1
def aj1:=fun a b ha hb=>(dG a b ha hb).2
def Vt:=mk Tryz.func159 (hlC TF.ok hlN) (ano (std 0) GK)
noncomputable def wT:=Vt.c
def nO:=fun a b ha hb=>Vt.cs (aom aj0 aj1 a b ha hb)
def adS:=fun a b ha hb=>(nO a b ha hb).1
def adT:=fun a b ha hb=>(nO a b ha hb).2
def abl:=mk Tryz.func220 hlN (anp (std 0))
noncomputable def NY:=abl.c
def eu:=fun a=>abl.cs (aoi a)
def apx:=fun a=>(eu a).1
def apy:=fun a=>(eu a).2
def Vu:=mk Tryz.func162 (hlC Vs.ok (hlC Vt.ok (hlC abl.ok hlN))) (anq (std 0) wS wT NY)
noncomputable def wV:=Vu.c
def oI:=fun t a ht ha=>Vu.cs (aop adQ adR adS adT apx apy t a ht ha)
def adU:=fun t a ht ha=>(oI t a ht ha).1
def adV:=fun t a ht ha=>(oI t a ht ha).2
def Vv:=mk Tryz.func163 (hlC lI.ok hlN) (anr (std 0) aZ)
noncomputable def wU:=Vv.c
def vI:=fun a=>Vv.cs (aod lJ lK a)
def adW:=fun a=>(vI a).1
def adX:=fun a=>(vI a).2
def Vw:=mk Tryz.func124 (hlC Vv.ok (hlC Vu.ok hlN)) (ant (std 0) wU wV)
noncomputable def wW:=Vw.c
def qI:=fun kd k t fl ht=>Vw.cs (aoM adW adX adU adV kd k t fl ht)
def adY:=fun kd k t fl ht=>(qI kd k t fl ht).1
def adZ:=fun kd k t fl ht=>(qI kd k t fl ht).2
def Vx:=mk Tryz.func118 (hlC Vw.ok hlN) (anu (std 0) wW)
noncomputable def wZ:=Vx.c
def oJ:=fun t fl ht hl=>Vx.cs (aoN adY adZ t fl ht hl)
def ad1:=fun t fl ht hl=>(oJ t fl ht hl).1
def ad2:=fun t fl ht hl=>(oJ t fl ht hl).2
def O6:=mk Tryz.func190 hlN (anv (std 0))
noncomputable def wX:=O6.c
def ad3:=fun a ha=>(O6.cs (adx a ha)).1
def ad4:=fun a ha=>(O6.cs (adx a ha)).2
def O7:=mk Tryz.func157 (hlC O6.ok hlN) (anw (std 0) wX)
noncomputable def nD:=O7.c
def lT:=fun a ha=>O7.cs (aof ad3 ad4 a ha)
def abm:=fun a ha=>(lT a ha).1
def abn:=fun a ha=>(lT a ha).2
def Vy:=mk Tryz.func119 (hlC O7.ok hlN) (anx (std 0) nD)
noncomputable def wY:=Vy.c
def l9:=fun a ha=>Vy.cs (aog abm abn a ha)
def ad5:=fun a ha=>(l9 a ha).1
def ad6:=fun a ha=>(l9 a ha).2
def abo:=mk Tryz.func67 (hlC Vy.ok (hlC Vx.ok hlN)) (anz (std 0) wY wZ)
noncomputable def Oo:=abo.c
def xD:=abo.cs (aoP ad5 ad6 ad1 ad2)
def apz:=(xD).1
def apA:=(xD).2
def Vz:=mk Tryz.func76 (hlC lI.ok hlN) (anA (std 0) aZ)
noncomputable def xu:=Vz.c
def oK:=fun o=>Vz.cs (aoE lJ lK o)
def ad7:=fun o=>(oK o).1
def ad8:=fun o=>(oK o).2
def abp:=mk Tryz.func120 (hlC Vs.ok (hlC Vt.ok hlN)) (anB (std 0) wS wT)
noncomputable def Og:=abp.c
def zV:=fun a ha=>abp.cs (aoo adQ adR adS adT a ha)
def apB:=fun a ha=>(zV a ha).1
def apC:=fun a ha=>(zV a ha).2
def abq:=mk Tryz.func121 hlN (anC (std 0))
noncomputable def Oi:=abq.c
def dV:=fun a h0 h1=>abq.cs (aoO a h0 h1)
def apD:=fun a h0 h1=>(dV a h0 h1).1
def apE:=fun a h0 h1=>(dV a h0 h1).2
def O8:=mk Tryz.func122 (hlC lI.ok hlN) (anD (std 0) aZ)
noncomputable def nH:=O8.c
def sN:=fun a=>O8.cs (aoc lJ lK a)
def abr:=fun a=>(sN a).1
def abt:=fun a=>(sN a).2
def JI:=mk Tryz.func141 hlN (anE (std 0))
noncomputable def nG:=JI.c
def abu:=fun a=>(JI.cs (adw a)).1
def abv:=fun a=>(JI.cs (adw a)).2
def abw:=mk Tryz.func86 (hlC zS.ok (hlC JI.ok hlN)) (anF (std 0) fU nG)
noncomputable def N7:=abw.c
def zW:=fun op a b=>abw.cs (aob JD JE abu abv op a b)
def apF:=fun op a b=>(zW op a b).1
def apG:=fun op a b=>(zW op a b).2
def VA:=mk Tryz.func166 (hlC zT.ok hlN) (anG (std 0) eH)
noncomputable def xk:=VA.c
def xE:=fun a ha=>VA.cs (aoe Ip Iq a ha)
def ad9:=fun a ha=>(xE a ha).1
def aea:=fun a ha=>(xE a ha).2
def VB:=mk Tryz.func277 (hlC JF.ok hlN) (anH (std 0) jF)
noncomputable def oC:=VB.c
def zY:=fun a b ha=>VB.cs (aoh Vp Vq a b ha)
def aeb:=fun a b ha=>(zY a b ha).1
def aec:=fun a b ha=>(zY a b ha).2
def TG:=mk Tryz.func309 (hlC VB.ok hlN) (ahr (std 0) oC)
noncomputable def GN:=TG.c
def dM:=fun a b d hd h1 h2 h3=>TG.cs (ah1 aeb aec a b d hd h1 h2 h3)
def aj2:=fun a b d hd h1 h2 h3=>(dM a b d hd h1 h2 h3).1
def aj3:=fun a b d hd h1 h2 h3=>(dM a b d hd h1 h2 h3).2
def Lj:=mk Tryz.func319 hlN (ahs (std 0))
noncomputable def GL:=Lj.c
def aj4:=fun a b n d hl h1 h2 h3 h4=>(Lj.cs (ZO a b n d hl h1 h2 h3 h4)).1
def aj5:=fun a b n d hl h1 h2 h3 h4=>(Lj.cs (ZO a b n d hl h1 h2 h3 h4)).2
def TH:=mk Tryz.func317 (hlC Lj.ok hlN) (aht (std 0) GL)
noncomputable def rE:=TH.c
def fG:=fun a m b d hl h1 h2 h3 h4=>TH.cs (ah0 aj4 aj5 a m b d hl h1 h2 h3 h4)
def aj6:=fun a m b d hl h1 h2 h3 h4=>(fG a m b d hl h1 h2 h3 h4).1
def aj7:=fun a m b d hl h1 h2 h3 h4=>(fG a m b d hl h1 h2 h3 h4).2
noncomputable def cK:Nat→Ct aD nA
 | 0=>never nA
 | k+1=>cn (F3 (std 0) oC.pre oC.fn rE.pre rE.fn (cK k).pre (cK k).fn)
theorem kK:∀k:Nat,dw E 310 (cO (cK k))∧∀(a m b:Int) (d:List aj),AQ a m b d→b-a<k→(cK k).pre (a,m,b,d,())=true∧Mrg d ((cK k).fn (a,m,b,d,())).1 a b
 | 0=>⟨jW (enters_of Tryz.func310 (by kernel_rfl) rfl),fun a m b d h1 h2=>(by have g1:=h1.h2;have g2:=h1.h3;omega)⟩
 | k+1=>by
  have ih:=kK k
  have t:Fn E 310 (F3 (std 0) oC.pre oC.fn rE.pre rE.fn (cK k).pre (cK k).fn) (cK (k+1)):=mk Tryz.func310 (hlC VB.ok (hlC TH.ok (hlC ih.1 hlN))) (ahu (std 0) oC rE (cK k))
  exact⟨t.ok,fun a m b d h1 h2=>t.cs (ah2 aeb aec aj6 aj7 (k:Int) (fun a m b d h1 h2=>(ih.2 a m b d h1 h2).1) (fun a m b d h1 h2=>(ih.2 a m b d h1 h2).2) a m b d h1 (by omega))⟩
noncomputable def pU:Ct aD nA:=cK 1000000000
theorem aj8:dw E 310 (cO pU):=(kK 1000000000).1
theorem aed {a m b:Int} {d:List aj} (h:AQ a m b d):b-a< ((1000000000:Nat):Int):=by have g0:=h.sh.1;have g1:=h.h1;have g2:=h.h4;omega
def aj9:=fun a m b d h=>((kK 1000000000).2 a m b d h (aed h)).1
def akb:=fun a m b d h=>((kK 1000000000).2 a m b d h (aed h)).2
def TI:=mk Tryz.func291 (hlC TG.ok (hlC aj8 hlN)) (ahv (std 0) GN pU)
noncomputable def GQ:=TI.c
def fH:=fun n d hd hn=>TI.cs (ah3 aj2 aj3 aj9 akb n d hd hn)
def akc:=fun n d hd hn=>(fH n d hd hn).1
def akd:=fun n d hd hn=>(fH n d hd hn).2
def TJ:=mk Tryz.func276 (hlC TI.ok hlN) (ahw (std 0) GQ)
noncomputable def GU:=TJ.c
def bZ:=fun d hd=>TJ.cs (ah4 akc akd d hd)
def ake:=fun d hd=>(bZ d hd).1
def akf:=fun d hd=>(bZ d hd).2
def VD:=mk Tryz.func253 (hlC JF.ok (hlC zT.ok (hlC JI.ok (hlC O6.ok (hlC TJ.ok hlN))))) (anI (std 0) jF eH nG wX GU)
noncomputable def w9:=VD.c
def Ir:=fun l hl hc=>VD.cs (aor Vp Vq Ip Iq abu abv ad3 ad4 ake akf l hl hc)
def aee:=fun l hl hc=>(Ir l hl hc).1
def aef:=fun l hl hc=>(Ir l hl hc).2
end Go.TX.F
namespace Go.TX.F
open Go Go.AE Go.TX Go.TX.Seat Go.Proofs
set_option maxRecDepth 100000
def TK:=mk Tryz.func278 hlN (ahx (std 0))
noncomputable def GV:=TK.c
def eB:=fun n h1 h2=>TK.cs (ah5 n h1 h2)
def akg:=fun n h1 h2=>(eB n h1 h2).1
def akh:=fun n h1 h2=>(eB n h1 h2).2
def abx:=mk Tryz.func254 (hlC TK.ok hlN) (anJ (std 0) GV)
noncomputable def NZ:=abx.c
def dO:=fun a b ha hb=>abx.cs (aos akg akh a b ha hb)
def apH:=fun a b ha hb=>(dO a b ha hb).1
def apI:=fun a b ha hb=>(dO a b ha hb).2
def aby:=mk Tryz.func214 (hlC zT.ok (hlC VD.ok (hlC abx.ok hlN))) (anK (std 0) eH w9 NZ)
noncomputable def N8:=aby.c
def xG:=fun a b ha hb=>aby.cs (aot Ip Iq aee aef apH apI a b ha hb)
def apJ:=fun a b ha hb=>(xG a b ha hb).1
def apK:=fun a b ha hb=>(xG a b ha hb).2
def Ll:=mk Tryz.func279 hlN (ahy (std 0))
noncomputable def GX:=Ll.c
def aki:=fun n h1 h2=>(Ll.cs (ZP n h1 h2)).1
def akj:=fun n h1 h2=>(Ll.cs (ZP n h1 h2)).2
def TL:=mk Tryz.func255 (hlC Ll.ok hlN) (ahz (std 0) GX)
noncomputable def G5:=TL.c
def jJ:=fun a b ha hb=>TL.cs (ah6 aki akj a b ha hb)
def akk:=fun a b ha hb=>(jJ a b ha hb).1
def akl:=fun a b ha hb=>(jJ a b ha hb).2
def TM:=mk Tryz.func292 (hlC abf.ok hlN) (ahA (std 0) yB)
noncomputable def GY:=TM.c
def fZ:=fun a b d hd h1 h2=>TM.cs (aia apo apq a b d hd h1 h2)
def akm:=fun a b d hd h1 h2=>(fZ a b d hd h1 h2).1
def akn:=fun a b d hd h1 h2=>(fZ a b d hd h1 h2).2
noncomputable def Az:Ct aD Fx:=never Fx
theorem ako:dw E 293 (cO Az):=jW (enters_of Tryz.func293 (by kernel_rfl) rfl)
noncomputable def AA:Ct aD Fy:=never Fy
theorem akp:dw E 294 (cO AA):=jW (enters_of Tryz.func294 (by kernel_rfl) rfl)
noncomputable def AB:Ct aD Fz:=never Fz
theorem akq:dw E 295 (cO AB):=jW (enters_of Tryz.func295 (by kernel_rfl) rfl)
noncomputable def AJ:Ct aD FB:=never FB
theorem akr:dw E 296 (cO AJ):=jW (enters_of Tryz.func296 (by kernel_rfl) rfl)
noncomputable def AL:Ct aD FC:=never FC
theorem aks:dw E 297 (cO AL):=jW (enters_of Tryz.func297 (by kernel_rfl) rfl)
noncomputable def AO:Ct aD FD:=never FD
theorem akt:dw E 298 (cO AO):=jW (enters_of Tryz.func298 (by kernel_rfl) rfl)
noncomputable def AP:Ct aD FH:=never FH
theorem aku:dw E 299 (cO AP):=jW (enters_of Tryz.func299 (by kernel_rfl) rfl)
noncomputable def iC:Ct aD oW:=never oW
theorem lX:dw E 280 (cO iC):=jW (enters_of Tryz.func280 (by kernel_rfl) rfl)
def TN:=mk Tryz.func280 (hlC abf.ok (hlC TM.ok (hlC ako (hlC akp (hlC akq (hlC akr (hlC aks (hlC akt (hlC aku (hlC lX hlN)))))))))) (ahB (std 0) yB GY Az AA AB AJ AL AO AP iC)
noncomputable def rF:=TN.c
def iH:=fun a b k d hd h1 h2=>TN.cs (aib akm akn _ _ _ _ _ _ _ _ _ _ _ _ _ _ _ _ a b k d hd h1 h2)
def akv:=fun a b k d hd h1 h2=>(iH a b k d hd h1 h2).1
def akw:=fun a b k d hd h1 h2=>(iH a b k d hd h1 h2).2
noncomputable def GZ:Ct aD UH:={pre:=fun x=>decide ((0:Int)≤x.1)&&decide ((x.1:Int)≤18446744073709551615),fn:=fun x=>((Lib.bitLen (x.1:Int).toNat:Int),())}
theorem apL (n:Int) (h1:0≤n) (h2:n≤18446744073709551615):GZ.pre (n,())=true:=by
 show(decide _&&decide _)=true;simp only [Bool.and_eq_true,decide_eq_true_eq];exact⟨h1,h2⟩
theorem apM:dw E 281 (cO GZ):=
 aaK (enters_of Tryz.func281 (by kernel_rfl) rfl) rfl fun x w h=>by
  have h':(decide ((0:Int)≤x)&&decide (x≤18446744073709551615))=true:=h
  simp only [Bool.and_eq_true,decide_eq_true_eq]at h'
  exact bits_Len x w h'.1 h'.2
def TP:=mk Tryz.func256 (hlC TN.ok (hlC apM hlN)) (ahC (std 0) rF GZ)
noncomputable def G6:=TP.c
def ku:=fun a ha=>TP.cs (aic akv akw apL a ha)
def akx:=fun a ha=>(ku a ha).1
def aky:=fun a ha=>(ku a ha).2
def VE:=mk Tryz.func216 (hlC zT.ok (hlC JI.ok (hlC VD.ok (hlC TL.ok (hlC TP.ok hlN))))) (anL (std 0) eH nG w9 G5 G6)
noncomputable def xg:=VE.c
def xH:=fun a b ha hb=>VE.cs (aou Ip Iq abu abv aee aef akk akl akx aky a b ha hb)
def aeg:=fun a b ha hb=>(xH a b ha hb).1
def aeh:=fun a b ha hb=>(xH a b ha hb).2
def abz:=mk Tryz.func215 (hlC zT.ok (hlC O8.ok (hlC zS.ok (hlC VE.ok hlN)))) (anM (std 0) eH nH fU xg)
noncomputable def N9:=abz.c
def sO:=fun a n ha=>abz.cs (aov Ip Iq abr abt JD JE aeg aeh a n ha)
def apN:=fun a n ha=>(sO a n ha).1
def apO:=fun a n ha=>(sO a n ha).2
def abA:=mk Tryz.func160 (hlC Cn.ok (hlC O8.ok (hlC abw.ok (hlC aby.ok (hlC VE.ok (hlC abz.ok (hlC VA.ok hlN))))))) (anN (std 0) fV nH N7 N8 xg N9 xk)
noncomputable def Oa:=abA.c
def xI:=fun op x y hx hy=>abA.cs (aow JG JH abr abt apF apG apJ apK aeg aeh apN apO ad9 aea op x y hx hy)
def apP:=fun op x y hx hy=>(xI op x y hx hy).1
def apQ:=fun op x y hx hy=>(xI op x y hx hy).2
def abB:=mk Tryz.func123 (hlC O5.ok (hlC abA.ok (hlC Vu.ok (hlC Vv.ok hlN)))) (anO (std 0) nC Oa wV wU)
noncomputable def Oh:=abB.c
def qJ:=fun t op x y ht hx hy=>abB.cs (aox abg abh apP apQ adU adV adW adX t op x y ht hx hy)
def apR:=fun t op x y ht hx hy=>(qJ t op x y ht hx hy).1
def apS:=fun t op x y ht hx hy=>(qJ t op x y ht hx hy).2
def abC:=mk Tryz.func87 (hlC zS.ok hlN) (anP (std 0) fU)
noncomputable def Od:=abC.c
def xJ:=fun r a b=>abC.cs (aoJ JD JE r a b)
def apT:=fun r a b=>(xJ r a b).1
def apU:=fun r a b=>(xJ r a b).2
def abD:=mk Tryz.func224 (hlC O7.ok hlN) (anQ (std 0) nD)
noncomputable def Ob:=abD.c
def oL:=fun a ha=>abD.cs (aoK abm abn a ha)
def apV:=fun a ha=>(oL a ha).1
def apW:=fun a ha=>(oL a ha).2
def abE:=mk Tryz.func165 (hlC O7.ok (hlC abD.ok hlN)) (anR (std 0) nD Ob)
noncomputable def Oc:=abE.c
def mg:=fun s hs=>abE.cs (aoL abm abn apV apW s hs)
def apX:=fun s hs=>(mg s hs).1
def apY:=fun s hs=>(mg s hs).2
def abF:=mk Tryz.func125 (hlC VA.ok (hlC zT.ok (hlC O5.ok (hlC abE.ok (hlC Cn.ok (hlC abC.ok hlN)))))) (anS (std 0) xk eH nC Oc fV Od)
noncomputable def Oe:=abF.c
def xK:=fun s n hs h0 h1=>abF.cs (aoQ ad9 aea Ip Iq abg abh apX apY JG JH apT apU s n hs h0 h1)
def apZ:=fun s n hs h0 h1=>(xK s n hs h0 h1).1
def ap0:=fun s n hs h0 h1=>(xK s n hs h0 h1).2
def abG:=mk Tryz.func68 (hlC OZ.ok (hlC Vm.ok (hlC Vz.ok (hlC Vj.ok (hlC O8.ok (hlC abF.ok (hlC abp.ok (hlC Vy.ok (hlC abB.ok (hlC Vw.ok (hlC Vx.ok (hlC abq.ok hlN)))))))))))) (anT (std 0) wQ xq xu wN nH Oe Og wY Oh wW wZ Oi)
noncomputable def Oq:=abG.c
def xL:=fun t b ht hb=>abG.cs (aoR adK adL adM adN ad7 ad8 adC adD abr abt apZ ap0 apB apC ad5 ad6 apR apS adY adZ ad1 ad2 apD apE t b ht hb)
def ap1:=fun t b ht hb=>(xL t b ht hb).1
def ap2:=fun t b ht hb=>(xL t b ht hb).2
def abH:=mk Tryz.func168 (hlC Cn.ok hlN) (anU (std 0) fV)
noncomputable def Oj:=abH.c
def nP:=fun a b ha=>abH.cs (aoY JG JH a b ha)
def ap3:=fun a b ha=>(nP a b ha).1
def ap4:=fun a b ha=>(nP a b ha).2
def TQ:=mk Tryz.func167 (hlC abH.ok hlN) (ahD (std 0) Oj)
noncomputable def G7:=TQ.c
def bq:=fun a b ha=>TQ.cs (aiT ap3 ap4 a b ha)
def akz:=fun a b ha=>(bq a b ha).1
def akA:=fun a b ha=>(bq a b ha).2
def VF:=mk Tryz.func129 (hlC TQ.ok hlN) (anV (std 0) G7)
noncomputable def xw:=VF.c
def qK:=fun a b ha=>VF.cs (aoZ akz akA a b ha)
def aei:=fun a b ha=>(qK a b ha).1
def aej:=fun a b ha=>(qK a b ha).2
def abI:=mk Tryz.func127 (hlC Cn.ok (hlC VF.ok hlN)) (anW (std 0) fV xw)
noncomputable def Ol:=abI.c
def qL:=fun a b ha=>abI.cs (ao0 JG JH aei aej a b ha)
def ap5:=fun a b ha=>(qL a b ha).1
def ap6:=fun a b ha=>(qL a b ha).2
def TS:=mk Tryz.func126 (hlC abI.ok hlN) (ahE (std 0) Ol)
noncomputable def G8:=TS.c
def aX:=fun a b ha=>TS.cs (aiU ap5 ap6 a b ha)
def akB:=fun a b ha=>(aX a b ha).1
def akC:=fun a b ha=>(aX a b ha).2
end Go.TX.F
namespace Go.TX.F
open Go Go.AE Go.TX Go.TX.Seat Go.Proofs
set_option maxRecDepth 100000
def abJ:=mk Tryz.func69 (hlC Cn.ok (hlC VF.ok (hlC TS.ok hlN))) (anX (std 0) fV xw G8)
noncomputable def Ou:=abJ.c
def vJ:=fun a b ha=>abJ.cs (ao1 JG JH aei aej akB akC a b ha)
def ap7:=fun a b ha=>(vJ a b ha).1
def ap8:=fun a b ha=>(vJ a b ha).2
def abK:=mk Tryz.func22 (hlC Vm.ok (hlC aa8.ok (hlC abo.ok (hlC abG.ok (hlC abJ.ok hlN))))) (anY (std 0) xq Om Oo Oq Ou)
noncomputable def Ov:=abK.c
def vK:=fun b c hb hc=>abK.cs (ao2 adM adN apd ape apz apA ap1 ap2 ap7 ap8 b c hb hc)
def ap9:=fun b c hb hc=>(vK b c hb hc).1
def aqa:=fun b c hb hc=>(vK b c hb hc).2
def abL:=mk Tryz.func27 (hlC Vz.ok hlN) (anZ (std 0) xu)
noncomputable def Ow:=abL.c
def sP:=fun b hb=>abL.cs (ao3 ad7 ad8 b hb)
def aqb:=fun b hb=>(sP b hb).1
def aqc:=fun b hb=>(sP b hb).2
def TT:=mk Tryz.func139 (hlC lW.ok (hlC yJ.ok hlN)) (ahF (std 0) bE gP)
noncomputable def Hg:=TT.c
def qM:=fun c b p ok hc hb h1 h2=>TT.cs (aiO rQ rR KW KY c b p ok hc hb h1 h2)
def akD:=fun c b p ok hc hb h1 h2=>(qM c b p ok hc hb h1 h2).1
def akE:=fun c b p ok hc hb h1 h2=>(qM c b p ok hc hb h1 h2).2
def TU:=mk Tryz.func79 (hlC rT.ok (hlC K8.ok (hlC Ii.ok (hlC lW.ok (hlC Lg.ok (hlC Tw.ok (hlC TT.ok hlN))))))) (ahG (std 0) bV pQ jl bE pR G9 Hg)
noncomputable def Ho:=TU.c
def vL:=fun n b p hb h1 h2=>TU.cs (aiR yH yI aaT aaU SX SY rQ rR aa2 aa3 ajI ajJ akD akE n b p hb h1 h2)
def akF:=fun n b p hb h1 h2=>(vL n b p hb h1 h2).1
def akG:=fun n b p hb h1 h2=>(vL n b p hb h1 h2).2
end Go.TX.F
namespace Go.TX.F
open Go Go.AE Go.TX Go.TX.Seat Go.Proofs
set_option maxRecDepth 100000
def TW:=mk Tryz.func36 (hlC Lh.ok (hlC TU.ok hlN)) (ahH (std 0) Hl Ho)
noncomputable def Hq:=TW.c
def nQ:=fun c hc hl=>TW.cs (aiS ajK ajL akF akG c hc hl)
def akH:=fun c hc hl=>(nQ c hc hl).1
def akI:=fun c hc hl=>(nQ c hc hl).2
def aek:=mk Tryz.func9 (hlC abK.ok (hlC abL.ok (hlC aa7.ok (hlC TW.ok (hlC rT.ok hlN))))) (an0 (std 0) Ov Ow Ox Hq bV)
def qN:=fun c hc=>aek.cs (ao4 ap9 aqa aqb aqc apb apc akH akI yH yI c hc)
def aqd:=fun c hc=>(qN c hc).1
def aqe:=fun c hc=>(qN c hc).2
end Go.TX.F
namespace Go.Proofs.YtkecklmejhogoaaGreat
open Go.ChangeShapes Go.WideShapes Go.ChangeAt Go.RowKit
theorem arO:ownKnob Tryz.prog.godebug=Option.none:=by kernel_rfl
theorem aqf:laidOutB Tryz.prog=true:=by kernel_rfl
theorem akJ:Tryz.prog.cellsOf 5=1:=by kernel_rfl
set_option maxRecDepth 100000 in
theorem lifted (os:Os) (started:os.Started) (H:Type) (enc:TypeId×Value→H):
  ReturnsInHanded {} Tryz.checked os 9 .any (Rows.fnChkSelfSpec.pre6 enc Tryz.prog Tryz.f9 Rows.fnChkSelfRow.domain false) (Rows.fnChkSelfSpec.post enc Tryz.prog Tryz.f9 false true false false):=by
 refine returnsInHanded_of_change (C:=Tryz.checked) arO started (by kernel_rfl) Tryz.func9
  (ChangeSpec.witness6 (enc:=enc) (C:=Tryz.checked) false ⟨#[], #[.slice none 0 0],[]⟩ 8 (by kernel_rfl) (by kernel_rfl) (by kernel_rfl) (by kernel_rfl)) ?_
 intro W base args ds gs before hval0 hW _ _
 have hval:∀(j:Nat) t v,Tryz.f9.params[j]? =some t→args[j]? =some v→Value.okWide Tryz.prog W .any base t v:=hval0
 have hW':=hW
 obtain⟨p,q,hA0,hV,rfl,_,_⟩:=hW
 have hA:DataW.TrodAll enc Tryz.prog W 0 (fun _=>true) true Tryz.f9.params.toList args.toList ds p:=hA0
 rw [Tryz.params9]at hA hval
 obtain⟨v0,d0,rfl,rfl,h0⟩:=trodAll_one hA
 obtain⟨rfl,rfl⟩:=trodVars_none hV
 clear hA0 hval0
 simp only [List.append_nil]at hW'
 have hlt:∀x∈p,x.block<W.heap.size:=fun x hx=>by simpa using hW'.lt x hx
 obtain⟨xs,hr,hb⟩:=Go.TX.aaJ Tryz.underlying22 Tryz.underlying5 akJ (hval 0 22 v0 rfl rfl) h0 hlt
 have hp:=Go.TX.F.aqd xs hb
 have hq:=Go.TX.F.aqe xs hb
 refine(Go.TX.arL Go.TX.F.aek.ok hr (fun g d h=>by cases h) hp).mono fun e W' ⟨he,hw⟩=> ?_
 have he:e= .returned (.bool true):=he.trans (congrArg (fun z:Bool×Unit=>Ending.returned (.bool z.1)) hq)
 refine⟨_,he,[d0],[],p,[],p,[],hW',trodAll_mk1 (shut_bool Tryz.underlying4 true),?_,rfl,hw.frame _,fun h=>by cases h⟩
 exact trodAll_mk1 (Below.trod aqf (by kernel_rfl) (of_decide_eq_true (by kernel_rfl)) h0 hw hlt)
theorem y1:Tryz.pinned.checked.prog.funcNamed Rows.fnChkSelfRow.func=some 9:=by kernel_rfl
theorem aS {a b:Bool} (h:a=true) (k:b=true):(a&&b)=true:=by rw [h,k];rfl
set_option maxHeartbeats 4000000 in
theorem y2:joinedFacts Tryz.pinned.checked.prog 9 Tryz.f9 Rows.fnChkSelfSpec Rows.fnChkSelfRow=true:=by
 unfold joinedFacts
 repeat' with_reducible apply aS
 all_goals (as_aux_lemma=>kernel_rfl)
theorem y3:Func.isWrapper Tryz.prog Tryz.f9 Rows.fnChkSelfRow.wrapper Rows.fnChkSelfRow.mainSum:=(by unfold Func.isWrapper;first | (rw [if_pos (by decide+kernel)];kernel_rfl) | (rw [if_neg (by decide+kernel)];exact⟨rfl,rfl⟩))
theorem x_holds:Rows.FnChkSelfSaid:=
 OpenClaim.holds_of_wide 9 Tryz.f9 rfl rfl rfl rfl rfl rfl rfl ⟨rfl,rfl,rfl,rfl,rfl⟩ rfl rfl rfl rfl rfl y1 Tryz.func9 y2
  (of_decide_eq_true (by kernel_rfl)) y3
  (fun os started H enc _=>lifted os started H enc)
end Go.Proofs.YtkecklmejhogoaaGreat
