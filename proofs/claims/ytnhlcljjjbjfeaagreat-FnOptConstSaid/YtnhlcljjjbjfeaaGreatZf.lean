/- For every input the law returns true, and the input reads as it did. No condition. -/
import Derived.Test.YtnhlcljjjbjfeaaGreatZe
import Derived.ChangeSlices
import Derived.ChangeSame
import Derived.JoinedOf
import Derived.JoinedAt
import Derived.Handed
import Derived.Below
import Derived.Carry
import Derived.OpenShut
import Derived.ChangeKeysEq
import Derived.Test.YtnhlcljjjbjfeaaGreatY
import Derived.Test.YtnhlcljjjbjfeaaGreatRows
set_option linter.all false
set_option linter.unusedSectionVars false
set_option linter.unusedVariables false
set_option linter.unusedSimpArgs false
namespace Go.TX.F
open Go Go.AE Go.TX
theorem ajc (i:Ins):FC (std 0) (i,()) (fun _=>True):=by
  dsimp only [FC,Alg.cl,Alg.cg,Alg.rb,Alg.bd,Alg.l1,Tup.q,Tup.o]
  simp (disch:=omega) only [RR]
theorem ajd {p1:Int×Int×Int×Unit→Bool} {f1:Int×Int×Int×Unit→Bool×Unit} (hp1:∀a b c,p1 (a,b,c,())=true) (hf1:∀a b c,f1 (a,b,c,())=(inB a b c,())) {p2:Ins×Unit→Bool} {f2:Ins×Unit→Bool×Unit} (hp2:∀i,p2 (i,())=true) (i:Ins):FD (std 0) p1 f1 p2 f2 (i,()) (fun _=>True):=by
  dsimp only [FD,Alg.cl,Alg.cg,Alg.rb,Alg.bd,Alg.l1,Tup.q,Tup.o]
  simp (disch:=omega) only [RR,hp1,hp2]
theorem aje (i:Int):FH (std 0) (i,()) (fun _=>True):=by
  dsimp only [FH,Alg.cl,Alg.cg,Alg.rb,Alg.bd,Alg.l1,Tup.q,Tup.o]
theorem ajf {p1:Int×Unit→Bool} {f1:Int×Unit→Bool×Unit} (hp1:∀i,p1 (i,())=true) {p2:Ins×Unit→Bool} {f2:Ins×Unit→Bool×Unit} (hp2:∀i,p2 (i,())=true) (i:Ins):FJ (std 0) p1 f1 p2 f2 (i,()) (fun _=>True):=by
  dsimp only [FJ,Alg.cl,Alg.cg,Alg.rb,Alg.bd,Alg.l1,Tup.q,Tup.o]
  simp (disch:=omega) only [RR,hp1,hp2]
theorem ajg {p1:Int×Unit→Bool} {f1:Int×Unit→Bool×Unit} (hp1:∀i,p1 (i,())=true) {p2:Ins×Unit→Bool} {f2:Ins×Unit→Bool×Unit} (hp2:∀i,p2 (i,())=true) {p3:Int×Int×Int×Unit→Bool} {f3:Int×Int×Int×Unit→Bool×Unit} (hp3:∀a b c,p3 (a,b,c,())=true) (hf3:∀a b c,f3 (a,b,c,())=(inB a b c,())) {p4:Ins×Unit→Bool} {f4:Ins×Unit→Bool×Unit} (hp4:∀i,p4 (i,())=true) (pc:Int) (l:List Ins) (hl:(l.length:Int)<1000):FN (std 0) p1 f1 p2 f2 p3 f3 p4 f4 (pc,l,()) (fun _=>True):=by
  dsimp only [FN,Alg.cl,Alg.cg,Alg.rb,Alg.bd,Alg.l1,Tup.q,Tup.o]
  simp (disch:=omega) only [RR,hp1,hp2,hp3,hp4]
  refine fun _=> ?_
  refine aA (fun(y:List Ins×Int×Unit)=>y.1=l∧0≤y.2.1) (fun y=>((l.length:Int)-y.2.1).toNat) ⟨rfl,by simp⟩ ?_
  rintro⟨(l':List Ins),(j:Int),⟨⟩⟩ hI
  dsimp only at hI ⊢
  obtain⟨rfl,h1⟩:=hI
  simp (disch:=omega) only [RR,hp1,hp2,hp3,hp4,or_true]
  refine fun h=>⟨h1,h,by omega,by omega,by omega,by omega,fun _=> ?_⟩
  rw [w64 (by omega) (by omega)];constructor<;>omega
theorem YT (a1 a2 a3 a4 a5 a6:Int) (o:IOp) (ops:List IOp) (hl:(ops.length:Int)<1000000):FP (std 0) (a1,a2,a3,a4,a5,a6,o,ops,()) (fun y=>(y.2.2.2.2.2.2.2.1.length:Int)=ops.length+1):=by
  dsimp only [FP,Alg.cl,Alg.cg,Alg.rb,Alg.bd,Alg.l1,Tup.q,Tup.o]
  simp (disch:=omega) only [RR,List.length_append,List.length_cons,List.length_nil]
  omega
theorem YU {p1:Int×Int×Int×Int×Int×Int×IOp×List IOp×Unit→Bool} {f1:Int×Int×Int×Int×Int×Int×IOp×List IOp×Unit→Int×Int×Int×Int×Int×Int×Int×List IOp×Unit} (hp1:∀a1 a2 a3 a4 a5 a6 o ops,(ops.length:Int)<1000000→p1 (a1,a2,a3,a4,a5,a6,o,ops,())=true) (hf1:∀a1 a2 a3 a4 a5 a6 o ops,(ops.length:Int)<1000000→((f1 (a1,a2,a3,a4,a5,a6,o,ops,())).2.2.2.2.2.2.2.1.length:Int)=ops.length+1) (a1 a2 a3 a4 a5 a6:Int) (k:Int) (ops:List IOp) (hl:(ops.length:Int)<1000000):FR (std 0) p1 f1 (a1,a2,a3,a4,a5,a6,k,ops,()) (fun y=>(y.2.2.2.2.2.2.2.1.length:Int)=ops.length+1):=by
  dsimp only [FR,Alg.cl,Alg.cg,Alg.rb,Alg.bd,Alg.l1,Tup.q,Tup.o]
  simp (disch:=omega) only [RR,hp1,hf1]
theorem YV {p1:Int×Int×Int×Int×Int×Int×IOp×List IOp×Unit→Bool} {f1:Int×Int×Int×Int×Int×Int×IOp×List IOp×Unit→Int×Int×Int×Int×Int×Int×Int×List IOp×Unit} (hp1:∀a1 a2 a3 a4 a5 a6 o ops,(ops.length:Int)<1000000→p1 (a1,a2,a3,a4,a5,a6,o,ops,())=true) (hf1:∀a1 a2 a3 a4 a5 a6 o ops,(ops.length:Int)<1000000→((f1 (a1,a2,a3,a4,a5,a6,o,ops,())).2.2.2.2.2.2.2.1.length:Int)=ops.length+1) (a1 a2 a3 a4 a5 a6:Int) (k x:Int) (ops:List IOp) (hl:(ops.length:Int)<1000000):FQ (std 0) p1 f1 (a1,a2,a3,a4,a5,a6,k,x,ops,()) (fun y=>(y.2.2.2.2.2.2.1.length:Int)=ops.length+1):=by
  dsimp only [FQ,Alg.cl,Alg.cg,Alg.rb,Alg.bd,Alg.l1,Tup.q,Tup.o]
  simp (disch:=omega) only [RR,hp1,hf1]
theorem YW {p1:Int×Int×Int×Int×Int×Int×Int×List IOp×Unit→Bool} {f1:Int×Int×Int×Int×Int×Int×Int×List IOp×Unit→Int×Int×Int×Int×Int×Int×Int×List IOp×Unit} (hp1:∀a1 a2 a3 a4 a5 a6 k ops,(ops.length:Int)<1000000→p1 (a1,a2,a3,a4,a5,a6,k,ops,())=true) (hf1:∀a1 a2 a3 a4 a5 a6 k ops,(ops.length:Int)<1000000→((f1 (a1,a2,a3,a4,a5,a6,k,ops,())).2.2.2.2.2.2.2.1.length:Int)=ops.length+1) {p2:Int×Int×Int×Int×Int×Int×IOp×List IOp×Unit→Bool} {f2:Int×Int×Int×Int×Int×Int×IOp×List IOp×Unit→Int×Int×Int×Int×Int×Int×Int×List IOp×Unit} (hp2:∀a1 a2 a3 a4 a5 a6 o ops,(ops.length:Int)<1000000→p2 (a1,a2,a3,a4,a5,a6,o,ops,())=true) (hf2:∀a1 a2 a3 a4 a5 a6 o ops,(ops.length:Int)<1000000→((f2 (a1,a2,a3,a4,a5,a6,o,ops,())).2.2.2.2.2.2.2.1.length:Int)=ops.length+1) (a1 a2 a3 a4 a5 a6:Int) (k a:Int) (o:IOp) (ops:List IOp) (hl:(ops.length:Int)<999000):FT (std 0) p1 f1 p2 f2 (a1,a2,a3,a4,a5,a6,k,a,o,ops,()) (fun y=>(y.2.2.2.2.2.2.2.1.length:Int)=ops.length+3):=by
  dsimp only [FT,Alg.cl,Alg.cg,Alg.rb,Alg.bd,Alg.l1,Tup.q,Tup.o]
  simp (disch:=(first | omega | (simp (disch:=(first | omega | (simp (disch:=(first | omega | (simp (disch:=omega) only [hf1,hf2];omega))) only [hf1,hf2];omega))) only [hf1,hf2];omega))) only [RR,hp1,hp2,hf1,hf2]
  omega
theorem YX {p1:Int×Int×Int×Int×Int×Int×Int×List IOp×Unit→Bool} {f1:Int×Int×Int×Int×Int×Int×Int×List IOp×Unit→Int×Int×Int×Int×Int×Int×Int×List IOp×Unit} (hp1:∀a1 a2 a3 a4 a5 a6 k ops,(ops.length:Int)<1000000→p1 (a1,a2,a3,a4,a5,a6,k,ops,())=true) (hf1:∀a1 a2 a3 a4 a5 a6 k ops,(ops.length:Int)<1000000→((f1 (a1,a2,a3,a4,a5,a6,k,ops,())).2.2.2.2.2.2.2.1.length:Int)=ops.length+1) {p2:Int×Int×Int×Int×Int×Int×IOp×List IOp×Unit→Bool} {f2:Int×Int×Int×Int×Int×Int×IOp×List IOp×Unit→Int×Int×Int×Int×Int×Int×Int×List IOp×Unit} (hp2:∀a1 a2 a3 a4 a5 a6 o ops,(ops.length:Int)<1000000→p2 (a1,a2,a3,a4,a5,a6,o,ops,())=true) (hf2:∀a1 a2 a3 a4 a5 a6 o ops,(ops.length:Int)<1000000→((f2 (a1,a2,a3,a4,a5,a6,o,ops,())).2.2.2.2.2.2.2.1.length:Int)=ops.length+1) {p3:Int×Int×Int×Int×Int×Int×Int×Int×IOp×List IOp×Unit→Bool} {f3:Int×Int×Int×Int×Int×Int×Int×Int×IOp×List IOp×Unit→Int×Int×Int×Int×Int×Int×Int×List IOp×Unit} (hp3:∀a1 a2 a3 a4 a5 a6 k a o ops,(ops.length:Int)<999000→p3 (a1,a2,a3,a4,a5,a6,k,a,o,ops,())=true) (hf3:∀a1 a2 a3 a4 a5 a6 k a o ops,(ops.length:Int)<999000→((f3 (a1,a2,a3,a4,a5,a6,k,a,o,ops,())).2.2.2.2.2.2.2.1.length:Int)=ops.length+3) {p4:Int×Int×Int×Int×Int×Int×Int×Int×List IOp×Unit→Bool} {f4:Int×Int×Int×Int×Int×Int×Int×Int×List IOp×Unit→Int×Int×Int×Int×Int×Int×List IOp×Unit} (hp4:∀a1 a2 a3 a4 a5 a6 k x ops,(ops.length:Int)<1000000→p4 (a1,a2,a3,a4,a5,a6,k,x,ops,())=true) (hf4:∀a1 a2 a3 a4 a5 a6 k x ops,(ops.length:Int)<1000000→((f4 (a1,a2,a3,a4,a5,a6,k,x,ops,())).2.2.2.2.2.2.1.length:Int)=ops.length+1) (a1 a2 a3 a4 a5 a6:Int) (i:Ins) (k:Int) (ops:List IOp) (hl:(ops.length:Int)<998000):FV (std 0) p1 f1 p2 f2 p3 f3 p4 f4 (a1,a2,a3,a4,a5,a6,i,k,ops,()) (fun y=>(y.2.2.2.2.2.2.1.length:Int)=ops.length+5):=by
  dsimp only [FV,Alg.cl,Alg.cg,Alg.rb,Alg.bd,Alg.l1,Tup.q,Tup.o]
  simp (disch:=(first | omega | (simp (disch:=(first | omega | (simp (disch:=(first | omega | (simp (disch:=omega) only [hf1,hf2,hf3,hf4];omega))) only [hf1,hf2,hf3,hf4];omega))) only [hf1,hf2,hf3,hf4];omega))) only [RR,hp1,hp2,hp3,hp4,hf1,hf2,hf3,hf4]
  constructor<;>intro _<;>omega
theorem YZ {p1:Int×Int×Int×Int×Int×Int×Int×List IOp×Unit→Bool} {f1:Int×Int×Int×Int×Int×Int×Int×List IOp×Unit→Int×Int×Int×Int×Int×Int×Int×List IOp×Unit} (hp1:∀a1 a2 a3 a4 a5 a6 k ops,(ops.length:Int)<1000000→p1 (a1,a2,a3,a4,a5,a6,k,ops,())=true) (hf1:∀a1 a2 a3 a4 a5 a6 k ops,(ops.length:Int)<1000000→((f1 (a1,a2,a3,a4,a5,a6,k,ops,())).2.2.2.2.2.2.2.1.length:Int)=ops.length+1) (a1 a2 a3 a4 a5 a6:Int) (i:Ins) (ops:List IOp) (hl:(ops.length:Int)<999000):FW (std 0) p1 f1 (a1,a2,a3,a4,a5,a6,i,ops,()) (fun y=>(y.2.2.2.2.2.2.1.length:Int)≤ops.length+5):=by
  dsimp only [FW,Alg.cl,Alg.cg,Alg.rb,Alg.bd,Alg.l1,Tup.q,Tup.o]
  simp (disch:=(first | omega | (simp (disch:=(first | omega | (simp (disch:=(first | omega | (simp (disch:=omega) only [hf1];omega))) only [hf1];omega))) only [hf1];omega))) only [RR,hp1,hf1]
  refine⟨fun _=>by omega,fun _=>⟨fun _=>by omega,fun _=>by omega⟩⟩
theorem ajh (k:Int) (hk:k<1000):FU (std 0) (k,()) (fun _=>True):=by
  dsimp only [FU,Alg.cl,Alg.cg,Alg.rb,Alg.bd,Alg.l1,Tup.q,Tup.o]
  simp (disch:=omega) only [RR]
  refine aA (fun(y:Int×Int×Int×Unit)=>y.1=k∧0≤y.2.2.1) (fun y=>(k-y.2.2.1).toNat) ⟨rfl,by simp⟩ ?_
  rintro⟨(k':Int),(z:Int),(j:Int),⟨⟩⟩ hI
  dsimp only at hI ⊢
  obtain⟨rfl,h1⟩:=hI
  simp (disch:=omega) only [RR]
  refine fun h=> ?_
  rw [w64 (by omega) (by omega)];constructor<;>omega
theorem Y0 {p1:Int×Int×Int×Int×Int×Int×Int×List IOp×Unit→Bool} {f1:Int×Int×Int×Int×Int×Int×Int×List IOp×Unit→Int×Int×Int×Int×Int×Int×Int×List IOp×Unit} (hp1:∀a1 a2 a3 a4 a5 a6 k ops,(ops.length:Int)<1000000→p1 (a1,a2,a3,a4,a5,a6,k,ops,())=true) (hf1:∀a1 a2 a3 a4 a5 a6 k ops,(ops.length:Int)<1000000→((f1 (a1,a2,a3,a4,a5,a6,k,ops,())).2.2.2.2.2.2.2.1.length:Int)=ops.length+1) {p2:Int×Int×Int×Int×Int×Int×Ins×List IOp×Unit→Bool} {f2:Int×Int×Int×Int×Int×Int×Ins×List IOp×Unit→Int×Int×Int×Int×Int×Int×List IOp×Unit} (hp2:∀a1 a2 a3 a4 a5 a6 i ops,(ops.length:Int)<999000→p2 (a1,a2,a3,a4,a5,a6,i,ops,())=true) (hf2:∀a1 a2 a3 a4 a5 a6 i ops,(ops.length:Int)<999000→((f2 (a1,a2,a3,a4,a5,a6,i,ops,())).2.2.2.2.2.2.1.length:Int)≤ops.length+5) {p3:Int×Int×Int×Int×Int×Int×IOp×List IOp×Unit→Bool} {f3:Int×Int×Int×Int×Int×Int×IOp×List IOp×Unit→Int×Int×Int×Int×Int×Int×Int×List IOp×Unit} (hp3:∀a1 a2 a3 a4 a5 a6 o ops,(ops.length:Int)<1000000→p3 (a1,a2,a3,a4,a5,a6,o,ops,())=true) (hf3:∀a1 a2 a3 a4 a5 a6 o ops,(ops.length:Int)<1000000→((f3 (a1,a2,a3,a4,a5,a6,o,ops,())).2.2.2.2.2.2.2.1.length:Int)=ops.length+1) {p4:Int×Int×Int×Int×Int×Int×Ins×Int×List IOp×Unit→Bool} {f4:Int×Int×Int×Int×Int×Int×Ins×Int×List IOp×Unit→Int×Int×Int×Int×Int×Int×List IOp×Unit} (hp4:∀a1 a2 a3 a4 a5 a6 i k ops,(ops.length:Int)<998000→p4 (a1,a2,a3,a4,a5,a6,i,k,ops,())=true) (hf4:∀a1 a2 a3 a4 a5 a6 i k ops,(ops.length:Int)<998000→((f4 (a1,a2,a3,a4,a5,a6,i,k,ops,())).2.2.2.2.2.2.1.length:Int)=ops.length+5) {p5:Int×Int×Int×Int×Int×Int×Int×Int×IOp×List IOp×Unit→Bool} {f5:Int×Int×Int×Int×Int×Int×Int×Int×IOp×List IOp×Unit→Int×Int×Int×Int×Int×Int×Int×List IOp×Unit} (hp5:∀a1 a2 a3 a4 a5 a6 k a o ops,(ops.length:Int)<999000→p5 (a1,a2,a3,a4,a5,a6,k,a,o,ops,())=true) (hf5:∀a1 a2 a3 a4 a5 a6 k a o ops,(ops.length:Int)<999000→((f5 (a1,a2,a3,a4,a5,a6,k,a,o,ops,())).2.2.2.2.2.2.2.1.length:Int)=ops.length+3) {p6:Int×Int×Int×Int×Int×Int×Int×Int×List IOp×Unit→Bool} {f6:Int×Int×Int×Int×Int×Int×Int×Int×List IOp×Unit→Int×Int×Int×Int×Int×Int×List IOp×Unit} (hp6:∀a1 a2 a3 a4 a5 a6 k x ops,(ops.length:Int)<1000000→p6 (a1,a2,a3,a4,a5,a6,k,x,ops,())=true) (hf6:∀a1 a2 a3 a4 a5 a6 k x ops,(ops.length:Int)<1000000→((f6 (a1,a2,a3,a4,a5,a6,k,x,ops,())).2.2.2.2.2.2.1.length:Int)=ops.length+1) {p7:Int×Unit→Bool} {f7:Int×Unit→Int×Unit} (hp7:∀k,k<1000→p7 (k,())=true) (a1 a2 a3 a4 a5 a6:Int) (i:Ins) (k:Int) (ops:List IOp) (hk:i.k<1000) (hl:(ops.length:Int)<997000):FX (std 0) p1 f1 p2 f2 p3 f3 p4 f4 p5 f5 p6 f6 p7 f7 (a1,a2,a3,a4,a5,a6,i,k,ops,()) (fun y=>(y.2.2.2.2.2.2.1.length:Int)≤ops.length+5):=by
  have e4:=fun i k=>hf4 a1 a2 a3 a4 a5 a6 i k ops (by omega)
  have e2:=fun i=>hf2 a1 a2 a3 a4 a5 a6 i ops (by omega)
  dsimp only [FX,Alg.cl,Alg.cg,Alg.rb,Alg.bd,Alg.l1,Tup.q,Tup.o]
  simp (disch:=(first | omega | (simp (disch:=(first | omega | (simp (disch:=(first | omega | (simp (disch:=omega) only [hf1,hf3,hf5,RB];omega))) only [hf1,hf3,hf5,RB];omega))) only [hf1,hf3,hf5,RB];omega))) only [RR,RB,hp1,hp2,hp3,hp4,hp5,hp6,hp7,hf1,hf3,hf4,hf5,hf6]
  have:=e2 i
  repeat' (first | (refine⟨?_,?_⟩) | intro _)
  all_goals omega
def KB (l:List Ins):Prop:=∀i∈l,i.k<1000
theorem KB.at {l:List Ins} (h:KB l) (n:Nat):(l.getD n default).k<1000:=by
  by_cases h1:n<l.length
  · rw [getD_lt h1];exact h _ (List.getElem_mem _)
  · simp only [List.getD,List.getElem?_eq_none (by omega:l.length≤n)];decide
theorem Y1 {p1:Int×List Ins×Unit→Bool} {f1:Int×List Ins×Unit→Bool×Unit} (hp1:∀pc l,(l.length:Int)<1000→p1 (pc,l,())=true) {p2:Int×Int×Int×Int×Int×Int×Ins×Int×List IOp×Unit→Bool} {f2:Int×Int×Int×Int×Int×Int×Ins×Int×List IOp×Unit→Int×Int×Int×Int×Int×Int×List IOp×Unit} (hp2:∀a1 a2 a3 a4 a5 a6 i k ops,i.k<1000→(ops.length:Int)<997000→p2 (a1,a2,a3,a4,a5,a6,i,k,ops,())=true) (hf2:∀a1 a2 a3 a4 a5 a6 i k ops,i.k<1000→(ops.length:Int)<997000→((f2 (a1,a2,a3,a4,a5,a6,i,k,ops,())).2.2.2.2.2.2.1.length:Int)≤ops.length+5) (pc:Int) (l:List Ins) (hl:(l.length:Int)<1000) (hk:KB l):FY (std 0) p1 f1 p2 f2 (pc,l,()) (fun y=>(y.2.2.2.2.2.2.1.length:Int)≤5000):=by
  dsimp only [FY,Alg.cl,Alg.cg,Alg.rb,Alg.bd,Alg.l1,Tup.q,Tup.o]
  simp (disch:=omega) only [RR,hp1,List.length_nil]
  refine⟨fun _=>by omega,fun _=> ?_⟩
  refine aA (fun(y:List Ins×Int×Int×Int×Int×Int×Int×Int×Int×Int×Int×Int×Int×Int×List IOp×Unit)=>y.1=l∧0≤y.2.1∧y.2.1≤l.length∧(y.2.2.2.2.2.2.2.2.2.2.2.2.2.2.1.length:Int)≤5*y.2.1) (fun y=>((l.length:Int)-y.2.1).toNat) ⟨rfl,by simp,by simp,by simp⟩ ?_
  rintro⟨(l':List Ins),(j:Int),u1,u2,u3,u4,u5,u6,b1,b2,b3,b4,b5,b6,(ops:List IOp),⟨⟩⟩ hI
  dsimp only at hI ⊢
  obtain⟨rfl,h1,h2,h3⟩:=hI
  have hk':=hk.at j.toNat
  simp (disch:=omega) only [RR,hp2]
  refine⟨fun h=> ?_,fun h=>by omega⟩
  have:=hf2 b1 b2 b3 b4 b5 b6 ((l').getD (j).toNat default) j ops hk' (by omega)
  exact⟨h1,h,⟨by omega,by omega,by omega⟩,by omega⟩
end Go.TX.F
namespace Go.TX.F
open Go Go.AE Go.TX
structure InD (m:Int) (b:List Int) (p:Int) (y:Int×Int×Int×Int×List Int×Int×Unit):Prop where
  b:y.2.2.2.2.1=b
  lo:p≤y.2.2.2.2.2.1
  hi:y.2.2.2.2.2.1≤p+m
  k:0≤y.2.2.2.1∧y.2.2.2.1≤255
@[reducible] def aji : List Int → Prop
  | []=>True
  | x::l=>(0≤x∧x≤255)∧aji l
theorem OO:∀(l:List Int) (n:Nat),aji l→0≤l.getD n default∧l.getD n default≤255
  | [],n,_=>by simp only [List.getD_nil];decide
  | x::l,0,h=>h.1
  | x::l,n+1,h=>OO l n h.2
theorem pkR {f1:Int×List Int×Int×Unit→Int×List Int×Int×Unit} {b:List Int} (hb:Bt b) (hf1:∀n b p,Bt b→0≤p→p<1000000000→Pk n b p (f1 (n,b,p,()))):
    (∀n p,0≤p→p<1000000000→(f1 (n,b,p,())).2.1=b)∧(∀n p,0≤p→p<1000000000→(f1 (n,b,p,())).2.2.1=p+1)∧
    (∀n p,0≤p→p<1000000000→(0≤(f1 (n,b,p,())).1)=True)∧(∀n p k,0≤p→p<1000000000→n≤k→0<k→((f1 (n,b,p,())).1<k)=True)∧
    (∀n p k,0≤p→p<1000000000→n≤k+1→0≤k→((f1 (n,b,p,())).1≤k)=True):=
  ⟨fun n p h1 h2=>(hf1 n b p hb h1 h2).1,fun n p h1 h2=>(hf1 n b p hb h1 h2).2.1,fun n p h1 h2=>eq_true (hf1 n b p hb h1 h2).2.2.1,
    fun n p k h1 h2 h3 h4=>eq_true (by have:=(hf1 n b p hb h1 h2).2.2;omega),fun n p k h1 h2 h3 h4=>eq_true (by have:=(hf1 n b p hb h1 h2).2.2;omega)⟩
theorem Y2 {p1:Int×List Int×Int×Unit→Bool} {f1:Int×List Int×Int×Unit→Int×List Int×Int×Unit} (hp1:∀n b p,Bt b→0≤p→p<1000000000→p1 (n,b,p,())=true) (hf1:∀n b p,Bt b→0≤p→p<1000000000→Pk n b p (f1 (n,b,p,()))) (b:List Int) (p:Int) (hb:Bt b) (h1:0≤p) (h2:p<900000000):FB (std 0) p1 f1 (b,p,()) (fun y=>InD 20 b p y):=by
  have R:=pkR hb hf1
  have P:=fun n p h1 h2=>hp1 n b p hb h1 h2
  dsimp only [FB,Alg.cl,Alg.cg,Alg.rb,Alg.bd,Alg.l1,Tup.q,Tup.o]
  simp (disch:=omega) only [RR,R,P,List.length_cons,List.length_nil]
  repeat' (first | (refine⟨?_,?_⟩) | intro _)
  all_goals try omega
  all_goals refine⟨rfl,by dsimp only;omega,by dsimp only;omega,?_⟩
  all_goals dsimp only
  all_goals first | omega | (refine OO _ _ ?_;simp (disch:=omega) only [aji,R,Int.reduceLE,and_self,true_and,and_true]) | (simp (disch:=omega) only [R,Int.reduceLE,and_self,true_and,and_true])
theorem Y3 {p1:List Int×Int×Unit→Bool} {f1:List Int×Int×Unit→Int×Int×Int×Int×List Int×Int×Unit} (hp1:∀b p,Bt b→0≤p→p<900000000→p1 (b,p,())=true) (hf1:∀b p,Bt b→0≤p→p<900000000→InD 20 b p (f1 (b,p,()))) {p2:Int×List Int×Int×Unit→Bool} {f2:Int×List Int×Int×Unit→Int×List Int×Int×Unit} (hp2:∀n b p,Bt b→0≤p→p<1000000000→p2 (n,b,p,())=true) (hf2:∀n b p,Bt b→0≤p→p<1000000000→Pk n b p (f2 (n,b,p,()))) {p3:Ins×Unit→Bool} {f3:Ins×Unit→Bool×Unit} (hp3:∀i,p3 (i,())=true) (b:List Int) (p:Int) (hb:Bt b) (h1:0≤p) (h2:p<800000000):FK (std 0) p1 f1 p2 f2 p3 f3 (b,p,()) (fun y=>InD 30 b p y):=by
  obtain⟨a1,a2,a3,a4⟩:=hf1 b p hb h1 (by omega)
  have R:=pkR hb hf2
  have P:=fun n p h1 h2=>hp2 n b p hb h1 h2
  dsimp only [FK,Alg.cl,Alg.cg,Alg.rb,Alg.bd,Alg.l1,Tup.q,Tup.o]
  simp (disch:=omega) only [RR,hp1 b p hb h1 (by omega),hp3,a1,R,P]
  refine⟨fun _=>⟨rfl,by dsimp only;omega,by dsimp only;omega,?_⟩,fun _=>⟨rfl,a2,by dsimp only;omega,a4⟩⟩
  dsimp only
  simp (disch:=omega) only [R,Int.reduceLE,and_self]
structure LiD (b:List Int) (p:Int) (y:List Int×Int×List Ins×Unit):Prop where
  b:y.1=b
  lo:p≤y.2.1
  hi:y.2.1≤p+1000
  len:(y.2.2.1.length:Int)≤20
  k:KB y.2.2.1
theorem KB.app {l:List Ins} {i:Ins} (h:KB l) (h2:i.k≤255):KB (l++ [i]):=fun x hx=>by
  rw [List.mem_append,List.mem_singleton]at hx
  rcases hx with hx | rfl
  · exact h x hx
  · omega
theorem Y4 {p1:List Int×Int×Unit→Bool} {f1:List Int×Int×Unit→Int×Int×Int×Int×List Int×Int×Unit} (hp1:∀b p,Bt b→0≤p→p<800000000→p1 (b,p,())=true) (hf1:∀b p,Bt b→0≤p→p<800000000→InD 30 b p (f1 (b,p,()))) {p2:Int×List Int×Int×Unit→Bool} {f2:Int×List Int×Int×Unit→Int×List Int×Int×Unit} (hp2:∀n b p,Bt b→0≤p→p<1000000000→p2 (n,b,p,())=true) (hf2:∀n b p,Bt b→0≤p→p<1000000000→Pk n b p (f2 (n,b,p,()))) (b:List Int) (p:Int) (hb:Bt b) (h1:0≤p) (h2:p<700000000):FL (std 0) p1 f1 p2 f2 (b,p,()) (fun y=>LiD b p y):=by
  obtain⟨e1,e2,e3,e4⟩:=hf2 8 b p hb h1 (by omega)
  dsimp only [FL,Alg.cl,Alg.cg,Alg.rb,Alg.bd,Alg.l1,Tup.q,Tup.o]
  simp (disch:=omega) only [RR,hp2 8 b p hb h1 (by omega),e1,e2]
  refine aA (fun(y:Int×List Int×Int×List Ins×Unit)=>0≤y.1∧y.1≤8∧y.2.1=b∧p≤y.2.2.1∧y.2.2.1+40*y.1≤p+400∧(y.2.2.2.1.length:Int)+y.1≤8∧KB y.2.2.2.1) (fun y=>y.1.toNat)
    ⟨e3,by dsimp only;omega,rfl,by dsimp only;omega,by dsimp only;omega,by dsimp only [List.length_nil];omega,fun x hx=>by cases hx⟩ ?_
  rintro⟨(k:Int),(b':List Int),(q:Int),(l:List Ins),⟨⟩⟩ hI
  dsimp only at hI ⊢
  obtain⟨k1,k2,rfl,k3,k4,k5,k6⟩:=hI
  have R:=pkR hb hf2
  have P:=fun n p h1 h2=>hp2 n b' p hb h1 h2
  obtain⟨a1,a2,a3,a4⟩:=hf1 b' q hb (by omega) (by omega)
  obtain⟨b1,b2,b3,b4⟩:=hf1 b' (q+1) hb (by omega) (by omega)
  simp (disch:=omega) only [RR,RB,hp1 b' q hb (by omega) (by omega),hp1 b' (q+1) hb (by omega) (by omega),a1,b1,R,P,List.length_cons,List.length_nil,List.length_append]
  refine⟨fun c=>⟨by omega,⟨by omega,by omega,by omega,by omega,by omega,k6.app a4.2⟩,by omega⟩,fun c=>⟨fun _=>⟨by omega,rfl,by dsimp only;omega,by dsimp only;omega,?_,?_⟩,fun _=>⟨fun _=>⟨by omega,rfl,by dsimp only;omega,by dsimp only;omega,?_,?_⟩,fun _=>⟨by omega,rfl,by dsimp only;omega,by dsimp only;omega,?_,?_⟩⟩⟩⟩
  · dsimp only;rw [List.length_append];simp only [List.length_cons,List.length_nil];omega
  · refine k6.app ?_
    dsimp only
    simp (disch:=omega) only [R]
  · dsimp only;rw [List.length_append];simp only [List.length_cons,List.length_nil];omega
  · exact k6.app (by dsimp only;omega)
  · dsimp only;rw [List.length_append];simp only [List.length_cons,List.length_nil];omega
  · exact k6.app b4.2
end Go.TX.F
namespace Go.TX.F
open Go Go.AE Go.TX
theorem Y5 (b:Blk) (hb:b.ops.length<1000000):EY (std 0) (b,()) (fun y=>y=(b.pc,b.len,b.fin,b.x,b.y,b.k,b.ops,())):=by
  dsimp only [EY,Alg.cl,Alg.cg,Alg.rb,Alg.bd,Alg.l1,Tup.q,Tup.o]
  simp (disch:=omega) only [RR,RB,List.nil_append,List.length_nil]
  omega
def kn (ops:List IOp) (k:Int):Int×Bool:=if 0≤k∧k<ops.length∧(((ops).getD (k).toNat default)).kind=1 then((((ops).getD (k).toNat default)).k,true)else(0,false)
@[reducible] def bk7 (b : Blk) : Int × Int × Int × Int × Int × Int × List IOp × Unit := (b.pc, b.len, b.fin, b.x, b.y, b.k, b.ops, ())
structure FE (b:Blk):Prop where
  f:1≤b.fin∧b.fin≤4
  x:b.fin≠1→0≤b.x∧b.x<b.ops.length
  y:3≤b.fin→0≤b.y∧b.y<b.ops.length
  y0:b.fin≤2→b.y=0
  p:0≤b.pc∧b.pc≤100∧0≤b.len∧b.len≤100
theorem Y6 (ops:List IOp) (k:Int):Fa (std 0) (ops,k,()) (fun y=>y=((kn ops k).1,(kn ops k).2,())):=by
  dsimp only [Fa,Alg.cl,Alg.cg,Alg.rb,Alg.bd,Alg.l1,Tup.q,Tup.o]
  simp (disch:=omega) only [RR,RB]
  unfold kn
  refine⟨by omega,by omega,fun h=> ?_,fun h=>⟨by omega,by omega,?_⟩⟩
  · rw [if_neg (by omega)]
  · rw [if_pos (by omega)]
theorem Y7 (b:Blk) (k:Int):Fb (std 0) (b,k,()) (fun y=>y=(b.pc,b.len,b.ops,1,0,0,k,())):=by
  dsimp only [Fb,Alg.cl,Alg.cg,Alg.rb,Alg.bd,Alg.l1,Tup.q,Tup.o]
  simp (disch:=omega) only [RR,RB]
theorem Y8 {p1:Blk×Int×Unit→Bool} {f1:Blk×Int×Unit→Int×Int×List IOp×Int×Int×Int×Int×Unit} (hp1:∀b k,p1 (b,k,())=true) (hf1:∀b k,f1 (b,k,())=(b.pc,b.len,b.ops,1,0,0,k,())) {p2:List IOp×Int×Unit→Bool} {f2:List IOp×Int×Unit→Int×Bool×Unit} (hp2:∀ops k,p2 (ops,k,())=true) (hf2:∀ops k,f2 (ops,k,())=((kn ops k).1,(kn ops k).2,())) (b:Blk) (h:FE b):Fe (std 0) p1 f1 p2 f2 (b,()) (fun y=>y=(fcB b b.ops,())):=by
  have hp:=h.p
  have hf:=h.f
  have k1:b.fin≠1→kn b.ops b.x=if(((b.ops).getD (b.x).toNat default)).kind=1 then((((b.ops).getD (b.x).toNat default)).k,true)else(0,false):=fun c=>by
    have:=h.x c
    unfold kn;simp only [this,true_and]
  have k2:3≤b.fin→kn b.ops b.y=if(((b.ops).getD (b.y).toNat default)).kind=1 then((((b.ops).getD (b.y).toNat default)).k,true)else(0,false):=fun c=>by
    have:=h.y c
    unfold kn;simp only [this,true_and]
  have y0:=h.y0
  have mkE:∀p l o f x y k,Co.mk .blk (p,l,o,f,x,y,k,())=Blk.mk p l o f x y k:=fun _ _ _ _ _ _ _=>rfl
  dsimp only [Fe,Alg.cl,Alg.cg,Alg.rb,Alg.bd,Alg.l1,Tup.q,Tup.o]
  simp (disch:=omega) only [RR,RB,hp1,hf1,hp2,hf2,mkE,Bool.and_eq_false_iff]
  by_cases c1:b.fin=1
  · have e:fcB b b.ops=b:=by unfold fcB;rw [if_neg (by omega),if_neg (by omega)]
    rw [e]
    refine⟨fun h=>absurd h.1 (by omega),fun _=>⟨fun h=>absurd h.1.1.1 (by omega),fun _=>⟨fun h=>absurd h.1.1.1 (by omega),fun _=>⟨fun h=>absurd h.1.1 (by omega),fun _=>rfl⟩⟩⟩⟩
  · rw [k1 c1]
    by_cases c2:b.fin=2
    · by_cases d:(((b.ops).getD (b.x).toNat default)).kind=1
      · have e:fcB b b.ops=⟨b.pc,b.len,b.ops,1,0,0,(((b.ops).getD (b.x).toNat default)).k⟩:=by unfold fcB;rw [if_pos ⟨c2,d⟩,y0 (by omega)]
        rw [if_pos d,e]
        refine⟨fun _=>rfl,fun h=> ?_⟩
        rcases h with h | h
        · exact absurd c2 h
        · cases h
      · have e:fcB b b.ops=b:=by unfold fcB;rw [if_neg (fun g=>d g.2),if_neg (by omega)]
        rw [if_neg d,e]
        refine⟨fun h=>absurd h.2 (by decide),fun _=>⟨fun h=>absurd h.1.1.1 (by omega),fun _=>⟨fun h=>absurd h.1.1.1 (by omega),fun _=>⟨fun h=>absurd h.1.1 (by omega),fun _=>rfl⟩⟩⟩⟩
    · rw [k2 (by omega)]
      refine⟨fun h=>absurd h.1 c2,fun _=> ?_⟩
      by_cases d:(((b.ops).getD (b.x).toNat default)).kind=1∧(((b.ops).getD (b.y).toNat default)).kind=1
      · have e:fcB b b.ops=⟨b.pc,b.len,b.ops,1,0,0,if b.fin=3∧(((b.ops).getD (b.x).toNat default)).k=(((b.ops).getD (b.y).toNat default)).k∨b.fin=4∧(((b.ops).getD (b.x).toNat default)).k< (((b.ops).getD (b.y).toNat default)).k then b.k else b.pc+b.len⟩:=by
          unfold fcB;rw [if_neg (by omega),if_pos ⟨by omega,d⟩]
        rw [if_pos d.1,if_pos d.2,e]
        dsimp only
        simp only [and_true,Bool.true_eq_false,or_false,Prod.mk.injEq,Blk.mk.injEq,true_and]
        refine⟨fun h=>⟨fun _=>by rw [if_pos (Or.inl h)],fun g=>by omega⟩,fun h=>⟨fun g=>by rw [if_pos (Or.inr g)],fun g=>⟨fun _=>by rw [if_neg (by omega)],fun q=>by omega⟩⟩⟩
      · have e:fcB b b.ops=b:=by unfold fcB;rw [if_neg (by omega),if_neg (fun g=>d g.2)]
        rw [e]
        have n:¬((if(((b.ops).getD (b.x).toNat default)).kind=1 then((((b.ops).getD (b.x).toNat default)).k,true)else((0:Int),false)).2=true∧(if(((b.ops).getD (b.y).toNat default)).kind=1 then((((b.ops).getD (b.y).toNat default)).k,true)else((0:Int),false)).2=true):=fun⟨g1,g2⟩=>by
          split at g1
          · split at g2
            · exact d ⟨by assumption,by assumption⟩
            · cases g2
          · cases g1
        exact⟨fun h=>absurd ⟨h.1.1.2,h.1.2⟩ n,fun _=>⟨fun h=>absurd ⟨h.1.1.2,h.1.2⟩ n,fun _=>⟨fun h=>absurd ⟨h.1.2,h.2⟩ n,fun _=>rfl⟩⟩⟩
theorem Y9 {p1:Int×Int×Int×Unit→Bool} {f1:Int×Int×Int×Unit→Bool×Unit} (hp1:∀a b c,p1 (a,b,c,())=true) (hf1:∀a b c,f1 (a,b,c,())=(inB a b c,())) (o:IOp) (al:List Int) (hk:1≤o.kind∧o.kind≤8) (hx:hX o→0≤o.x∧o.x< (al.length:Int)) (hy:hY o→0≤o.y∧o.y< (al.length:Int)):EZ (std 0) p1 f1 (o,al,()) (fun y=>y=(ren al o,())):=by
  dsimp only [EZ,Alg.cl,Alg.cg,Alg.rb,Alg.bd,Alg.l1,Tup.q,Tup.o]
  simp (disch:=omega) only [RR,RB,hp1,hf1,eu,tV]
  have X:((3≤o.kind∧o.kind≤5)∨o.kind=7)∨o.kind=8→hX o:=fun c=>by unfold hX;omega
  have Xn:(¬(3≤o.kind∧o.kind≤5)∧¬o.kind=7)∧¬o.kind=8→¬hX o:=fun c g=>by unfold hX at g;omega
  unfold ren
  refine⟨fun c=>⟨(hx (X c)).1,(hx (X c)).2,fun d=>⟨(hy d).1,(hy d).2,?_⟩,fun d=> ?_⟩,fun c=>⟨fun d=>⟨(hy d).1,(hy d).2,?_⟩,fun d=> ?_⟩⟩
  · rw [if_pos (X c),if_pos (show hY o from d)]
  · rw [if_pos (X c),if_neg (show¬hY o from fun g=>g.elim d.1 d.2)]
  · rw [if_neg (Xn c),if_pos (show hY o from d)]
  · rw [if_neg (Xn c),if_neg (show¬hY o from fun g=>g.elim d.1 d.2)]
theorem Za (ops:List IOp) (k:Int) (h0:0≤k) (h1:k<ops.length) (h2:(ops.length:Int)<1000000):Fp (std 0) (ops,k,()) (fun y=>y=(rE (ops.drop (k.toNat+1)) (((ops).getD (k).toNat default)).k,())):=by
  dsimp only [Fp,Alg.cl,Alg.cg,Alg.rb,Alg.bd,Alg.l1,Tup.q,Tup.o]
  simp (disch:=omega) only [RR,RB]
  refine aA (fun(y:List IOp×Int×Int×Unit)=>y.1=ops∧y.2.1=k∧0≤y.2.2.1∧y.2.2.1≤ops.length∧rE (ops.drop (k.toNat+1)) (((ops).getD (k).toNat default)).k=rE (ops.drop y.2.2.1.toNat) (((ops).getD (k).toNat default)).k) (fun y=>((ops.length:Int)-y.2.2.1).toNat) ⟨rfl,rfl,by dsimp only;omega,by dsimp only;omega,by dsimp only;rw [show(k+1).toNat=k.toNat+1 by omega]⟩ ?_
  rintro⟨(l:List IOp),(k':Int),(j:Int),⟨⟩⟩ hI
  dsimp only at hI ⊢
  obtain⟨rfl,rfl,h3,h4,h5⟩:=hI
  rw [h5]
  simp (disch:=omega) only [RR,RB,Bool.and_eq_false_iff]
  have st:j<l.length→rE (l.drop j.toNat) (((l).getD (k').toNat default)).k=if(((l).getD (j).toNat default)).kind=4∨(((l).getD (j).toNat default)).kind=5∨(((l).getD (j).toNat default)).kind=2∧(((l).getD (j).toNat default)).k=(((l).getD (k').toNat default)).k then false else if(((l).getD (j).toNat default)).kind=8∧(((l).getD (j).toNat default)).k=(((l).getD (k').toNat default)).k then true else rE (l.drop (j+1).toNat) (((l).getD (k').toNat default)).k:=fun h=>by
    rw [List.drop_eq_getElem_cons (show j.toNat<l.length by omega),QJ,←getD_lt (d:=default) (show j.toNat<l.length by omega),show(j+1).toNat=j.toNat+1 by omega]
  refine⟨fun h=>⟨h3,h,by omega,by omega,by omega,by omega,by omega,by omega,by omega,by omega,fun c=> ?_,fun c=>⟨h3,h,by omega,by omega,by omega,by omega,fun d=> ?_,fun d=>⟨⟨by omega,by omega,?_⟩,by omega⟩⟩⟩,fun h=> ?_⟩
  · rw [st h,if_pos (by omega)]
  · rw [st h,if_neg (by omega),if_pos (by omega)]
  · rw [st h,if_neg (by omega),if_neg (by omega)]
  · rw [List.drop_of_length_le (by omega)];rfl
theorem Zb {p1:Blk×Unit→Bool} {f1:Blk×Unit→Blk×Unit} (hp1:∀b,b.ops.length<1000000→p1 (b,())=true) (hf1:∀b,b.ops.length<1000000→f1 (b,())=(aP b,())) {p2:Blk×Unit→Bool} {f2:Blk×Unit→Int×Int×Int×Int×Int×Int×List IOp×Unit} (hp2:∀b,b.ops.length<1000000→p2 (b,())=true) (hf2:∀b,b.ops.length<1000000→f2 (b,())=bk7 (dz b)) {p3:Blk×Unit→Bool} {f3:Blk×Unit→Int×Int×Int×Int×Int×Int×List IOp×Unit} (hp3:∀b,b.ops.length<1000000→p3 (b,())=true) (hf3:∀b,b.ops.length<1000000→f3 (b,())=bk7 (kW b)) {p4:Blk×Unit→Bool} {f4:Blk×Unit→Int×Int×Int×Int×Int×Int×List IOp×Unit} (hp4:∀b,b.ops.length<1000000→p4 (b,())=true) (hf4:∀b,b.ops.length<1000000→f4 (b,())=bk7 (nW b)) (b:Blk) (hb:b.ops.length<1000000):Fx (std 0) p1 f1 p2 f2 p3 f3 p4 f4 (b,()) (fun y=>y=bk7 (QK b)):=by
  have m1:(dz b).ops.length<1000000:=Nat.lt_of_le_of_lt (sS b) hb
  have m2:=Nat.lt_of_le_of_lt (vC (dz b)) m1
  have m3:=Nat.lt_of_le_of_lt (yu (aP (dz b))) m2
  have m4:=Nat.lt_of_le_of_lt (GZ (kW (aP (dz b)))) m3
  have mkE:∀c:Blk,Co.mk .blk (c.pc,c.len,c.ops,c.fin,c.x,c.y,c.k,())=c:=fun _=>rfl
  dsimp only [Fx,Alg.cl,Alg.cg,Alg.rb,Alg.bd,Alg.l1,Tup.q,Tup.o]
  simp (disch:=omega) only [RR,hp2 b hb,hf2 b hb,mkE,hp1 _ m1,hf1 _ m1,hp3 _ m2,hf3 _ m2,hp4 _ m3,hf4 _ m3,hp3 _ m4,hf3 _ m4]
  rfl
theorem QN {α:Type} {d:α} {f l:List α} {k:Nat} (hf:f.length=k) (h:k<l.length):(f++l.drop k).getD k d=l.getD k d:=by
  rw [getD_lt (by rw [List.length_append,List.length_drop];omega),getD_lt h,List.getElem_append_right (by omega),List.getElem_drop]
  simp only [hf,Nat.sub_self,Nat.add_zero]
theorem Zc {α:Type} {d:α} {f l:List α} {k j:Nat} (hf:f.length=k) (h:j<k):(f++l.drop k).getD j d=f.getD j d:=by
  rw [getD_lt (by rw [List.length_append];omega),getD_lt (by omega),List.getElem_append_left]
theorem KV {α:Type} {x:α} {f l:List α} {k:Nat} (hf:f.length=k) (h:k<l.length):(f++l.drop k).set k x=(f++ [x])++l.drop (k+1):=by
  rw [List.set_append_right _ _ (by omega),hf,Nat.sub_self,List.drop_eq_getElem_cons h,List.set_cons_zero,List.append_assoc];rfl
theorem OP {α:Type} {d:α} {f l:List α} {k:Nat} (h:k<l.length):f++l.drop k=(f++ [l.getD k d])++l.drop (k+1):=by
  rw [List.drop_eq_getElem_cons h,getD_lt h,List.append_assoc];rfl
theorem KW {α:Type} {f l:List α} {k:Nat} (hf:f.length=k) (h:k≤l.length):(f++l.drop k).length=l.length:=by
  rw [List.length_append,hf,List.length_drop];omega
theorem dH.fe {b:Blk} (ok:dH b) {f:List IOp} (h:f.length=b.ops.length):FE ⟨b.pc,b.len,f,b.fin,b.x,b.y,b.k⟩:=by
  have en:=ok.en
  have hp:=ok.pc
  have hl:=ok.ln
  exact⟨en.f,fun c=>⟨(en.x1 c).1,by dsimp only;rw [h];exact(en.x1 c).2.1⟩,fun c=>⟨(en.y1 c).1,by dsimp only;rw [h];exact(en.y1 c).2.1⟩,en.y0,by dsimp only;omega⟩
theorem Zd {p1:Blk×Unit→Bool} {f1:Blk×Unit→Bool×Unit} (hp1:∀b,b.ops.length<1000000000→p1 (b,())=true) (hf1:∀b,b.ops.length<1000000000→f1 (b,())=(bp (dH b),())) {p2:Int×Int×Int×Unit→Bool} {f2:Int×Int×Int×Unit→Int×Unit} (hp2:∀op a b,p2 (op,a,b,())=true) (hf2:∀op a b,f2 (op,a,b,())=(wdo op a b,())) {p3:Blk×Unit→Bool} {f3:Blk×Unit→Blk×Unit} (hp3:∀b,FE b→p3 (b,())=true) (hf3:∀b,FE b→f3 (b,())=(fcB b b.ops,())) {p4:List IOp×Int×Unit→Bool} {f4:List IOp×Int×Unit→Int×Bool×Unit} (hp4:∀ops k,p4 (ops,k,())=true) (hf4:∀ops k,f4 (ops,k,())=((kn ops k).1,(kn ops k).2,())) {p5:Blk×Unit→Bool} {f5:Blk×Unit→Int×Int×Int×Int×Int×Int×List IOp×Unit} (hp5:∀b,b.ops.length<1000000→p5 (b,())=true) (hf5:∀b,b.ops.length<1000000→f5 (b,())=(b.pc,b.len,b.fin,b.x,b.y,b.k,b.ops,())) (b:Blk) (hb:b.ops.length<1000000):Fj (std 0) p1 f1 p2 f2 p3 f3 p4 f4 p5 f5 (b,()) (fun y=>y=(aP b,())):=by
  have mkE:∀p l o f x y k,Co.mk .blk (p,l,o,f,x,y,k,())=Blk.mk p l o f x y k:=fun _ _ _ _ _ _ _=>rfl
  dsimp only [Fj,Alg.cl,Alg.cg,Alg.rb,Alg.bd,Alg.l1,Tup.q,Tup.o]
  simp (disch:=omega) only [RR,RB,hp1 b (by omega),hf1 b (by omega),hp5 b hb,hf5 b hb,mkE]
  refine⟨fun h=>by unfold aP;rw [h,if_neg (by decide)];rfl,fun h=> ?_⟩
  have ok:=bW.1 h
  rw [kg ok]
  refine aA (fun(y:Int×Int×Int×Int×Int×Int×Int×Int×Int×Int×Int×Int×Int×List IOp×Unit)=>0≤y.1∧y.1≤b.ops.length∧y.2.2.2.2.2.2.2=(b.pc,b.len,b.fin,b.x,b.y,b.k,fc b.ops y.1.toNat++b.ops.drop y.1.toNat,())) (fun y=>((b.ops.length:Int)-y.1).toNat) ⟨by dsimp only;omega,by dsimp only;omega,rfl⟩ ?_
  rintro⟨(k:Int),u1,u2,u3,u4,u5,u6,b1,b2,b3,b4,b5,b6,(ops:List IOp),⟨⟩⟩ hI
  dsimp only at hI ⊢
  simp only [Prod.mk.injEq,and_true]at hI
  obtain⟨h1,h2,rfl,rfl,rfl,rfl,rfl,rfl,rfl⟩:=hI
  have fl:=kQ b.ops k.toNat
  have ln:=KW (l:=b.ops) fl (by omega)
  simp (disch:=omega) only [RR,RB,hp4,hf4,hp2,hf2,ln,mkE]
  refine⟨fun h=> ?_,fun h=> ?_⟩
  · have o:=ok.op k h1 h
    have ek:=QN (d:=default) (l:=b.ops) fl (by omega)
    have kv:∀x:Int,Vl b.ops x k→kn (fc b.ops k.toNat++b.ops.drop k.toNat) x=if((((fc b.ops k.toNat)).getD (x).toNat default)).kind=1 then(((((fc b.ops k.toNat)).getD (x).toNat default)).k,true)else(0,false):=fun x v=>by
      have v0:=v.1
      have v1:=v.2.1
      unfold kn
      rw [Zc fl (by omega)]
      simp only [show 0≤x∧x< ((fc b.ops k.toNat++b.ops.drop k.toNat).length:Int)from⟨v0,by omega⟩,true_and]
    have nx:fc b.ops (k+1).toNat=fc b.ops k.toNat++ [fcO (fc b.ops k.toNat) ((b.ops).getD (k).toNat default)]:=by rw [show(k+1).toNat=k.toNat+1 by omega];rfl
    rw [ek]
    have hk:=OP (d:=default) (f:=fc b.ops k.toNat) (l:=b.ops) (k:=k.toNat) (by omega)
    have hs:=fun x=>KV (x:=x) (l:=b.ops) fl (by omega)
    rw [nx,show(k+1).toNat=k.toNat+1 by omega]
    generalize ((b.ops).getD (k).toNat default)=q at o hk ⊢
    have vx:=fun c=>o.x1 c
    have vy:=fun c=>o.y1 c
    refine⟨h1,h,h1,h,fun c=>⟨h1,h,h1,h,⟨by omega,by omega,?_⟩,by omega⟩,fun c=>⟨⟨by omega,by omega,?_⟩,by omega⟩⟩
    · have k1:=kv _ (o.x1 (by unfold hX;omega))
      have k2:=kv _ (o.y1 (Or.inl c.1.1))
      rw [k1,k2]at c ⊢
      by_cases d1:((((fc b.ops k.toNat)).getD (q.x).toNat default)).kind=1
      · by_cases d2:((((fc b.ops k.toNat)).getD (q.y).toNat default)).kind=1
        · rw [if_pos d1,if_pos d2,hs]
          have e:fcO (fc b.ops k.toNat) q=⟨1,0,0,wdo q.k ((((fc b.ops k.toNat)).getD (q.x).toNat default)).k ((((fc b.ops k.toNat)).getD (q.y).toNat default)).k,0⟩:=by unfold fcO;rw [if_pos ⟨c.1.1,d1,d2⟩]
          rw [e]
        · rw [if_neg d2]at c;exact absurd c.2 (by decide)
      · rw [if_neg d1]at c;exact absurd c.1.2 (by decide)
    · have e:fcO (fc b.ops k.toNat) q=q:=by
        unfold fcO
        refine if_neg ?_
        rintro⟨d0,d1,d2⟩
        rw [kv _ (o.x1 (by unfold hX;omega)),kv _ (o.y1 (Or.inl d0)),if_pos d1,if_pos d2,decide_eq_true d0]at c
        cases c
      rw [e,hk]
  · have e:fc b.ops k.toNat++b.ops.drop k.toNat=fc b.ops b.ops.length:=by rw [List.drop_of_length_le (by omega),List.append_nil,show k.toNat=b.ops.length by omega]
    rw [e]
    have fe:=ok.fe (kQ b.ops b.ops.length)
    rw [hf3 _ fe]
    exact⟨hp3 _ fe,rfl⟩
theorem Ze {a b:List Bool} (h:a.length=b.length) (g:∀t:Nat,t<a.length→(a.getD t default=true↔b.getD t default=true)):a=b:=by
  refine List.ext_getElem h fun i h1 h2=> ?_
  have:=g i h1
  rw [getD_lt h1,getD_lt h2]at this
  exact Bool.eq_iff_iff.2 this
theorem Zf {p1:Blk×Unit→Bool} {f1:Blk×Unit→Bool×Unit} (hp1:∀b,b.ops.length<1000000000→p1 (b,())=true) (hf1:∀b,b.ops.length<1000000000→f1 (b,())=(bp (dH b),())) {p2:Int×Int×Int×Unit→Bool} {f2:Int×Int×Int×Unit→Bool×Unit} (hp2:∀a b c,p2 (a,b,c,())=true) (hf2:∀a b c,f2 (a,b,c,())=(inB a b c,())) (b:Blk) (hb:b.ops.length<1000000):Fv (std 0) p1 f1 p2 f2 (b,()) (fun y=>y=(Db b,())):=by
  dsimp only [Fv,Alg.cl,Alg.cg,Alg.rb,Alg.bd,Alg.l1,Tup.q,Tup.o]
  simp (disch:=omega) only [RR,RB,hp1 b (by omega),hf1 b (by omega)]
  unfold Db
  refine⟨fun h=>by rw [h,if_neg (by decide)],fun h=> ?_⟩
  rw [if_pos h]
  have ok:=bW.1 h
  have n48:=ok.sz
  have en:=ok.en
  refine aA (fun(y:Int×Blk×List Bool×Unit)=>0≤y.1∧y.1≤b.ops.length∧y.2.1=b∧(y.2.2.1.length:Int)=y.1∧∀t:Nat,t<y.2.2.1.length→(y.2.2.1.getD t default=true↔4≤(b.ops.getD t default).kind)) (fun y=>((b.ops.length:Int)-y.1).toNat) ⟨by dsimp only;omega,by dsimp only;omega,rfl,rfl,fun t h=>absurd h (by simp)⟩ ?_
  rintro⟨(k:Int),(b':Blk),(kp:List Bool),⟨⟩⟩ hI
  dsimp only at hI ⊢
  obtain⟨h1,h2,rfl,h3,h4⟩:=hI
  simp (disch:=omega) only [RR,RB,List.length_append,List.length_cons,List.length_nil]
  refine⟨fun h=>⟨h1,h,by omega,⟨by omega,by omega,by omega,fun t ht=> ?_⟩,by omega⟩,fun h=> ?_⟩
  · rw [iL]
    rcases(by omega:t<kp.length∨t=kp.length)with c | c
    · rw [if_pos c];exact h4 t c
    · rw [if_neg (by omega),if_pos c,decide_eq_true_eq,c,show k.toNat=kp.length by omega]
  have ex:¬b'.fin=1→0≤b'.x∧b'.x<kp.length:=fun c=>by have:=ok.en.x1 c;exact⟨this.1,by have:=this.2.1;omega⟩
  have ey:b'.fin=3∨b'.fin=4→0≤b'.y∧b'.y<kp.length:=fun c=>by have:=ok.en.y1 (by omega);exact⟨this.1,by have:=this.2.1;omega⟩
  have ff:=en.f
  have u0:=Tq ok
  have kl:kp.length=b'.ops.length:=by omega
  rw [kl]at h4
  refine⟨fun c=>⟨(ex c).1,(ex c).2,(ex c).1,(ex c).2,fun c2=>⟨(ey c2).1,by rw [List.length_set];exact(ey c2).2,(ey c2).1,by rw [List.length_set];exact(ey c2).2,?_⟩,fun c2=> ?_⟩,fun c=>⟨fun c2=>absurd c2 (by omega),fun c2=> ?_⟩⟩
  all_goals
    refine aA (fun(y:Int×Blk×List Bool×Unit)=> -1≤y.1∧y.1<b'.ops.length∧y.2.1=b'∧y.2.2.1.length=b'.ops.length∧∀t:Nat,t<b'.ops.length→(y.2.2.1.getD t default=true↔(us b' (b'.ops.length-1-y.1).toNat).getD t default=true∨4≤(b'.ops.getD t default).kind)) (fun y=>(y.1+1).toNat) ⟨by dsimp only;omega,by dsimp only;omega,rfl,by simp only [List.length_set];omega,fun t ht=> ?_⟩ ?_
    · dsimp only
      rw [show(b'.ops.length-1- ((b'.ops.length:Int)-1)).toNat=0 by omega]
      show _↔(us0 b').getD t default=true∨_
      have q:=h4 t ht
      have r:=u0 t
      first
        | (rw [QI (by rw [List.length_set];have:=ey c2;omega),QI (by have:=ex c;omega),q,r];grind)
        | (rw [QI (by have:=ex c;omega),q,r];grind)
        | (rw [q,r];grind)
    rintro⟨(j:Int),(b2:Blk),(ms:List Bool),⟨⟩⟩ hI
    dsimp only at hI ⊢
    obtain⟨j0,j1,rfl,j3,j4⟩:=hI
    simp (disch:=omega) only [RR,RB,hp2,hf2,eu,tV,List.length_set]
    have ul:=BN b2 (b2.ops.length-1-j).toNat
    have us1:0≤j→∀t:Nat,((us b2 (b2.ops.length-1- (j-1)).toNat).getD t default=true↔(us b2 (b2.ops.length-1-j).toNat).getD t default=true∨((us b2 (b2.ops.length-1-j).toNat).getD j.toNat default=true∨4≤(((b2.ops).getD (j).toNat default)).kind)∧(t=j.toNat∨hX (((b2.ops).getD (j).toNat default))∧t=(((b2.ops).getD (j).toNat default)).x.toNat∨hY (((b2.ops).getD (j).toNat default))∧t=(((b2.ops).getD (j).toNat default)).y.toNat)):=fun g t=>by
      have o:=ok.op j g j1
      rw [show(b2.ops.length-1- (j-1)).toNat=(b2.ops.length-1-j).toNat+1 by omega]
      show(usO (b2.ops.getD (b2.ops.length-1- (b2.ops.length-1-j).toNat) default) (b2.ops.length-1- (b2.ops.length-1-j).toNat) _).getD t default=true↔_
      rw [show b2.ops.length-1- (b2.ops.length-1-j).toNat=j.toNat by omega]
      exact Tp (by omega) (fun c=>by have:=o.x1 c;have g0:=this.1;have g1:=this.2.1;omega) (fun c=>by have:=o.y1 c;have g0:=this.1;have g1:=this.2.1;omega)
    have ue:¬0≤j→(us b2 (b2.ops.length-1-j).toNat)=us b2 b2.ops.length:=fun g=>by rw [show(b2.ops.length-1-j).toNat=b2.ops.length by omega]
    generalize us b2 (b2.ops.length-1-j).toNat=U at us1 j4 ue
    refine⟨fun g=> ?_,fun g=>congrArg (fun m:List Bool=>(m,())) (Ze (b:=us b2 b2.ops.length) (by rw [BN];exact j3) fun t ht=> ?_)⟩
    · have o:=ok.op j g j1
      have X:hX (((b2.ops).getD (j).toNat default))→0≤(((b2.ops).getD (j).toNat default)).x∧(((b2.ops).getD (j).toNat default)).x<ms.length:=fun c=>by have:=o.x1 c;have g0:=this.1;have g1:=this.2.1;omega
      have Y:hY (((b2.ops).getD (j).toNat default))→0≤(((b2.ops).getD (j).toNat default)).y∧(((b2.ops).getD (j).toNat default)).y<ms.length:=fun c=>by have:=o.y1 c;have g0:=this.1;have g1:=this.2.1;omega
      have us1:=us1 g
      have qj:=j4 j.toNat (by omega)
      have kd:=o.kd
      generalize ((b2.ops).getD (j).toNat default)=q at*
      have cx:((3≤q.kind∧q.kind≤5)∨q.kind=7)∨q.kind=8↔hX q:=by unfold hX;omega
      have cn:(¬(3≤q.kind∧q.kind≤5)∧¬q.kind=7)∧¬q.kind=8↔¬hX q:=by unfold hX;omega
      have cy:q.kind=3∨q.kind=5↔hY q:=Iff.rfl
      have dn:¬q.kind=3∧¬q.kind=5↔¬hY q:=by unfold hY;omega
      rw [cx,cn,cy,dn]
      generalize hX q=HX at*
      generalize hY q=HY at*
      refine⟨g,j1,g,by omega,g,by omega,fun c=>⟨⟨by omega,by omega,j3,fun t ht=> ?_⟩,by omega⟩,fun c=>⟨fun d=>⟨(X d).1,(X d).2,(X d).1,(X d).2,fun e=>⟨(Y e).1,(Y e).2,(Y e).1,(Y e).2,⟨by omega,by omega,j3,fun t ht=> ?_⟩,by omega⟩,fun e=>⟨⟨by omega,by omega,j3,fun t ht=> ?_⟩,by omega⟩⟩,fun d=>⟨fun e=>⟨(Y e).1,(Y e).2,(Y e).1,(Y e).2,⟨by omega,by omega,j3,fun t ht=> ?_⟩,by omega⟩,fun e=>⟨⟨by omega,by omega,j3,fun t ht=> ?_⟩,by omega⟩⟩⟩⟩
      · rw [us1,j4 t ht];rw [c]at qj;grind
      · rw [QI (by rw [List.length_set];have:=Y e;omega),QI (by have:=X d;omega),us1,j4 t ht];grind
      · rw [QI (by have:=X d;omega),us1,j4 t ht];grind
      · rw [QI (by have:=Y e;omega),us1,j4 t ht];grind
      · rw [us1,j4 t ht];grind
    · rw [j4 t (by omega),ue g]
      exact⟨fun h=>h.elim id ((amQ ok).k t (Nat.zero_le _) (by omega)),Or.inl⟩
end Go.TX.F
namespace Go.TX.F
open Go Go.AE Go.TX
theorem acN {ops:List IOp} {kp:List Bool} {len:Int} {k n:Nat} {o:IOp} (ho:CQ ops len k o) (h:k<n):ren (kpS ops kp (k+1)).1 o=ren (kpS ops kp n).1 o:=by
  have p:=(acJ ops kp (show k+1≤n by omega)).2
  have l:=(zN ops kp (k+1)).1
  have e:∀x:Int,Vl ops x k→(((kpS ops kp (k+1)).1).getD (x).toNat default)=(((kpS ops kp n).1).getD (x).toNat default):=fun x v=>by
    have g0:=v.1
    have g1:=v.2.1
    exact(YH p (by omega)).symm
  have ox:=ho.x1
  have oy:=ho.y1
  unfold ren
  congr 1
  · split
    · rename_i c;exact e _ (ox c)
    · rfl
  · split
    · rename_i c;exact e _ (oy c)
    · rfl
theorem Zg {p1:IOp×List Int×Unit→Bool} {f1:IOp×List Int×Unit→IOp×Unit} (hp1:∀o al,(1≤o.kind∧o.kind≤8)→(hX o→0≤o.x∧o.x< (al.length:Int))→(hY o→0≤o.y∧o.y< (al.length:Int))→p1 (o,al,())=true) (hf1:∀o al,(1≤o.kind∧o.kind≤8)→(hX o→0≤o.x∧o.x< (al.length:Int))→(hY o→0≤o.y∧o.y< (al.length:Int))→f1 (o,al,())=(ren al o,())) (b:Blk) (kp:List Bool) (ok:dH b) (hk:kp.length=b.ops.length):Fq (std 0) p1 f1 (b,kp,()) (fun y=>y=bk7 (Cu b kp)):=by
  have n48:=ok.sz
  dsimp only [Fq,Alg.cl,Alg.cg,Alg.rb,Alg.bd,Alg.l1,Tup.q,Tup.o]
  simp (disch:=omega) only [RR,RB]
  refine aA (fun(y:List Bool×Int×Blk×Int×Int×Int×Int×Int×Int×List IOp×List Int×Unit)=>y.1=kp∧0≤y.2.1∧y.2.1≤b.ops.length∧y.2.2.1=b∧y.2.2.2.2.2.2.2.2.2.1=(kpS b.ops kp y.2.1.toNat).2.map (ren (kpS b.ops kp b.ops.length).1)∧y.2.2.2.2.2.2.2.2.2.2.1=(kpS b.ops kp y.2.1.toNat).1) (fun y=>((b.ops.length:Int)-y.2.1).toNat) ⟨rfl,by dsimp only;omega,by dsimp only;omega,rfl,rfl,rfl⟩ ?_
  rintro⟨(kp':List Bool),(k:Int),(b':Blk),u1,u2,u3,u4,u5,u6,(out:List IOp),(to:List Int),⟨⟩⟩ hI
  dsimp only at hI ⊢
  obtain⟨rfl,h1,h2,rfl,rfl,rfl⟩:=hI
  obtain⟨l1,l2⟩:=zN b'.ops kp' k.toNat
  have l3:=(zN b'.ops kp' (k+1).toNat).1
  have nx:(kpS b'.ops kp' (k+1).toNat).1=(kpS b'.ops kp' k.toNat).1++ [((kpS b'.ops kp' k.toNat).2.length:Int)]:=by rw [show(k+1).toNat=k.toNat+1 by omega];rfl
  have r:k<b'.ops.length→ren (kpS b'.ops kp' (k+1).toNat).1 ((b'.ops).getD (k).toNat default)=ren (kpS b'.ops kp' b'.ops.length).1 ((b'.ops).getD (k).toNat default):=fun h=>by
    rw [show(k+1).toNat=k.toNat+1 by omega]
    exact acN (by rw [show((k.toNat:Nat):Int)=k by omega];exact ok.op k h1 h) (by omega)
  have s:(kpS b'.ops kp' (k+1).toNat).2=if kp'.getD k.toNat default=true then(kpS b'.ops kp' k.toNat).2++ [((b'.ops).getD (k).toNat default)]else(kpS b'.ops kp' k.toNat).2:=by rw [show(k+1).toNat=k.toNat+1 by omega];rfl
  have fin:¬k<b'.ops.length→kpS b'.ops kp' k.toNat=kpS b'.ops kp' b'.ops.length:=fun h=>by rw [show k.toNat=b'.ops.length by omega]
  have kb:Cu b' kp'=QE (kpS b'.ops kp' b'.ops.length).1 b' (kpS b'.ops kp' b'.ops.length).2:=rfl
  rw [kb]
  generalize kpS b'.ops kp' b'.ops.length=N at r fin ⊢
  generalize hT:kpS b'.ops kp' (k+1).toNat=T at l3 nx r s ⊢
  generalize kpS b'.ops kp' k.toNat=S at l1 l2 nx s fin ⊢
  have en:=ok.en
  have ex:¬k<b'.ops.length→¬b'.fin=1→0≤b'.x∧b'.x< (S.1.length:Int):=fun h c=>by have:=en.x1 c;exact⟨this.1,by have:=this.2.1;omega⟩
  have ey:¬k<b'.ops.length→b'.fin=3∨b'.fin=4→0≤b'.y∧b'.y< (S.1.length:Int):=fun h c=>by have:=en.y1 (by omega);exact⟨this.1,by have:=this.2.1;omega⟩
  simp (disch:=omega) only [RR,RB,List.length_append,List.length_cons,List.length_nil,List.length_map,KE,←nx]
  refine⟨fun h=> ?_,fun h=> ?_⟩
  · have op:=ok.op k h1 h
    have a2:hX (((b'.ops).getD (k).toNat default))→0≤(((b'.ops).getD (k).toNat default)).x∧(((b'.ops).getD (k).toNat default)).x< (T.1.length:Int):=fun c=>⟨(op.x1 c).1,by have:=(op.x1 c).2.1;omega⟩
    have a3:hY (((b'.ops).getD (k).toNat default))→0≤(((b'.ops).getD (k).toNat default)).y∧(((b'.ops).getD (k).toNat default)).y< (T.1.length:Int):=fun c=>⟨(op.y1 c).1,by have:=(op.y1 c).2.1;omega⟩
    have P:=hp1 _ T.1 op.kd a2 a3
    rw [hf1 _ T.1 op.kd a2 a3,hT,s,r h]
    refine⟨by omega,h1,by omega,fun c=>⟨h1,h,P,by omega,⟨by omega,by omega,?_⟩,by omega⟩,fun c=>⟨⟨by omega,by omega,?_⟩,by omega⟩⟩
    · rw [if_pos c,List.map_append];exact⟨rfl,rfl⟩
    · rw [c,if_neg (by decide)];exact⟨rfl,rfl⟩
  · have ex:=ex h
    have ey:=ey h
    rw [fin h]at ex ey ⊢
    unfold bk7 QE
    refine⟨fun c=>⟨(ex c).1,(ex c).2,(ex c).1,(ex c).2,fun c2=>⟨(ey c2).1,(ey c2).2,(ey c2).1,(ey c2).2,?_⟩,fun c2=> ?_⟩,fun c=>⟨fun c2=>⟨(ey c2).1,(ey c2).2,(ey c2).1,(ey c2).2,?_⟩,fun c2=> ?_⟩⟩
    · rw [if_neg c,if_pos (by omega)]
    · rw [if_neg c,if_neg (by have:=en.f;omega)]
    · exact absurd c2 (by omega)
    · rw [if_pos c,if_neg (by omega)]
theorem Zh {p1:Blk×Unit→Bool} {f1:Blk×Unit→Bool×Unit} (hp1:∀b,b.ops.length<1000000000→p1 (b,())=true) (hf1:∀b,b.ops.length<1000000000→f1 (b,())=(bp (dH b),())) {p2:Blk×Unit→Bool} {f2:Blk×Unit→List Bool×Unit} (hp2:∀b,b.ops.length<1000000→p2 (b,())=true) (hf2:∀b,b.ops.length<1000000→f2 (b,())=(Db b,())) {p3:Blk×List Bool×Unit→Bool} {f3:Blk×List Bool×Unit→Int×Int×Int×Int×Int×Int×List IOp×Unit} (hp3:∀b kp,dH b→kp.length=b.ops.length→p3 (b,kp,())=true) (hf3:∀b kp,dH b→kp.length=b.ops.length→f3 (b,kp,())=bk7 (Cu b kp)) (b:Blk) (hb:b.ops.length<1000000):Fw (std 0) p1 f1 p2 f2 p3 f3 (b,()) (fun y=>y=bk7 (kW b)):=by
  dsimp only [Fw,Alg.cl,Alg.cg,Alg.rb,Alg.bd,Alg.l1,Tup.q,Tup.o]
  simp (disch:=omega) only [RR,RB,hp1 b (by omega),hf1 b (by omega),hp2 b hb,hf2 b hb]
  unfold kW Db
  refine⟨fun h=>by rw [h,if_neg (by decide)];rfl,fun h=> ?_⟩
  have ok:=bW.1 h
  rw [if_pos h,if_pos h,hf3 _ _ ok (BN b _)]
  exact⟨hp3 _ _ ok (BN b _),rfl⟩
theorem Zi {p1:Blk×Unit→Bool} {f1:Blk×Unit→Bool×Unit} (hp1:∀b,b.ops.length<1000000000→p1 (b,())=true) (hf1:∀b,b.ops.length<1000000000→f1 (b,())=(bp (dH b),())) {p2:Blk×List Bool×Unit→Bool} {f2:Blk×List Bool×Unit→Int×Int×Int×Int×Int×Int×List IOp×Unit} (hp2:∀b kp,dH b→kp.length=b.ops.length→p2 (b,kp,())=true) (hf2:∀b kp,dH b→kp.length=b.ops.length→f2 (b,kp,())=bk7 (Cu b kp)) {p3:List IOp×Int×Unit→Bool} {f3:List IOp×Int×Unit→Bool×Unit} (hp3:∀ops k,0≤k→k<ops.length→(ops.length:Int)<1000000→p3 (ops,k,())=true) (hf3:∀ops k,0≤k→k<ops.length→(ops.length:Int)<1000000→f3 (ops,k,())=(rE (ops.drop (k.toNat+1)) (((ops).getD (k).toNat default)).k,())) (b:Blk) (hb:b.ops.length<1000000):Fu (std 0) p1 f1 p2 f2 p3 f3 (b,()) (fun y=>y=bk7 (nW b)):=by
  dsimp only [Fu,Alg.cl,Alg.cg,Alg.rb,Alg.bd,Alg.l1,Tup.q,Tup.o]
  simp (disch:=omega) only [RR,RB,hp1 b (by omega),hf1 b (by omega)]
  unfold nW
  refine⟨fun h=>by rw [h,if_neg (by decide)];rfl,fun h=> ?_⟩
  have ok:=bW.1 h
  rw [if_pos h]
  have kl:(sQ b.ops).length=b.ops.length:=by unfold sQ;rw [List.length_map,List.length_range]
  refine aA (fun(y:Int×Blk×Int×Int×Int×Int×Int×Int×List Bool×Unit)=>0≤y.1∧y.1≤b.ops.length∧y.2.1=b∧y.2.2.2.2.2.2.2.2.1=(sQ b.ops).take y.1.toNat) (fun y=>((b.ops.length:Int)-y.1).toNat) ⟨by dsimp only;omega,by dsimp only;omega,rfl,rfl⟩ ?_
  rintro⟨(k:Int),(b':Blk),u1,u2,u3,u4,u5,u6,(kp:List Bool),⟨⟩⟩ hI
  dsimp only at hI ⊢
  obtain⟨h1,h2,rfl,rfl⟩:=hI
  have tl:((sQ b'.ops).take k.toNat).length=k.toNat:=by rw [List.length_take];omega
  simp (disch:=omega) only [RR,RB,List.length_append,List.length_cons,List.length_nil,tl]
  refine⟨fun h=>⟨h1,h,Or.inr (hp3 _ _ h1 h (by omega)),by omega,⟨by omega,by omega,?_⟩,by omega⟩,fun h=> ?_⟩
  · rw [hf3 _ _ h1 h (by omega),show(k+1).toNat=k.toNat+1 by omega,List.take_succ_eq_append_getElem (by omega),←getD_lt (d:=default) (show k.toNat< (sQ b'.ops).length by omega),VG (by omega)]
    refine congrArg (fun x=>(sQ b'.ops).take k.toNat++ [x]) ?_
    rw [Bool.not_and]
  · rw [List.take_of_length_le (by omega),hf2 _ _ ok kl]
    exact⟨hp2 _ _ ok kl,rfl⟩
theorem ajj {ops:List IOp} {len:Int} {k n:Nat} {o:IOp} (ho:CQ ops len k o) (h:k≤n):ren (cpS ops k).1 o=ren (cpS ops n).1 o:=by
  have l:=(zL ops k).1
  have e:∀x:Int,Vl ops x k→(((cpS ops k).1).getD (x).toNat default)=(((cpS ops n).1).getD (x).toNat default):=fun x v=>by
    have g0:=v.1
    have g1:=v.2.1
    exact(QF ops (by omega) h).symm
  have ox:=ho.x1
  have oy:=ho.y1
  unfold ren
  congr 1
  · split
    · rename_i c;exact e _ (ox c)
    · rfl
  · split
    · rename_i c;exact e _ (oy c)
    · rfl
theorem Zj {p1:Blk×Unit→Bool} {f1:Blk×Unit→Bool×Unit} (hp1:∀b,b.ops.length<1000000000→p1 (b,())=true) (hf1:∀b,b.ops.length<1000000000→f1 (b,())=(bp (dH b),())) {p2:IOp×List Int×Unit→Bool} {f2:IOp×List Int×Unit→IOp×Unit} (hp2:∀o al,(1≤o.kind∧o.kind≤8)→(hX o→0≤o.x∧o.x< (al.length:Int))→(hY o→0≤o.y∧o.y< (al.length:Int))→p2 (o,al,())=true) (hf2:∀o al,(1≤o.kind∧o.kind≤8)→(hX o→0≤o.x∧o.x< (al.length:Int))→(hY o→0≤o.y∧o.y< (al.length:Int))→f2 (o,al,())=(ren al o,())) {p3:Blk×Unit→Bool} {f3:Blk×Unit→Int×Int×Int×Int×Int×Int×List IOp×Unit} (hp3:∀b,b.ops.length<1000000→p3 (b,())=true) (hf3:∀b,b.ops.length<1000000→f3 (b,())=(b.pc,b.len,b.fin,b.x,b.y,b.k,b.ops,())) (b:Blk) (hb:b.ops.length<1000000):E5 (std 0) p1 f1 p2 f2 p3 f3 (b,()) (fun y=>y=bk7 (dz b)):=by
  dsimp only [E5,Alg.cl,Alg.cg,Alg.rb,Alg.bd,Alg.l1,Tup.q,Tup.o]
  simp (disch:=omega) only [RR,RB,hp1 b (by omega),hf1 b (by omega),hp3 b hb,hf3 b hb,KE]
  unfold dz
  refine⟨fun h=>by rw [h,if_neg (by decide)];rfl,fun h=> ?_⟩
  have ok:=bW.1 h
  rw [if_pos h]
  have n48:=ok.sz
  refine aA (fun(y:Int×Int×Int×Int×Int×Int×Int×Int×Int×Int×Int×Int×Int×List Int×List Int×List IOp×Unit)=>0≤y.1∧y.1≤b.ops.length∧y.2.2.2.2.2.2.2=(b.pc,b.len,b.fin,b.x,b.y,b.k,(cpS b.ops y.1.toNat).1,(cpS b.ops y.1.toNat).2,(b.ops.take y.1.toNat).map (ren (cpS b.ops b.ops.length).1)++b.ops.drop y.1.toNat,())) (fun y=>((b.ops.length:Int)-y.1).toNat) ⟨by dsimp only;omega,by dsimp only;omega,rfl⟩ ?_
  rintro⟨(k:Int),u1,u2,u3,u4,u5,u6,b1,b2,b3,b4,b5,b6,(al:List Int),(la:List Int),(ops:List IOp),⟨⟩⟩ hI
  dsimp only at hI ⊢
  simp only [Prod.mk.injEq,and_true]at hI
  obtain⟨h1,h2,rfl,rfl,rfl,rfl,rfl,rfl,rfl,rfl,rfl⟩:=hI
  obtain⟨l1,l2⟩:=zL b.ops k.toNat
  have r:=fun h:k<b.ops.length=>ajj (ops:=b.ops) (k:=k.toNat) (n:=b.ops.length) (by rw [show((k.toNat:Nat):Int)=k by omega];exact ok.op k h1 h) (by omega)
  have fl:((b.ops.take k.toNat).map (ren (cpS b.ops b.ops.length).1)).length=k.toNat:=by rw [List.length_map,List.length_take];omega
  have ln:=KW (l:=b.ops) fl (by omega)
  have ek:=fun h:k<b.ops.length=>QN (d:=default) (l:=b.ops) fl (by omega)
  have ms:=fun x (h:k<b.ops.length)=>KV (x:=x) (l:=b.ops) fl (by omega)
  have tk:=fun h:k<b.ops.length=>(jm (d:=default) (l:=b.ops) h1 h rfl)
  have nx:k<b.ops.length→cpS b.ops (k+1).toNat=((cpS b.ops k.toNat).1++ [cpN (cpS b.ops k.toNat) k ((b.ops).getD (k).toNat default)],cpL (cpS b.ops k.toNat) k ((b.ops).getD (k).toNat default)):=fun h=>by
    rw [show(k+1).toNat=k.toNat+1 by omega,show k=((k.toNat:Nat):Int) by omega];rfl
  have fin:¬k<b.ops.length→cpS b.ops k.toNat=cpS b.ops b.ops.length:=fun h=>by rw [show k.toNat=b.ops.length by omega]
  have en:=ok.en
  by_cases h:k<b.ops.length
  · have o:=ok.op k h1 h
    have r:=r h
    have ek:=ek h
    have nx:=nx h
    have ms:=fun x=>ms x h
    have tk:=tk h
    have a2:hX (((b.ops).getD (k).toNat default))→0≤(((b.ops).getD (k).toNat default)).x∧(((b.ops).getD (k).toNat default)).x< ((cpS b.ops k.toNat).1.length:Int):=fun c=>⟨(o.x1 c).1,by have:=(o.x1 c).2.1;omega⟩
    have a3:hY (((b.ops).getD (k).toNat default))→0≤(((b.ops).getD (k).toNat default)).y∧(((b.ops).getD (k).toNat default)).y< ((cpS b.ops k.toNat).1.length:Int):=fun c=>⟨(o.y1 c).1,by have:=(o.y1 c).2.1;omega⟩
    have P:=hp2 _ _ o.kd a2 a3
    have F:=hf2 _ _ o.kd a2 a3
    have kd:=o.k2
    have rx:(((b.ops).getD (k).toNat default)).kind=8→(ren (cpS b.ops b.ops.length).1 ((b.ops).getD (k).toNat default)).x=(((cpS b.ops k.toNat).1).getD ((((b.ops).getD (k).toNat default)).x).toNat default):=fun c=>by rw [←r];exact if_pos (by unfold hX;omega)
    rw [r]at F
    generalize hN:(cpS b.ops b.ops.length).1=N at*
    generalize hT:cpS b.ops (k+1).toNat=T at nx ⊢
    generalize cpS b.ops k.toNat=S at*
    simp (disch:=omega) only [RR,RB,ln,ek,P,F,ms,List.length_append,List.length_cons,List.length_nil,List.length_set,KE,h]
    generalize hq:((b.ops).getD (k).toNat default)=q at*
    have rk:(ren N q).kind=q.kind:=rfl
    have rkk:(ren N q).k=q.k:=rfl
    generalize hR:ren N q=R at*
    have G:∀v w,v=cpN S k q→w=cpL S k q→(b.pc,b.len,b.fin,b.x,b.y,b.k,S.1++ [v],w,((b.ops.take k.toNat).map (ren N)++ [R])++b.ops.drop (k.toNat+1),())=(b.pc,b.len,b.fin,b.x,b.y,b.k,T.1,T.2,(b.ops.take (k+1).toNat).map (ren N)++b.ops.drop (k+1).toNat,()):=fun v w e1 e2=>by
      rw [nx,e1,e2,←tk,List.map_append,show(k+1).toNat=k.toNat+1 by omega,←hR];rfl
    have ss:∀i:Int,0≤i→i<S.2.length→S.2.set i.toNat ((S.2).getD (i).toNat default)=S.2:=fun i i0 i1=>by rw [getD_lt (show i.toNat<S.2.length by omega),List.set_getElem_self]
    by_cases c2:R.kind=2
    · have kk:=kd (Or.inl (rk▸c2))
      by_cases c3:0≤((S.2).getD (R.k).toNat default)
      · have g:=G (((S.2).getD (R.k).toNat default)) (S.2.set R.k.toNat ((S.2).getD (R.k).toNat default)) (by unfold cpN;rw [←rk,←rkk];rw [if_pos ⟨c2,c3⟩]) (by unfold cpL;rw [←rk,←rkk];rw [if_pos c2,if_pos c3,ss _ (by omega) (by omega)])
        simp only [c2,c3,show¬((2:Int)=8) by decide,true_and,and_true,true_implies,false_implies,not_true_eq_false,not_false_eq_true,false_or,decide_true,Bool.and_self,Bool.true_eq_false,hT,g]
        omega
      · have g:=G k (S.2.set R.k.toNat k) (by unfold cpN;rw [←rk,←rkk];rw [if_neg (fun q=>c3 q.2)]) (by unfold cpL;rw [←rk,←rkk];rw [if_pos c2,if_neg c3])
        simp only [c2,c3,show¬((2:Int)=8) by decide,true_and,and_true,and_false,true_implies,false_implies,not_true_eq_false,not_false_eq_true,false_or,decide_true,decide_false,Bool.and_false,hT,g]
        omega
    · by_cases c8:R.kind=8
      · have kk:=kd (Or.inr (rk▸c8))
        have g:=G k (S.2.set R.k.toNat ((S.1).getD (q.x).toNat default)) (by unfold cpN;rw [←rk,←rkk];rw [if_neg (fun q=>c2 q.1)]) (by unfold cpL;rw [←rk,←rkk];rw [if_neg c2,if_pos c8])
        rw [←rx (rk▸c8)]at g
        simp only [c8,show¬((8:Int)=2) by decide,false_and,true_and,and_true,and_false,true_implies,false_implies,not_true_eq_false,not_false_eq_true,true_or,decide_false,Bool.false_and,hT,g]
        omega
      · have g:=G k S.2 (by unfold cpN;rw [←rk,←rkk];rw [if_neg (fun q=>c2 q.1)]) (by unfold cpL;rw [←rk,←rkk];rw [if_neg c2,if_neg c8])
        simp only [c2,c8,false_and,true_and,and_true,and_false,true_implies,false_implies,not_true_eq_false,not_false_eq_true,true_or,decide_false,Bool.false_and,hT,g]
        omega
  · have e:=fin h
    have ex:¬b.fin=1→0≤b.x∧b.x< ((cpS b.ops k.toNat).1.length:Int):=fun c=>by have:=en.x1 c;exact⟨this.1,by have:=this.2.1;omega⟩
    have ey:b.fin=3∨b.fin=4→0≤b.y∧b.y< ((cpS b.ops k.toNat).1.length:Int):=fun c=>by have:=en.y1 (by omega);exact⟨this.1,by have:=this.2.1;omega⟩
    have ff:=en.f
    have z:(b.ops.take k.toNat).map (ren (cpS b.ops b.ops.length).1)++b.ops.drop k.toNat=b.ops.map (ren (cpS b.ops b.ops.length).1):=by rw [List.take_of_length_le (by omega),List.drop_of_length_le (by omega),List.append_nil]
    have ln:(b.ops.map (ren (cpS b.ops b.ops.length).1)).length=b.ops.length:=List.length_map _
    rw [z]
    rw [e]at ex ey ⊢
    unfold bk7 QE
    generalize (cpS b.ops b.ops.length).1=N at*
    simp (disch:=omega) only [RR,RB,ln,h]
    refine⟨fun c=>⟨(ex c).1,(ex c).2,(ex c).1,(ex c).2,fun c2=>⟨(ey c2).1,(ey c2).2,(ey c2).1,(ey c2).2,?_⟩,fun c2=> ?_⟩,fun c=>⟨fun c2=>absurd c2 (by omega),fun c2=> ?_⟩⟩
    · rw [if_neg c,if_pos (by omega)]
    · rw [if_neg c,if_neg (by omega)]
    · rw [if_pos c,if_neg (by omega)]
end Go.TX.F
namespace Go.TX.F
open Go Go.AE Go.TX
structure BkD (m:Int) (n:Nat) (b:List Int) (p:Int) (y:Int×Int×Int×Int×Int×Int×List Int×Int×List IOp×Unit):Prop where
  b:y.2.2.2.2.2.2.1=b
  lo:p≤y.2.2.2.2.2.2.2.1
  hi:y.2.2.2.2.2.2.2.1≤p+m
  len:y.2.2.2.2.2.2.2.2.1.length≤n
theorem Zk {p1:Int×List Ins×Unit→Bool} {f1:Int×List Ins×Unit→Int×Int×Int×Int×Int×Int×List IOp×Unit} (hp1:∀pc l,(l.length:Int)<1000→KB l→p1 (pc,l,())=true) (hf1:∀pc l,(l.length:Int)<1000→KB l→((f1 (pc,l,())).2.2.2.2.2.2.1.length:Int)≤5000) {p2:Blk×Unit→Bool} {f2:Blk×Unit→Int×Int×Int×Int×Int×Int×List IOp×Unit} (hp2:∀b,b.ops.length<1000000→p2 (b,())=true) (hf2:∀b,b.ops.length<1000000→f2 (b,())=bk7 (QK b)) {p3:Blk×Unit→Bool} {f3:Blk×Unit→Int×Int×Int×Int×Int×Int×List IOp×Unit} (hp3:∀b,b.ops.length<1000000→p3 (b,())=true) (hf3:∀b,b.ops.length<1000000→f3 (b,())=bk7 (dz b)) {p4:Int×List Int×Int×Unit→Bool} {f4:Int×List Int×Int×Unit→Int×List Int×Int×Unit} (hp4:∀n b p,Bt b→0≤p→p<1000000000→p4 (n,b,p,())=true) (hf4:∀n b p,Bt b→0≤p→p<1000000000→Pk n b p (f4 (n,b,p,()))) {p5:List Int×Int×Unit→Bool} {f5:List Int×Int×Unit→List Int×Int×List Ins×Unit} (hp5:∀b p,Bt b→0≤p→p<700000000→p5 (b,p,())=true) (hf5:∀b p,Bt b→0≤p→p<700000000→LiD b p (f5 (b,p,()))) (b:List Int) (p:Int) (hb:Bt b) (h1:0≤p) (h2:p<600000000):FZ (std 0) p1 f1 p2 f2 p3 f3 p4 f4 p5 f5 (b,p,()) (fun y=>BkD 2000 5000 b p y):=by
  replace hf2:=fun c h=>show(f2 (c,())).2.2.2.2.2.2.1.length≤c.ops.length by rw [hf2 c h];exact VH c
  replace hf3:=fun c h=>show(f3 (c,())).2.2.2.2.2.2.1.length≤c.ops.length by rw [hf3 c h];exact sS c
  obtain⟨a1,a2,a3,a4,a5⟩:=hf5 b p hb h1 (by omega)
  have R:=pkR hb hf4
  have P:=fun n p h1 h2=>hp4 n b p hb h1 h2
  have L:=fun pc=>hf1 pc _ (show((f5 (b,p,())).2.2.1.length:Int)<1000 by omega) a5
  have O1:=fun c (h:c.ops.length≤5000)=>hp2 c (by omega)
  have O2:=fun c (h:c.ops.length≤5000)=>hf2 c (by omega)
  have O3:=fun c (h:c.ops.length≤5000)=>hp3 c (by omega)
  have O4:=fun c (h:c.ops.length≤5000)=>hf3 c (by omega)
  dsimp only [FZ,Alg.cl,Alg.cg,Alg.rb,Alg.bd,Alg.l1,Tup.q,Tup.o]
  simp (disch:=omega) only [RR,hp5 b p hb h1 (by omega),a1,R,P,hp1 _ _ (show((f5 (b,p,())).2.2.1.length:Int)<1000 by omega) a5,List.length_cons,List.length_nil]
  have L':∀pc,(f1 (pc,(f5 (b,p,())).2.2.1,())).2.2.2.2.2.2.1.length≤5000:=fun pc=>by have:=L pc;omega
  refine⟨fun _=>⟨O1 _ (L' _),rfl,by dsimp only;omega,by dsimp only;omega,Nat.le_trans (O2 _ (L' _)) (L' _)⟩,fun _=>⟨fun _=>⟨O3 _ (L' _),rfl,by dsimp only;omega,by dsimp only;omega,Nat.le_trans (O4 _ (L' _)) (L' _)⟩,fun _=>⟨rfl,by dsimp only;omega,by dsimp only;omega,L' _⟩⟩⟩
end Go.TX.F
namespace Go.TX.F
open Go Go.AE Go.TX
theorem Zl {p1:Int×List Int×Int×Unit→Bool} {f1:Int×List Int×Int×Unit→Int×List Int×Int×Unit} (hp1:∀n b p,Bt b→0≤p→p<1000000000→p1 (n,b,p,())=true) (hf1:∀n b p,Bt b→0≤p→p<1000000000→Pk n b p (f1 (n,b,p,()))) {p2:Blk×Unit→Bool} {f2:Blk×Unit→Int×Int×Int×Int×Int×Int×List IOp×Unit} (hp2:∀b,b.ops.length<1000000→p2 (b,())=true) (hf2:∀b,b.ops.length<1000000→f2 (b,())=(b.pc,b.len,b.fin,b.x,b.y,b.k,b.ops,())) (c:Blk) (b:List Int) (p:Int) (hc:c.ops.length<1000000) (hb:Bt b) (h1:0≤p) (h2:p<900000000):BI (std 0) p1 f1 p2 f2 (c,b,p,()) (fun y=>BkD 20 c.ops.length b p y):=by
  have R:=pkR hb hf1
  have P:=fun n p h1 h2=>hp1 n b p hb h1 h2
  by_cases z:(c.ops.length:Int)=0
  · dsimp only [BI,Alg.cl,Alg.cg,Alg.rb,Alg.bd,Alg.l1,Tup.q,Tup.o]
    simp (disch:=omega) only [RR,RB,hp2 c hc,hf2 c hc,z]
    exact⟨rfl,by dsimp only;omega,by dsimp only;omega,Nat.le_refl _⟩
  have B:=(hf1 c.ops.length b p hb h1 (by omega)).2.2
  have W:IntKind.i64.wrap ((f1 (c.ops.length,b,p,())).1-1)=(f1 (c.ops.length,b,p,())).1-1:=w64 (by omega) (by omega)
  dsimp only [BI,Alg.cl,Alg.cg,Alg.rb,Alg.bd,Alg.l1,Tup.q,Tup.o]
  simp (disch:=omega) only [RR,RB,hp2 c hc,hf2 c hc,R,P,z,List.length_set,W]
  repeat' (first | (refine And.intro ?_ ?_) | intro _)
  all_goals first | omega | exact⟨rfl,by dsimp only;omega,by dsimp only;omega,by dsimp only [X3];simp only [List.length_set,List.length_take,List.length_drop];omega⟩ | exact⟨rfl,by dsimp only;omega,by dsimp only;omega,by simp only [List.length_drop,List.length_take];omega⟩ | exact⟨rfl,by dsimp only;omega,by dsimp only;omega,Nat.le_refl _⟩
structure BoD (b:List Int) (p:Int) (y:Blk×List Int×Int×Unit):Prop where
  len:y.1.ops.length<100000
  b:y.2.1=b
  lo:p≤y.2.2.1
  hi:y.2.2.1≤p+5000
theorem Zm {p1:Int×List Int×Int×Unit→Bool} {f1:Int×List Int×Int×Unit→Bool×List Int×Int×Unit} (hp1:∀n b p,Bt b→0≤p→p<1000000000→p1 (n,b,p,())=true) (hf1:∀n b p,Bt b→0≤p→p<1000000000→(f1 (n,b,p,())).2.1=b∧(f1 (n,b,p,())).2.2.1=p+1) {p2:Int×List Int×Int×Unit→Bool} {f2:Int×List Int×Int×Unit→Int×List Int×Int×Unit} (hp2:∀n b p,Bt b→0≤p→p<1000000000→p2 (n,b,p,())=true) (hf2:∀n b p,Bt b→0≤p→p<1000000000→Pk n b p (f2 (n,b,p,()))) {p3:Blk×List Int×Int×Unit→Bool} {f3:Blk×List Int×Int×Unit→Int×Int×Int×Int×Int×Int×List Int×Int×List IOp×Unit} (hp3:∀c b p,c.ops.length<1000000→Bt b→0≤p→p<900000000→p3 (c,b,p,())=true) (hf3:∀c b p,c.ops.length<1000000→Bt b→0≤p→p<900000000→BkD 20 c.ops.length b p (f3 (c,b,p,()))) {p4:List Int×Int×Unit→Bool} {f4:List Int×Int×Unit→Int×Int×Int×Int×Int×Int×List Int×Int×List IOp×Unit} (hp4:∀b p,Bt b→0≤p→p<600000000→p4 (b,p,())=true) (hf4:∀b p,Bt b→0≤p→p<600000000→BkD 2000 5000 b p (f4 (b,p,()))) (n:Int) (b:List Int) (p:Int) (hb:Bt b) (h1:0≤p) (h2:p<500000000):Ga (std 0) p1 f1 p2 f2 p3 f3 p4 f4 (n,b,p,()) (fun y=>BoD b p y):=by
  obtain⟨a1,a2,a3,a4⟩:=hf4 b p hb h1 (by omega)
  have H4:=hp4 b p hb h1 (by omega)
  have R:=pkR hb hf2
  have P:=fun n p h1 h2=>hp2 n b p hb h1 h2
  have R1:=fun n p h1 h2=>(hf1 n b p hb h1 h2).1
  have R2:=fun n p h1 h2=>(hf1 n b p hb h1 h2).2
  have P1:=fun n p h1 h2=>hp1 n b p hb h1 h2
  dsimp only [Ga,Alg.cl,Alg.cg,Alg.rb,Alg.bd,Alg.l1,Tup.q,Tup.o]
  simp (disch:=omega) only [RR,RB,H4,a1,R,P,R1,R2,P1,List.length_cons,List.length_nil,List.length_append]
  repeat' (first | (refine And.intro ?_ ?_) | intro _)
  all_goals try omega
  all_goals try exact BoD.mk (show(f4 (b,p,())).2.2.2.2.2.2.2.2.1.length<100000 by omega) rfl (by dsimp only;omega) (by dsimp only;omega)
  all_goals try exact hp3 _ _ _ (show(f4 (b,p,())).2.2.2.2.2.2.2.2.1.length<1000000 by omega) hb (by omega) (by omega)
  all_goals try exact BoD.mk (show(_++ [_]).length<100000 by rw [List.length_append,List.length_singleton];omega) rfl (by dsimp only;omega) (by dsimp only;omega)
  all_goals try exact(fun h=>BoD.mk (Nat.lt_of_le_of_lt h.len (show(f4 (b,p,())).2.2.2.2.2.2.2.2.1.length<100000 by omega)) h.b (by have:=h.lo;dsimp only;omega) (by have:=h.hi;dsimp only;omega)) (hf3 _ _ _ (show(f4 (b,p,())).2.2.2.2.2.2.2.2.1.length<1000000 by omega) hb (by omega) (by omega))
  all_goals
    refine aA (fun(y:List Int×Int×Int×Int×Int×Int×Int×Int×Int×Int×Int×Int×Int×Int×List IOp×Unit)=>y.1=b∧p≤y.2.1∧y.2.1≤p+5000∧y.2.2.2.2.2.2.2.2.2.2.2.2.2.2.1.length<50000) (fun y=>50-y.2.2.2.2.2.2.2.2.2.2.2.2.2.2.1.length) ⟨rfl,by dsimp only;omega,by dsimp only;omega,by dsimp only;omega⟩ ?_
    rintro⟨(b':List Int),(q:Int),u1,u2,u3,u4,u5,u6,b1,b2,b3,b4,b5,b6,(ops:List IOp),⟨⟩⟩ hI
    dsimp only at hI ⊢
    obtain⟨rfl,h3,h4,h5⟩:=hI
    simp (disch:=omega) only [RR,List.length_append,List.length_cons,List.length_nil]
    refine⟨fun h=>⟨by omega,⟨by omega,by omega,by omega⟩,by omega⟩,fun h=>⟨show ops.length<100000 by omega,rfl,by dsimp only;omega,by dsimp only;omega⟩⟩
end Go.TX.F
namespace Go.TX.F
open Go Go.AE Go.TX
end Go.TX.F
namespace Go.TX.F
open Go Go.AE Go.TX
end Go.TX.F
namespace Go.TX.F
open Go Go.AE Go.TX
end Go.TX.F
namespace Go.TX.F
open Go Go.AE Go.TX
theorem aep (x y:IOp):ajO .iop x y=decide (x=y):=rfl
theorem QO {P:Prop} [Decidable P]:decide P=bp P:=by unfold bp;congr
theorem Zn (a b:List IOp) (ha:a.length<1000000000):Gw (std 0) (a,b,()) (fun y=>y=(bp (a=b),())):=by
  dsimp only [Gw,Alg.cl,Alg.cg,Alg.rb,Alg.bd,Alg.l1,Tup.q,Tup.o]
  simp (disch:=omega) only [RR]
  refine⟨fun h=> ?_,fun h=> ?_⟩
  · rw [iq (fun e=>h (by rw [e]))]
  have hl:a.length=b.length:=by omega
  refine aA (fun(y:List IOp×List IOp×Int×Int×Unit)=>y.1=a∧y.2.1=b∧y.2.2.1=a.length∧0≤y.2.2.2.1∧y.2.2.2.1≤a.length∧All y.2.2.2.1 (fun i=>a.getD i.toNat default=b.getD i.toNat default)) (fun y=>(a.length-y.2.2.2.1).toNat) ⟨rfl,rfl,rfl,by simp,by simp,All.zero⟩ ?_
  rintro⟨(l1:List IOp),(l2:List IOp),(n:Int),(i:Int),⟨⟩⟩ hI
  dsimp only at hI ⊢
  obtain⟨rfl,rfl,rfl,h1,h2,h3⟩:=hI
  simp (disch:=omega) only [RR,aep]
  refine⟨fun h4=>⟨by omega,by omega,by omega,by omega,fun h5=> ?_,fun h5=>⟨⟨by omega,by omega,h3.snoc h5⟩,by omega⟩⟩,fun h4=> ?_⟩
  · rw [iq]
    intro e;rw [e]at h5;exact h5 rfl
  · rw [dP (CZ hl (h3.le (by omega)))]
theorem aer {p1:List IOp×List IOp×Unit→Bool} {f1:List IOp×List IOp×Unit→Bool×Unit} (hp1:∀a b,a.length<1000000000→p1 (a,b,())=true) (hf1:∀a b,a.length<1000000000→f1 (a,b,())=(bp (a=b),())) (a b:Blk) (ha:a.ops.length<1000000000):Oo (std 0) p1 f1 (a,b,()) (fun y=>y=(bp (a=b),())):=by
  dsimp only [Oo,Alg.cl,Alg.cg,Alg.rb,Alg.bd,Alg.l1,Tup.q,Tup.o]
  simp (disch:=omega) only [RR,RB,hp1 _ _ ha,hf1 _ _ ha]
  simp only [QO,←uZ]
  refine Prod.ext (u7 ?_) rfl
  cases a;cases b;simp only [Blk.mk.injEq]
  constructor<;>(intro h;simp only [h,and_self])
theorem aes {p1:List aj×List aj×Unit→Bool} {f1:List aj×List aj×Unit→Bool×Unit} (hp1:∀a b,Sh a→p1 (a,b,())=true) (hf1:∀a b,Sh a→f1 (a,b,())=(decide (iU a b=0),())) (a b:List aj) (ha:Sh a):Ou (std 0) p1 f1 (a,b,()) (fun y=>y=(decide (iU a b=0),())):=by
  dsimp only [Ou,Alg.cl,Alg.cg,Alg.rb,Alg.bd,Alg.l1,Tup.q,Tup.o]
  simp (disch:=omega) only [RR,hp1 _ _ ha,hf1 _ _ ha]
theorem Zo {p1:List aj×List aj×Unit→Bool} {f1:List aj×List aj×Unit→Bool×Unit} (hp1:∀a b,Sh a→p1 (a,b,())=true) (hf1:∀a b,Sh a→f1 (a,b,())=(decide (iU a b=0),())) (a b:List (List aj)) (ha:ShP a):Gx (std 0) p1 f1 (a,b,()) (fun y=>y=(bp (a=b),())):=by
  have hlen:=ha.1
  dsimp only [Gx,Alg.cl,Alg.cg,Alg.rb,Alg.bd,Alg.l1,Tup.q,Tup.o]
  simp (disch:=omega) only [RR]
  refine⟨fun h=> ?_,fun h=> ?_⟩
  · rw [iq (fun e=>h (by rw [e]))]
  have hl:a.length=b.length:=by omega
  refine aA (fun(y:List (List aj)×List (List aj)×Int×Int×Unit)=>y.1=b∧y.2.1=a∧y.2.2.1=a.length∧0≤y.2.2.2.1∧y.2.2.2.1≤a.length∧All y.2.2.2.1 (fun i=>a.getD i.toNat default=b.getD i.toNat default)) (fun y=>(a.length-y.2.2.2.1).toNat) ⟨rfl,rfl,rfl,by simp,by simp,All.zero⟩ ?_
  rintro⟨(l1:List (List aj)),(l2:List (List aj)),(n:Int),(i:Int),⟨⟩⟩ hI
  dsimp only at hI ⊢
  obtain⟨rfl,rfl,rfl,h1,h2,h3⟩:=hI
  simp (disch:=omega) only [RR,hp1 _ _ (ha.at _),hf1 _ _ (ha.at _),mG]
  refine⟨fun h4=>⟨by omega,by omega,by omega,by omega,fun h5=> ?_,fun h5=>⟨⟨by omega,by omega,h3.snoc h5⟩,by omega⟩⟩,fun h4=> ?_⟩
  · rw [iq]
    intro e;rw [e]at h5;exact h5 rfl
  · rw [dP (CZ hl (h3.le (by omega)))]
theorem aeu {p1:List (List aj)×List (List aj)×Unit→Bool} {f1:List (List aj)×List (List aj)×Unit→Bool×Unit} (hp1:∀a b,ShP a→p1 (a,b,())=true) (hf1:∀a b,ShP a→f1 (a,b,())=(bp (a=b),())) (a b:List (List aj)) (ha:ShP a):Ov (std 0) p1 f1 (a,b,()) (fun y=>y=(bp (a=b),())):=by
  dsimp only [Ov,Alg.cl,Alg.cg,Alg.rb,Alg.bd,Alg.l1,Tup.q,Tup.o]
  simp (disch:=omega) only [RR,hp1 _ _ ha,hf1 _ _ ha]
theorem aev {p1:List aj×List aj×Unit→Bool} {f1:List aj×List aj×Unit→Bool×Unit} (hp1:∀a b,Sh a→p1 (a,b,())=true) (hf1:∀a b,Sh a→f1 (a,b,())=(decide (iU a b=0),())) {p2:List (List aj)×List (List aj)×Unit→Bool} {f2:List (List aj)×List (List aj)×Unit→Bool×Unit} (hp2:∀a b,ShP a→p2 (a,b,())=true) (hf2:∀a b,ShP a→f2 (a,b,())=(bp (a=b),())) (a b:Ev) (ha:ShE a):Ow (std 0) p1 f1 p2 f2 (a,b,()) (fun y=>y=(bp (a=b),())):=by
  dsimp only [Ow,Alg.cl,Alg.cg,Alg.rb,Alg.bd,Alg.l1,Tup.q,Tup.o]
  simp (disch:=omega) only [RR,RB,hp1 _ _ ha.1,hf1 _ _ ha.1,hp1 _ _ ha.2.1,hf1 _ _ ha.2.1,hp2 _ _ ha.2.2,hf2 _ _ ha.2.2,mG]
  simp only [QO,←uZ]
  refine Prod.ext (u7 ?_) rfl
  cases a;cases b;simp only [Ev.mk.injEq]
  constructor<;>(intro h;simp only [h,and_self])
theorem Zp {p1:Ev×Ev×Unit→Bool} {f1:Ev×Ev×Unit→Bool×Unit} (hp1:∀a b,ShE a→p1 (a,b,())=true) (hf1:∀a b,ShE a→f1 (a,b,())=(bp (a=b),())) (a b:List Ev) (ha:VE a):Gy (std 0) p1 f1 (a,b,()) (fun y=>y=(bp (a=b),())):=by
  have hlen:=ha.1
  dsimp only [Gy,Alg.cl,Alg.cg,Alg.rb,Alg.bd,Alg.l1,Tup.q,Tup.o]
  simp (disch:=omega) only [RR]
  refine⟨fun h=> ?_,fun h=> ?_⟩
  · rw [iq (fun e=>h (by rw [e]))]
  have hl:a.length=b.length:=by omega
  refine aA (fun(y:List Ev×List Ev×Int×Int×Unit)=>y.1=b∧y.2.1=a∧y.2.2.1=a.length∧0≤y.2.2.2.1∧y.2.2.2.1≤a.length∧All y.2.2.2.1 (fun i=>a.getD i.toNat default=b.getD i.toNat default)) (fun y=>(a.length-y.2.2.2.1).toNat) ⟨rfl,rfl,rfl,by simp,by simp,All.zero⟩ ?_
  rintro⟨(l1:List Ev),(l2:List Ev),(n:Int),(i:Int),⟨⟩⟩ hI
  dsimp only at hI ⊢
  obtain⟨rfl,rfl,rfl,h1,h2,h3⟩:=hI
  simp (disch:=omega) only [RR,hp1 _ _ (ha.at _),hf1 _ _ (ha.at _),bW,tT]
  refine⟨fun h4=>⟨by omega,by omega,by omega,by omega,fun h5=> ?_,fun h5=>⟨⟨by omega,by omega,h3.snoc h5⟩,by omega⟩⟩,fun h4=> ?_⟩
  · rw [iq]
    intro e;rw [e]at h5;exact h5 rfl
  · rw [dP (CZ hl (h3.le (by omega)))]
theorem aew {p1:List aj×List aj×Unit→Bool} {f1:List aj×List aj×Unit→Bool×Unit} (hp1:∀a b,Sh a→p1 (a,b,())=true) (hf1:∀a b,Sh a→f1 (a,b,())=(decide (iU a b=0),())) {p2:List (List aj)×List (List aj)×Unit→Bool} {f2:List (List aj)×List (List aj)×Unit→Bool×Unit} (hp2:∀a b,ShP a→p2 (a,b,())=true) (hf2:∀a b,ShP a→f2 (a,b,())=(bp (a=b),())) {p3:List Ev×List Ev×Unit→Bool} {f3:List Ev×List Ev×Unit→Bool×Unit} (hp3:∀b a,VE b→p3 (b,a,())=true) (hf3:∀b a,VE b→f3 (b,a,())=(bp (b=a),())) (a b:Sym) (ha:ShY a):Ox (std 0) p1 f1 p2 f2 p3 f3 (a,b,()) (fun y=>y=(bp (a=b),())):=by
  dsimp only [Ox,Alg.cl,Alg.cg,Alg.rb,Alg.bd,Alg.l1,Tup.q,Tup.o]
  simp (disch:=omega) only [RR,RB,hp1 _ _ ha.x,hf1 _ _ ha.x,hp1 _ _ ha.y,hf1 _ _ ha.y,hp2 _ _ ha.r,hf2 _ _ ha.r,hp3 _ _ ha.e,hf3 _ _ ha.e,mG]
  simp only [QO,←uZ]
  refine Prod.ext (u7 ?_) rfl
  cases a;cases b;simp only [Sym.mk.injEq]
  constructor<;>(intro h;simp only [h,and_self])
theorem amV {p1:Blk×Unit→Bool} {f1:Blk×Unit→Bool×Unit} (hp1:∀b,b.ops.length<1000000000→p1 (b,())=true) (hf1:∀b,b.ops.length<1000000000→f1 (b,())=(bp (dH b),())) {p2:Blk×Blk×Unit→Bool} {f2:Blk×Blk×Unit→Bool×Unit} (hp2:∀a b,a.ops.length<1000000000→p2 (a,b,())=true) (hf2:∀a b,a.ops.length<1000000000→f2 (a,b,())=(bp (a=b),())) {p3:Unit→Bool} {f3:Unit→List Atom×List (List aj)×Unit} (hp3:p3 ()=true) (hf3:(f3 ()).1=t4) {p4:List Atom×Blk×Unit→Bool} {f4:List Atom×Blk×Unit→List Atom×Sym×Unit} (hp4:∀t b,ShT t→b.ops.length<1000000000→p4 (t,b,())=true) (hf4:∀t b,ShT t→b.ops.length<1000000000→f4 (t,b,())=((bR t b).1,(bR t b).2,())) {p5:Sym×Sym×Unit→Bool} {f5:Sym×Sym×Unit→Bool×Unit} (hp5:∀a b,ShY a→p5 (a,b,())=true) (hf5:∀a b,ShY a→f5 (a,b,())=(bp (a=b),())) (b c:Blk) (hb:b.ops.length<1000000000) (hc:c.ops.length<1000000000):XW (std 0) p1 f1 p2 f2 p3 f3 p4 f4 p5 f5 (b,c,()) (fun y=>y=(chk b c,())):=by
  have s4:ShT t4:=YK.1.sh
  have y1:=KS t4 b
  dsimp only [XW,Alg.cl,Alg.cg,Alg.rb,Alg.bd,Alg.l1,Tup.q,Tup.o]
  simp (disch:=omega) only [RR,RB,hp1 b hb,hf1 b hb,hp1 c hc,hf1 c hc,hp2 b c hb,hf2 b c hb,hp3,hf3,hp4 t4 b s4 hb,hf4 t4 b s4 hb,hp4 _ c y1.2 hc,hf4 _ c y1.2 hc,hp5 _ _ y1.1,hf5 _ _ y1.1,bW,tT]
  unfold chk
  refine⟨fun h=> ?_,fun h=>⟨fun e=> ?_,fun e=> ?_⟩⟩
  · rw [iq];rintro⟨h1,h2,h3,h4,_⟩;simp_all
  · rw [dP];exact⟨h.1.1.1,h.1.1.2,h.1.2,h.2,Or.inl e⟩
  · refine Prod.ext (u7 ?_) rfl
    exact⟨fun g=>⟨h.1.1.1,h.1.1.2,h.1.2,h.2,Or.inr g⟩,fun g=>g.2.2.2.2.resolve_left e⟩
end Go.TX.F
namespace Go.TX.F
open Go Go.AE Go.TX
theorem mkB (p l o f x y k):Co.mk .blk (p,l,o,f,x,y,k,())=Blk.mk p l o f x y k:=rfl
structure aoI (nm:List Int) (fin x y:Int) (ops:List IOp):Prop where
  op:∀i:Int,0≤i→i<ops.length→(hX ((ops).getD (i).toNat default)→0≤(((ops).getD (i).toNat default)).x∧(((ops).getD (i).toNat default)).x<nm.length)∧(hY ((ops).getD (i).toNat default)→0≤(((ops).getD (i).toNat default)).y∧(((ops).getD (i).toNat default)).y<nm.length)
  x:fin≠1→0≤x∧x<nm.length
  y:3≤fin→0≤y∧y<nm.length
  l:ops.length<1000000000
theorem amW (b:Blk) (hb:b.ops.length<1000000000):X0 (std 0) (b,()) (fun y=>y=bk7 b):=by
  dsimp only [X0,Alg.cl,Alg.cg,Alg.rb,Alg.bd,Alg.l1,Tup.q,Tup.o]
  simp (disch:=omega) only [RR,RB]
  omega
theorem aex (i a1 a2 a3 a4 a5 a6:Int) (ops:List IOp) (h:0≤i∧i<ops.length):Oz (std 0) (i,a1,a2,a3,a4,a5,a6,ops,()) (fun y=>y=(decide ((((ops).getD (i).toNat default)).kind=1),a1,a2,a3,a4,a5,a6,ops,())):=by
  dsimp only [Oz,Alg.cl,Alg.cg,Alg.rb,Alg.bd,Alg.l1,Tup.q,Tup.o]
  simp (disch:=omega) only [RR,RB]
  omega
end Go.TX.F
namespace Go.TX.F
open Go Go.AE Go.TX
theorem aey {p1:Blk×Unit→Bool} {f1:Blk×Unit→Int×Int×Int×Int×Int×Int×List IOp×Unit} (hp1:∀b,b.ops.length<1000000000→p1 (b,())=true) (hf1:∀b,b.ops.length<1000000000→f1 (b,())=bk7 b) {p2:Blk×Unit→Bool} {f2:Blk×Unit→Bool×Unit} (hp2:∀b,b.ops.length<1000000000→p2 (b,())=true) (hf2:∀b,b.ops.length<1000000000→f2 (b,())=(bp (dH b),())) {p3:Int×Int×Int×Int×Int×Int×Int×List IOp×Unit→Bool} {f3:Int×Int×Int×Int×Int×Int×Int×List IOp×Unit→Bool×Int×Int×Int×Int×Int×Int×List IOp×Unit} (hp3:∀(i a1 a2 a3 a4 a5 a6:Int) (ops:List IOp),0≤i∧i<ops.length→p3 (i,a1,a2,a3,a4,a5,a6,ops,())=true) (hf3:∀(i a1 a2 a3 a4 a5 a6:Int) (ops:List IOp),0≤i∧i<ops.length→f3 (i,a1,a2,a3,a4,a5,a6,ops,())=(decide ((((ops).getD (i).toNat default)).kind=1),a1,a2,a3,a4,a5,a6,ops,())) {p4:Int×Int×Int×Unit→Bool} {f4:Int×Int×Int×Unit→Int×Unit} (hp4:∀op a b,p4 (op,a,b,())=true) (hf4:∀op a b,f4 (op,a,b,())=(wdo op a b,())) {p5:Int×Int×Int×Unit→Bool} {f5:Int×Int×Int×Unit→Bool×Unit} (hp5:∀r a b,p5 (r,a,b,())=true) (hf5:∀r a b,f5 (r,a,b,())=(inB a 0 65535&&inB b 0 65535&& (decide (r=1∧a=b∨r=2∧a<b)),())) (b:Blk) (hb:b.ops.length<1000000):OA (std 0) p1 f1 p2 f2 p3 f3 p4 f4 p5 f5 (b,()) (fun y=>y=(aP b,())):=by
  dsimp only [OA,Alg.cl,Alg.cg,Alg.rb,Alg.bd,Alg.l1,Tup.q,Tup.o]
  simp (disch:=omega) only [RR,RB,hp1 b (by omega),hf1 b (by omega),hp2 b (by omega),hf2 b (by omega),mkB]
  refine⟨fun h=>by unfold aP;rw [h,if_neg (by decide)];rfl,fun h=> ?_⟩
  have ok:=bW.1 h
  rw [kg ok]
  have n48:=ok.sz
  refine aA (fun(y:Int×Int×Blk×Int×Int×Int×Int×Int×Int×Int×Int×Int×Int×Int×Int×List IOp×Unit)=>y.1=b.ops.length∧0≤y.2.1∧y.2.1≤b.ops.length∧y.2.2.1=b∧y.2.2.2.2.2.2.2.2.2=(b.pc,b.len,b.fin,b.x,b.y,b.k,fc b.ops y.2.1.toNat++b.ops.drop y.2.1.toNat,())) (fun y=>((b.ops.length:Int)-y.2.1).toNat) ⟨rfl,by dsimp only;omega,by dsimp only;omega,rfl,rfl⟩ ?_
  rintro⟨(n:Int),(k:Int),(b':Blk),u1,u2,u3,u4,u5,u6,b1,b2,b3,b4,b5,b6,(ops:List IOp),⟨⟩⟩ hI
  dsimp only at hI ⊢
  simp only [Prod.mk.injEq,and_true]at hI
  obtain⟨rfl,h1,h2,rfl,rfl,rfl,rfl,rfl,rfl,rfl,rfl⟩:=hI
  have fl:=kQ b'.ops k.toNat
  have ln:=KW (l:=b'.ops) fl (by omega)
  have C:=fun j hj=>hf3 j b'.pc b'.len b'.fin b'.x b'.y b'.k (fc b'.ops k.toNat++b'.ops.drop k.toNat) hj
  have Cp:=fun j hj=>hp3 j b'.pc b'.len b'.fin b'.x b'.y b'.k (fc b'.ops k.toNat++b'.ops.drop k.toNat) hj
  by_cases c:k<b'.ops.length
  · have o:=ok.op k h1 c
    have ek:=QN (d:=default) (l:=b'.ops) fl (by omega)
    have lo:=fun(j:Int) (j0:0≤j) (j1:j<k)=>Zc (d:=default) (l:=b'.ops) (j:=j.toNat) fl (by omega)
    have nx:fc b'.ops (k+1).toNat=fc b'.ops k.toNat++ [fcO (fc b'.ops k.toNat) ((b'.ops).getD (k).toNat default)]:=by rw [show(k+1).toNat=k.toNat+1 by omega];rfl
    have hk:=OP (d:=default) (f:=fc b'.ops k.toNat) (l:=b'.ops) (k:=k.toNat) (by omega)
    have hs:=fun x=>KV (x:=x) (l:=b'.ops) fl (by omega)
    have rg:∀x:Int,Vl b'.ops x k→0≤x∧x<k:=fun x v=>⟨v.1,v.2.1⟩
    have fo:fcO (fc b'.ops k.toNat) ((b'.ops).getD (k).toNat default)=if(((b'.ops).getD (k).toNat default)).kind=3∧((((fc b'.ops k.toNat)).getD ((((b'.ops).getD (k).toNat default)).x).toNat default)).kind=1∧((((fc b'.ops k.toNat)).getD ((((b'.ops).getD (k).toNat default)).y).toNat default)).kind=1 then⟨1,0,0,wdo (((b'.ops).getD (k).toNat default)).k ((((fc b'.ops k.toNat)).getD ((((b'.ops).getD (k).toNat default)).x).toNat default)).k ((((fc b'.ops k.toNat)).getD ((((b'.ops).getD (k).toNat default)).y).toNat default)).k,0⟩else((b'.ops).getD (k).toNat default):=rfl
    generalize hq:((b'.ops).getD (k).toNat default)=q at*
    generalize hM:fc b'.ops k.toNat++b'.ops.drop k.toNat=M at*
    by_cases c3:q.kind=3
    · have vx:=rg _ (o.x1 (by unfold hX;omega))
      have vy:=rg _ (o.y1 (Or.inl c3))
      have rx:0≤q.x∧q.x<M.length:=⟨vx.1,by omega⟩
      have ry:0≤q.y∧q.y<M.length:=⟨vy.1,by omega⟩
      rw [←lo _ vx.1 vx.2,←lo _ vy.1 vy.2]at fo
      simp (disch:=omega) only [RR,RB,ln,ek,hq,C _ rx,Cp _ rx,C _ ry,Cp _ ry,hp4,hf4,c,c3,rx,ry,decide_true,Bool.true_and]
      rw [nx,show(k+1).toNat=k.toNat+1 by omega]
      refine⟨h1,h1,fun d=>⟨fun e=>⟨by omega,by omega,by omega,by omega,h1,h1,⟨by omega,by omega,?_⟩,by omega⟩,fun e=>⟨⟨by omega,by omega,?_⟩,by omega⟩⟩,fun d=>⟨d,⟨by omega,by omega,?_⟩,by omega⟩⟩
      · rw [if_pos ⟨c3,e⟩]at fo;rw [fo,hs]
      · rw [if_neg (by rintro⟨_,g1,g2⟩;rw [g1,g2]at e;cases e)]at fo;rw [fo,hk]
      · rw [if_neg (by rintro⟨_,g1,g2⟩;exact d g1)]at fo;rw [fo,hk]
    · simp (disch:=omega) only [RR,RB,ln,ek,hq,c,c3]
      rw [nx,show(k+1).toNat=k.toNat+1 by omega]
      refine⟨h1,h1,⟨by omega,by omega,?_⟩,by omega⟩
      rw [if_neg (fun g=>c3 g.1)]at fo;rw [fo,hk]
  · have z:fc b'.ops k.toNat++b'.ops.drop k.toNat=fc b'.ops b'.ops.length:=by rw [List.drop_of_length_le (by omega),List.append_nil,show k.toNat=b'.ops.length by omega]
    have fe:=ok.fe (kQ b'.ops b'.ops.length)
    have fx:=fe.x
    have fy:=fe.y
    have hf:=fe.f
    have y0:=fe.y0
    have hp:=fe.p
    dsimp only at fx fy hf y0 hp
    rw [z]at C Cp ⊢
    have ln:=kQ b'.ops b'.ops.length
    have fi:=fun(j:Int) h1 h2 h3=>((vV ok [] b'.ops.length (Nat.le_refl _)).2.c j h1 h2 h3).1
    generalize fc b'.ops b'.ops.length=M at*
    have e0:¬(b'.fin=2∧(((M).getD (b'.x).toNat default)).kind=1)→¬(3≤b'.fin∧(((M).getD (b'.x).toNat default)).kind=1∧(((M).getD (b'.y).toNat default)).kind=1)→fcB b' M=⟨b'.pc,b'.len,M,b'.fin,b'.x,b'.y,b'.k⟩:=fun g1 g2=>by unfold fcB;rw [if_neg g1,if_neg g2]
    by_cases f1':b'.fin=1
    · rw [e0 (by omega) (by omega)]
      simp (disch:=omega) only [RR,RB,ln,c,show¬b'.fin=2 by omega,show¬3≤b'.fin by omega,mkB,decide_false]
      rfl
    · have rx:=fx f1'
      by_cases f2':b'.fin=2
      · by_cases d:(((M).getD (b'.x).toNat default)).kind=1
        · have e:fcB b' M=⟨b'.pc,b'.len,M,1,0,b'.y,(((M).getD (b'.x).toNat default)).k⟩:=by unfold fcB;rw [if_pos ⟨f2',d⟩]
          rw [e]
          simp (disch:=omega) only [RR,RB,ln,c,eq_true f2',eq_true d,mkB,C _ rx,Cp _ rx,decide_true,Bool.true_and,Bool.and_true,Bool.and_false]
          exact⟨rx.1,by omega,rx.1,by omega,rfl⟩
        · rw [e0 (by omega) (by omega)]
          simp (disch:=omega) only [RR,RB,ln,c,eq_true f2',d,show¬3≤b'.fin by omega,mkB,C _ rx,Cp _ rx,decide_true,decide_false,Bool.true_and,Bool.and_true,Bool.and_false]
          rfl
      · have ry:=fy (by omega)
        have f3':3≤b'.fin:=by omega
        by_cases d1:(((M).getD (b'.x).toNat default)).kind=1
        · by_cases d2:(((M).getD (b'.y).toNat default)).kind=1
          · have e:fcB b' M=⟨b'.pc,b'.len,M,1,0,0,if b'.fin=3∧(((M).getD (b'.x).toNat default)).k=(((M).getD (b'.y).toNat default)).k∨b'.fin=4∧(((M).getD (b'.x).toNat default)).k< (((M).getD (b'.y).toNat default)).k then b'.k else b'.pc+b'.len⟩:=by unfold fcB;rw [if_neg (by omega),if_pos ⟨f3',d1,d2⟩]
            have r1:=eu.2 (fi b'.x rx.1 (by omega) d1)
            have r2:=eu.2 (fi b'.y ry.1 (by omega) d2)
            rw [e]
            simp (disch:=omega) only [RR,RB,ln,c,f2',f3',d1,d2,mkB,C _ rx,Cp _ rx,C _ ry,Cp _ ry,hp5,hf5,r1,r2,decide_true,decide_false,Bool.true_and,Bool.and_true,Bool.and_false]
            refine⟨rx.1,by omega,rx.1,by omega,ry.1,by omega,ry.1,by omega,fun g=> ?_,fun g=> ?_⟩
            · rw [if_neg (by omega)];rfl
            · rw [if_pos (by omega)];rfl
          · rw [e0 (by omega) (by omega)]
            simp (disch:=omega) only [RR,RB,ln,c,f2',f3',d1,d2,mkB,C _ rx,Cp _ rx,C _ ry,Cp _ ry,decide_true,decide_false,Bool.true_and,Bool.and_true,Bool.and_false]
            rfl
        · rw [e0 (by omega) (by omega)]
          simp (disch:=omega) only [RR,RB,ln,c,f2',f3',d1,mkB,C _ rx,Cp _ rx,decide_true,decide_false,Bool.true_and,Bool.and_true,Bool.and_false]
          rfl
end Go.TX.F
namespace Go.TX.F
open Go Go.AE Go.TX
theorem aez (a b:Blk) (ha:a.ops.length<1000000000):Oy (std 0) (a,b,()) (fun y=>y=(bp (a=b),())):=by
  dsimp only [Oy,Alg.cl,Alg.cg,Alg.rb,Alg.bd,Alg.l1,Tup.q,Tup.o]
  simp (disch:=omega) only [RR,RB]
  refine⟨fun h=> ?_,fun h=> ?_⟩
  · rw [iq];rintro rfl;simp at h
  have hl:a.ops.length=b.ops.length:=by omega
  refine aA (fun(y:Int×Blk×Blk×Unit)=>y.2.1=a∧y.2.2.1=b∧0≤y.1∧y.1≤a.ops.length∧All y.1 (fun i=>a.ops.getD i.toNat default=b.ops.getD i.toNat default)) (fun y=>(a.ops.length-y.1).toNat) ⟨rfl,rfl,by simp,by simp,All.zero⟩ ?_
  rintro⟨(i:Int),(a':Blk),(b':Blk),⟨⟩⟩ hI
  dsimp only at hI ⊢
  obtain⟨rfl,rfl,h1,h2,h3⟩:=hI
  simp (disch:=omega) only [RR,RB,aep]
  refine⟨fun h4=>⟨by omega,by omega,by omega,by omega,fun h5=> ?_,fun h5=>⟨⟨by omega,by omega,h3.snoc h5⟩,by omega⟩⟩,fun h4=> ?_⟩
  · rw [iq];rintro rfl;exact h5 rfl
  · have e:=CZ hl (h3.le (by omega))
    rw [dP]
    cases a';cases b';simp_all
end Go.TX.F
namespace Go.TX.F
open Go Go.AE Go.TX
theorem Zq {p1:Blk×Unit→Bool} {f1:Blk×Unit→Int×Int×Int×Int×Int×Int×List IOp×Unit} (hp1:∀b,b.ops.length<1000000→p1 (b,())=true) (hf1:∀b,b.ops.length<1000000→f1 (b,())=bk7 (dz b)) {p2:List Int×Unit→Bool} {f2:List Int×Unit→List Int×Int×Unit} (hp2:∀b,By b→b.length<1000000000→p2 (b,())=true) (hf2:∀b,By b→b.length<1000000000→Bt (f2 (b,())).1∧(f2 (b,())).2.1=0) {p3:Int×List Int×Int×Unit→Bool} {f3:Int×List Int×Int×Unit→Int×List Int×Int×Unit} (hp3:∀n b p,Bt b→0≤p→p<1000000000→p3 (n,b,p,())=true) (hf3:∀n b p,Bt b→0≤p→p<1000000000→Pk n b p (f3 (n,b,p,()))) {p4:Int×List Int×Int×Unit→Bool} {f4:Int×List Int×Int×Unit→Blk×List Int×Int×Unit} (hp4:∀n b p,Bt b→0≤p→p<500000000→p4 (n,b,p,())=true) (hf4:∀n b p,Bt b→0≤p→p<500000000→BoD b p (f4 (n,b,p,()))) (c:List Int) (hc:By c) (hl:c.length<1000000000):Gz (std 0) p1 f1 p2 f2 p3 f3 p4 f4 (c,()) (fun y=>y.1.ops.length<100000):=by
  obtain⟨hb,e0⟩:=hf2 c hc hl
  generalize hbe:(f2 (c,())).1=b at hb
  have R:=pkR hb hf3
  have P:=fun n p h1 h2=>hp3 n b p hb h1 h2
  have B:=fun(q:Int) h1 h2=>hf4 14 b q hb h1 h2
  have Bp:=fun(q:Int) h1 h2=>hp4 14 b q hb h1 h2
  dsimp only [Gz,Alg.cl,Alg.cg,Alg.rb,Alg.bd,Alg.l1,Tup.q,Tup.o]
  simp (disch:=omega) only [RR,hp2 c hc hl,hbe,e0,R,P]
  have b1:=(B (0+1) (by omega) (by omega)).1
  refine⟨fun _=>⟨Bp _ (by omega) (by omega),hp1 _ (by omega),?_⟩,fun _=>⟨Bp _ (by omega) (by omega),b1⟩⟩
  rw [hf1 _ (by omega)]
  exact Nat.lt_of_le_of_lt (sS _) b1
theorem aeA {p1:Blk×Blk×Unit→Bool} {f1:Blk×Blk×Unit→Bool×Unit} (hp1:∀b c,b.ops.length<1000000000→c.ops.length<1000000000→p1 (b,c,())=true) (hf1:∀b c,b.ops.length<1000000000→c.ops.length<1000000000→f1 (b,c,())=(chk b c,())) {p2:Blk×Unit→Bool} {f2:Blk×Unit→Blk×Unit} (hp2:∀b,b.ops.length<1000000→p2 (b,())=true) (hf2:∀b,b.ops.length<1000000→f2 (b,())=(aP b,())) {p3:Blk×Blk×Unit→Bool} {f3:Blk×Blk×Unit→Bool×Unit} (hp3:∀a b,a.ops.length<1000000000→p3 (a,b,())=true) (hf3:∀a b,a.ops.length<1000000000→f3 (a,b,())=(bp (a=b),())) {p4:Unit→Bool} {f4:Unit→Bool×Unit} (hp4:p4 ()=true) (hf4:f4 ()=(true,())) {p5:List Int×Unit→Bool} {f5:List Int×Unit→Blk×Unit} (hp5:∀c,By c→c.length<1000000000→p5 (c,())=true) (hf5:∀c,By c→c.length<1000000000→(f5 (c,())).1.ops.length<100000) {p6:Blk×Unit→Bool} {f6:Blk×Unit→Bool×Unit} (hp6:∀b,b.ops.length<1000000000→p6 (b,())=true) (hf6:∀b,b.ops.length<1000000000→f6 (b,())=(bp (dH b),())) {p7:Blk×Unit→Bool} {f7:Blk×Unit→Blk×Unit} (hp7:∀b,b.ops.length<1000000→p7 (b,())=true) (hf7:∀b,b.ops.length<1000000→f7 (b,())=(aP b,())) (c:List Int) (hc:By c):OB (std 0) p1 f1 p2 f2 p3 f3 p4 f4 p5 f5 p6 f6 p7 f7 (c,()) (fun y=>y=(true,())):=by
  dsimp only [OB,Alg.cl,Alg.cg,Alg.rb,Alg.bd,Alg.l1,Tup.q,Tup.o]
  simp (disch:=omega) only [RR]
  by_cases hl:1048576< (c.length:Int)
  · simp (disch:=omega) only [RR,hl]
  · have D:=hf5 c hc (by omega)
    have P:=hp5 c hc (by omega)
    generalize (f5 (c,())).1=b at D ⊢
    have le:=vC b
    have b1:b.ops.length<1000000:=by omega
    have b2:(aP b).ops.length<1000000:=by omega
    simp (disch:=omega) only [RR,hl,P,RB,hp2 b b1,hf2 b b1,hp7 b b1,hf7 b b1,hp3 _ (aP b) (show(aP b).ops.length<1000000000 by omega),hf3 _ (aP b) (show(aP b).ops.length<1000000000 by omega),dP True.intro,hp6 b (by omega),hf6 b (by omega),hp4,hf4]
    refine⟨fun h=>by rw [(aja (tT.1 h)).2.1];rfl,fun h=> ?_⟩
    have ok:=bW.1 h
    obtain⟨lk,ll⟩:=lI ok
    have two:=fun {i:Int} h0 h1 h3=>zO ok (i:=i) h0 h1 h3
    have tw:=G5 ok
    have xo:=lk.oc
    generalize aP b=x at*
    refine aA (fun(y:Int×Blk×Blk×Unit)=>0≤y.1∧y.1≤x.ops.length∧y.2.1=b∧y.2.2.1=x) (fun y=>(x.ops.length-y.1).toNat) ⟨by simp,by simp,rfl,rfl⟩ ?_
    rintro⟨(i:Int),(b':Blk),(x':Blk),⟨⟩⟩ hI
    dsimp only at hI ⊢
    obtain⟨i0,i1,rfl,rfl⟩:=hI
    by_cases g:i<x'.ops.length
    · have o:=xo.op i i0 g
      have t:=two i0 g
      have ox:=fun c3:(((x'.ops).getD (i).toNat default)).kind=3=>o.x1 (by unfold hX;omega)
      have oy:=fun c3:(((x'.ops).getD (i).toNat default)).kind=3=>o.y1 (Or.inl c3)
      simp (disch:=omega) only [RR,RB,g]
      by_cases c3:(((x'.ops).getD (i).toNat default)).kind=3
      · have t:=t c3
        have vx:=ox c3
        have vy:=oy c3
        refine⟨i0,Or.inr vx.1,Or.inr (by have:=vx.2.1;omega),Or.inr vy.1,Or.inr (by have:=vy.2.1;omega),fun q=>absurd ⟨q.1.2,q.2⟩ t,fun _=>⟨⟨by omega,by omega⟩,by omega⟩⟩
      · refine⟨i0,Or.inl c3,Or.inl c3,Or.inl (by rw [decide_eq_false c3];rfl),Or.inl (by rw [decide_eq_false c3];rfl),fun q=>absurd q.1.1 c3,fun _=>⟨⟨by omega,by omega⟩,by omega⟩⟩
    · simp (disch:=omega) only [RR,RB,g,hp1 b' x' (by omega) (by omega),hf1 b' x' (by omega) (by omega),lk.chk,hp2 x' b2,hf2 x' b2,tw,hp3 x' x' (by omega),hf3 x' x' (by omega),dP True.intro]
      rw [decide_eq_true (by omega)];rfl
end Go.TX.F
namespace Go.TX
open Go Go.AE
theorem enters_of {P:Program} {f:FuncId} {fn:Func} {c:Code} (hf:P.funcs[f]? =some fn) (hname:(fn.name== "runtime.NumGoroutine")=false) (hb:fn.body=some c):Enters P f:=by
  intro args w
  have h1:fn.name≠ "runtime.NumGoroutine" :=by simpa using hname
  simp [callFunc,hf,h1,hb,mark]
def Tx (P:Program):Nat→List Field→Bool
  | _,[]=>true
  | k,f::fs=> !(f.name== "_")&&f.offset==k&& (match P.underlying f.type with | some (.int _)=>true | _=>false)&&Tx P (k+1) fs
theorem Tz {P:Program} (w:World) (d:Nat) (xs ys:List Int) (hl:xs.length=ys.length):∀(fs:List Field) (k:Nat),Tx P k fs=true→k+fs.length=xs.length→
    (Op.eqFields (d+1) (xs.map (Value.int .i64)).toArray (ys.map (Value.int .i64)).toArray fs).run P w= .ok (xs.drop k==ys.drop k) w
  | [],k,_,h2=>by
    rw [List.drop_eq_nil_of_le (show xs.length≤k by simp only [List.length_nil]at h2;omega),List.drop_eq_nil_of_le (show ys.length≤k by simp only [List.length_nil]at h2;omega)]
    simp [Op.eqFields]
  | f::fs,k,h1,h2=>by
    simp only [List.length_cons]at h2
    simp only [Tx,Bool.and_eq_true,Bool.not_eq_true',beq_eq_false_iff_ne,beq_iff_eq]at h1
    obtain⟨⟨⟨n1,n2⟩,n3⟩,n4⟩:=h1
    have hk:k<xs.length:=by omega
    have hk':k<ys.length:=by omega
    obtain⟨kd,hu⟩:∃kd,P.underlying f.type=some (.int kd):=by
      cases hu:P.underlying f.type with
      | none=>rw [hu]at n3;cases n3
      | some z=>cases z<;>(first | exact⟨_,rfl⟩ | (rw [hu]at n3;cases n3))
    have pk:P.plainKey f.type=true:=by unfold Program.plainKey;rw [hu]
    have p1:=run_part_plain w pk (xs:=(xs.map (Value.int .i64)).toArray) (off:=f.offset) (v:= .int .i64 xs[k]) (by rw [n2];simp [hk])
    have p2:=run_part_plain w pk (xs:=(ys.map (Value.int .i64)).toArray) (off:=f.offset) (v:= .int .i64 ys[k]) (by rw [n2];simp [hk'])
    have ih:=Tz w d xs ys hl fs (k+1) n4 (by omega)
    simp only [Op.eqFields,if_pos n1,Sem.run_bind,p1,p2,Result.andThen_ok,run_equalIn_int w d f.type .i64 kd _ _ hu]
    have e:(xs.drop k==ys.drop k)=((xs[k]==ys[k])&& (xs.drop (k+1)==ys.drop (k+1))):=by rw [List.drop_eq_getElem_cons hk,List.drop_eq_getElem_cons hk'];rfl
    rw [e]
    by_cases c:(xs[k]==ys[k])=true
    · rw [c]
      simp only [Bool.not_true,Bool.false_eq_true,if_false,ih,Bool.true_and]
    · have c2:(xs[k]==ys[k])=false:=by simpa using c
      rw [c2]
      simp only [Bool.not_false,if_true,Sem.run_pure,Bool.false_and]
theorem ajk {P:Program} {t:TypeId} {n:Nat} (hu:P.underlying t=some (.struct (P.fieldsOf t))) (hs:P.stoodInHeld t=false) (hg:P.eqGuardType P.depth t=false) (hf:Tx P 0 (P.fieldsOf t).toList=true) (hn:(P.fieldsOf t).size=n) (xs ys:List Int) (hx:xs.length=n) (hy:ys.length=n) (w:World):
    (Op.equal t (.agg (xs.map (Value.int .i64)).toArray) (.agg (ys.map (Value.int .i64)).toArray)).run P w= .ok (xs==ys) w∧
    (eqGuard .eql t (.tmp 0) (.tmp 0) (.agg (xs.map (Value.int .i64)).toArray) (.agg (ys.map (Value.int .i64)).toArray)).run P w= .ok () w:=by
  refine⟨?_,run_eqGuard_agg w _ _ _ _ _ _ hg⟩
  show(Op.equalIn (9999+1) t _ _).run P w=_
  rw [run_equalIn_struct w 9999 t _ _ hu hs,Tz w 9998 xs ys (by omega) _ 0 hf (by rw [Array.length_toList];omega)]
  rfl
noncomputable def never (s:Sig):Ct ak s:={pre:=fun _=>false,fn:=fun _=>Classical.choice (uX _)}
theorem ko {E:Tab} {f:FuncId} {s:Sig} (h:Enters E.P f):cO E f (cB (never s)) where
  enters:=h
  calls:=by
    rintro args hh n K ⟨m,vs,h2,h3,h4,h5,cr,h6,h7,h8⟩
    exfalso
    unfold rV at h6
    split at h6
    · split at h6
      · split at h6
        · split at h6
          · cases h6
            have:=h7 false (List.mem_append_right _ (List.mem_singleton.2 rfl))
            cases this
          · cases h6
        · cases h6
      · cases h6
    · cases h6
abbrev aox:Sig:={args:=[.c (.rows true .u8)],objs:=[],res:=[.c .bool],dK:=[]}
def entry (W:World):Ctx:={K:=fun _ b=>b<W.heap.size,μ:=fun _=>none,n:=0}
theorem QS (W:World):bI (entry W) W []:=
  ⟨fun l o h=>(by cases h),fun l o l' o' b h=>(by cases h),fun f b ⟨l,o,h,_⟩=>(by cases h),fun f b h=>h,fun b h=>h⟩
theorem OQ {W W':World} {c':Ctx} {h':Heap} (g:Grow (entry W) W [] c' W' h'):RowKit.Below W.heap.size W W':=
  ⟨g.os,g.tape,g.output,g.size,fun k hk=>g.kept k hk fun⟨l,o,h,_⟩=>by cases h⟩
theorem acO {c:Ctx} {w:World} {v:Value} {r:PV} {N:NM} {b:Bool} (h1:bH c w v r) (h2:PVR N r (.c (.d true (.bool b)))):v= .bool b:=by
  cases h2 with
  | one h=>
    cases h with
    | c h=>
      cases h with
      | d h3 _=>
        subst h3
        cases h1 with
        | c _ _ h4=>cases h4 with
          | d _ _ _ h5=>cases h5;rfl
    | agg h=>cases h
theorem aoy {E:Tab} {f:FuncId} {c:Ct ak aox} (hc:cO E f (cB c)) {xs:List Int} {W:World} {v:Value} (hv:dI (fun b=>b<W.heap.size) W v (.rows 1 (aM .u8 xs)))
    (hg:rF E (entry W) W) (hp:c.pre (xs,())=true):Go.Calls E.P f #[v] W fun e W'=>e= .returned (.bool (c.fn (xs,())).1)∧RowKit.Below W.heap.size W W':=by
  refine(hc.calls [.c (.d true (.rows 1 (aM .u8 xs)))] [] 0 (fun r _ _=>PVR (nmh []) r (.c (.d true (.bool (c.fn (xs,())).1)))) ?_ (entry W) W [v] rfl (.cons (.c _ _ (.d true _ _ hv)) .nil) (QS W) hg).mono ?_
  · refine⟨0,[.c (.d true (.rows .u8 xs))],[],.cons (.one (.c (.d rfl fun _=> .inl rfl))) .nil,⟨fun l o h=>(by cases h),fun _ _=>rfl⟩,rfl,_,rfl,?_,_,_,rfl,?_⟩
    · intro b hb
      rcases List.mem_append.1 hb with h | h
      · cases h
      · rw [List.mem_singleton]at h;rw [h];exact hp
    · intro r _ _ h _ _ _;exact h
  · rintro e W' he
    cases e with
    | returned u=>
      obtain⟨c',r,h',j,g,_,_,h1,h2⟩:=he
      exact⟨by rw [acO h1 h2],OQ g⟩
    | outgrown=>exact he.elim
    | panicked _=>exact he.elim
open Go.RowKit Go.ChangeShapes Go.WideShapes Go.ChangeAt in
theorem Zr {H:Type} {enc:TypeId×Value→H} {P:Program} {t e:TypeId} (ht:P.underlying t=some (.slice e)) (he:P.underlying e=some (.int .u8)) (hc:P.cellsOf e=1) {W:World} {base:Nat} {v:Value} {d:DataW H} {p:List MemPlace}
    (hval:Value.okWide P W .any base t v) (h:DataW.Trod enc P W 0 (fun _=>true) true t v d p) (hlt:∀x∈p,x.block<W.heap.size):
    ∃xs:List Int,dI (fun b=>b<W.heap.size) W v (.rows 1 (aM .u8 xs))∧∀z∈xs,0≤z∧z≤255:=by
  obtain⟨a0,len,cap,rfl⟩:=okWide_slice ht hval
  obtain⟨fuel,hf⟩:=h
  rcases open_ints ht he hc hf with⟨hcs,hx⟩ | ⟨a,len',cap',zs,hcs,_,hl,hm,hz,hx,hcell,hwz⟩
  · simp [Value.cells]at hcs
    obtain⟨rfl,rfl,rfl⟩:=hcs
    exact⟨[],.none _ _ _,fun _ h=>by cases h⟩
  · simp [Value.cells]at hcs
    obtain⟨rfl,rfl,rfl⟩:=hcs
    simp only [Prod.mk.injEq]at hx
    obtain⟨rfl,rfl⟩:=hx
    simp only [if_true]at hz
    have rng:∀z∈zs,0≤z∧z≤255:=fun z hz=>by
      obtain⟨i,hi,rfl⟩:=List.getElem_of_mem hz
      have:=range_u8 hwz i
      rwa [List.getElem?_eq_getElem hi]at this
    refine⟨zs.take len,?_,fun z h=>rng z (List.mem_of_mem_take h)⟩
    by_cases h0:len=0
    · subst h0;exact .none _ _ _
    · obtain⟨b,off,spot⟩:=a
      have hspot:spot=none:=by simpa [Addr.add]using World.cell?_spot (hcell 0 (by omega))
      subst hspot
      have hbW:b<W.heap.size:=hlt (.cell b off) (MemPlace.mem_row.2 ⟨0,by omega,by simp⟩)
      have hlen:(aM .u8 (zs.take len)).length=len:=by simp only [aM,List.length_map,List.length_take];omega
      have hget:∀i,i<len→(aM .u8 (zs.take len)).getD i []=[.int .u8 (zs.getD i 0)]:=fun i hi=>by
        simp only [aM,List.getD,List.getElem?_map,List.getElem?_take_of_lt hi,List.getElem?_eq_getElem (show i<zs.length by omega)]
        rfl
      refine .rows b off cap 1 len _ (fun i j=> .int .u8 (zs.getD i 0)) hbW hlen.symm hl (fun i j hi hj=> ?_) (fun i hi=> ?_) (fun i j hi hj=> ?_)
      · rw [hlen]at hi
        have:=hcell i (by omega)
        rw [add_plain]at this
        rw [show off+i*1+j=off+i by omega]
        exact this
      · rw [hlen]at hi;rw [hget i hi];rfl
      · rw [hlen]at hi
        have hj0:j=0:=by omega
        subst hj0
        unfold gd;rw [hget i hi];exact .int _ _
end Go.TX
namespace Go.TX.Seat
open Go Go.AE Go.TX Go.TX.F Go.Proofs
set_option maxRecDepth 100000
theorem aoz:∀t n,E.ieq t=some n→∀(xs ys:List Int),xs.length=n→ys.length=n→∀w,
    (Op.equal t (.agg (xs.map (Value.int .i64)).toArray) (.agg (ys.map (Value.int .i64)).toArray)).run E.P w= .ok (xs==ys) w∧
    (eqGuard .eql t (.tmp 0) (.tmp 0) (.agg (xs.map (Value.int .i64)).toArray) (.agg (ys.map (Value.int .i64)).toArray)).run E.P w= .ok () w:=by
  intro t n h
  obtain⟨c,hc,rfl⟩:∃c,ieq t=some c∧c.size=n:=by
    have h':(ieq t).map (fun c=>c.size)=some n:=h
    cases hi:ieq t with
    | none=>rw [hi]at h';cases h'
    | some c=>rw [hi]at h';cases h';exact⟨c,rfl,rfl⟩
  unfold ieq at hc
  split at hc
  all_goals first | (cases hc;exact ajk (by kernel_rfl) (by kernel_rfl) (by kernel_rfl) (by kernel_rfl) (by kernel_rfl)) | cases hc
theorem hE:aJ E:=⟨aol,aoz⟩
theorem aoA:∀t c,X.ieq t=some c→(c= .ins∧E.ieq t=some 4)∨(c= .iop∧E.ieq t=some 5):=by
  intro t c h
  have h:ieq t=some c:=h
  have e:E.ieq t=(ieq t).map fun c=>c.size:=rfl
  rw [e,h]
  unfold ieq at h
  split at h
  all_goals first | (cases h;first | exact Or.inl ⟨rfl,rfl⟩ | exact Or.inr ⟨rfl,rfl⟩) | cases h
theorem xok:XOK X E:=⟨rfl,fun g c h=>(by cases h),aoA⟩
theorem hm:E.P.follows .mixedOrders=true:=by kernel_rfl
theorem hlN:∀p∈([]:List (FuncId×Sigma (Ct ak))),cO E p.1 (cB p.2.2):=fun _ h=>by cases h
theorem hlC {f:FuncId} {s:Sig} {c:Ct ak s} {l:List (FuncId×Sigma (Ct ak))} (h:cO E f (cB c)) (r:∀p∈l,cO E p.1 (cB p.2.2)):∀p∈(f,⟨s,c⟩)::l,cO E p.1 (cB p.2.2):=fun p hp=>by
  rcases List.mem_cons.1 hp with rfl | hp
  · exact h
  · exact r p hp
theorem mk {lk:aG} {f:FuncId} {fn:Func} (hf:E.P.funcs[f]? =some fn) (hb:fn.body.isSome=true) (hn:(fn.name== "runtime.NumGoroutine")=false) {l:List (FuncId×Sigma (Ct ak))} (hl:∀p∈l,cO E p.1 (cB p.2.2)) {ord:List (Nat×List eP)} {s:Sig} {an:Ann}
    {F:iy s.inp→(iy s.out→Prop)→Prop} (h:Ru X E (std 0) ord an s fn l F):Fn E f F (cn F):=anF hE xok hm hf hb (fun _=>enters_of hf hn) hl h
theorem Zt {E:Tab} {f:FuncId} {c:Ct ak {args:=[.c (.int .u64)],objs:=[],res:=[.c (.int .i64)],dK:=[]}} {g:Int→Int} (hent:Enters E.P f) (hg:(fun x:Int=>(c.fn (x,())).1)=g)
    (h:∀(x:Int) (w:World),c.pre (x,())=true→Go.Calls E.P f #[.int .u64 x] w fun e w'=>e= .returned (.int .i64 (g x))∧w'=w):cO E f (cB c) where
  enters:=hent
  calls:=by
    rintro args hh n K ⟨m,qs,hs,hargs,HR,hlen,cr,hcall,ab9,v,kT,hvk,hK⟩ c1 w vs hcn ru Hh Gl
    have key:∀f0 (x:Int),qs=[.c (.d f0 (.int .u64 x))]→rV (std m) hs {args:=[.c (.int .u64)],objs:=[],res:=[.c (.int .i64)],dK:=[]} c qs=some {ck:=[c.pre (x,())],ts:=[.i],y:=c.fn (x,()),touched:=[],pure:=true,k:=fun y=>some (.c (.d true (.int .i64 y.1)),hs)}:=by
      intro f0 x e;subst e;rfl
    have hq:∃f0 x,qs=[.c (.d f0 (.int .u64 x))]:=by
      unfold rV at hcall
      cases qs with
      | nil=>simp [nP]at hcall
      | cons q r=>
        cases r with
        | cons q2 r2=>
          exfalso
          simp only [nP]at hcall
          cases hx:Ho (std m) hs (.c (.int .u64)) q (es0 (std m) 0 [])with
          | none=>rw [hx]at hcall;simp at hcall
          | some s=>rw [hx]at hcall;simp [nP]at hcall
        | nil=>
          simp only [nP]at hcall
          cases q with
          | c y=>
            simp only [Ho,extC]at hcall
            cases y with
            | d f0 y=>
              cases y with
              | int k x=>
                by_cases hk:IntKind.u64=k
                · subst hk;exact⟨f0,x,rfl⟩
                · simp [hk]at hcall
              | _=>simp at hcall
            | _=>simp at hcall
          | _=>simp [Ho]at hcall
    obtain⟨f0,x,rfl⟩:=hq
    rw [key f0 x rfl]at hcall
    simp only [Option.some.injEq]at hcall
    subst hcall
    simp only [Option.some.injEq,Prod.mk.injEq]at hvk
    obtain⟨rfl,rfl⟩:=hvk
    have hpre:=ab9 _ (List.mem_singleton.2 rfl)
    have hv:vs=[.int .u64 x]:=by
      cases hargs with
      | cons h1 h2=>
        cases h2
        cases ru with
        | cons h3 h4=>
          cases h4
          cases h1 with
          | one h1=>
            cases h1 with
            | c h1=>
              cases h1 with
              | d h5 _=>
                subst h5
                cases h3 with
                | c _ _ h6=>cases h6 with
                  | d _ _ _ h7=>cases h7;rfl
            | agg h1=>cases h1
    subst hv
    refine(h x w hpre).mono ?_
    rintro e w' ⟨rfl,rfl⟩
    refine⟨c1,.c (.d true (.int .i64 (g x))),hh,0,.refl _ _ _,Hh,hcn,.c _ _ (.d _ _ _ (.int _ _)),hK _ _ _ ?_ HR (.refl _ _ _) hlen⟩
    rw [←hg]
    exact .one (.c (.d rfl fun _=> .inl rfl))
end Go.TX.Seat
namespace Go.TX.F
open Go Go.AE Go.TX Go.TX.Seat Go.Proofs
set_option maxRecDepth 100000
noncomputable def qE:Ct ak Al:=cn (EJ (std 0))
theorem QT:Fn E 59 (EJ (std 0)) qE:=mk Tryz.func59 rfl (by kernel_rfl) hlN (ahM (std 0))
def Zu:=fun b hb hl=>(QT.cs (Yz b hb hl)).1
def Zv:=fun b hb hl=>(QT.cs (Yz b hb hl)).2
noncomputable def aI:Ct ak dO:=cn (EK (std 0))
theorem qH:Fn E 61 (EK (std 0)) aI:=mk Tryz.func61 rfl (by kernel_rfl) hlN (ahN (std 0))
def iP:=fun n b p hb h1 h2=>(qH.cs (YA n b p hb h1 h2)).1
def iQ:=fun n b p hb h1 h2=>(qH.cs (YA n b p hb h1 h2)).2
noncomputable def aO:Ct ak eH:=cn (EL (std 0))
theorem sU:Fn E 89 (EL (std 0)) aO:=mk Tryz.func89 rfl (by kernel_rfl) hlN (ahO (std 0))
def lU:=fun a b c=>(sU.cs (Yp a b c)).1
def lV:=fun a b c=>(sU.cs (Yp a b c)).2
noncomputable def pR:Ct ak Am:=cn (EM (std 0) aI.pre aI.fn)
theorem QU:Fn E 158 (EM (std 0) aI.pre aI.fn) pR:=mk Tryz.func158 rfl (by kernel_rfl) (hlC qH.ok hlN) (ahP (std 0) aI)
def Zw:=fun n b p hb h1 h2=>(QU.cs (YB iP iQ n b p hb h1 h2)).1
def Zx:=fun n b p hb h1 h2=>(QU.cs (YB iP iQ n b p hb h1 h2)).2
noncomputable def oK:Ct ak Ao:=cn (EN (std 0))
theorem QV:Fn E 170 (EN (std 0)) oK:=mk Tryz.func170 rfl (by kernel_rfl) hlN (ahQ (std 0))
def Zy:=fun a=>(QV.cs (Yt a)).1
def Zz:=fun a=>(QV.cs (Yt a)).2
noncomputable def dD:Ct ak lK:=cn (EO (std 0))
theorem G6:Fn E 156 (EO (std 0)) dD:=mk Tryz.func156 rfl (by kernel_rfl) hlN (ahR (std 0))
def BO:=fun a=>(G6.cs (Yq a)).1
def BP:=fun a=>(G6.cs (Yq a)).2
noncomputable def oH:Ct ak Ap:=cn (EP (std 0) aO.pre aO.fn)
theorem QW:Fn E 192 (EP (std 0) aO.pre aO.fn) oH:=mk Tryz.func192 rfl (by kernel_rfl) (hlC sU.ok hlN) (ahS (std 0) aO)
def ZA:=fun k=>(QW.cs (YN lU lV k)).1
def ZB:=fun k=>(QW.cs (YN lU lV k)).2
noncomputable def gL:Ct ak sj:=cn (ER (std 0) oH.pre oH.fn)
theorem KY:Fn E 157 (ER (std 0) oH.pre oH.fn) gL:=mk Tryz.func157 rfl (by kernel_rfl) (hlC QW.ok hlN) (ahT (std 0) oH)
def KZ:=fun ops x n h1=>(KY.cs (YO ZA ZB ops x n h1)).1
def K4:=fun ops x n h1=>(KY.cs (YO ZA ZB ops x n h1)).2
noncomputable def oJ:Ct ak Aq:=cn (ET (std 0) dD.pre dD.fn aO.pre aO.fn gL.pre gL.fn)
theorem QX:Fn E 90 (ET (std 0) dD.pre dD.fn aO.pre aO.fn gL.pre gL.fn) oJ:=mk Tryz.func90 rfl (by kernel_rfl) (hlC G6.ok (hlC sU.ok (hlC KY.ok hlN))) (ahU (std 0) dD aO gL)
def ZE:=fun ops i len h0 h1 h3=>(QX.cs (YP BO BP lU lV KZ K4 ops i len h0 h1 h3)).1
def ZF:=fun ops i len h0 h1 h3=>(QX.cs (YP BO BP lU lV KZ K4 ops i len h0 h1 h3)).2
noncomputable def oI:Ct ak Ar:=cn (EU (std 0) dD.pre dD.fn gL.pre gL.fn)
theorem QY:Fn E 91 (EU (std 0) dD.pre dD.fn gL.pre gL.fn) oI:=mk Tryz.func91 rfl (by kernel_rfl) (hlC G6.ok (hlC KY.ok hlN)) (ahV (std 0) dD gL)
def ZG:=fun b=>(QY.cs (YQ BO BP KZ K4 b)).1
def ZH:=fun b=>(QY.cs (YQ BO BP KZ K4 b)).2
noncomputable def aU:Ct ak fG:=cn (EW (std 0) aO.pre aO.fn oI.pre oI.fn oJ.pre oJ.fn)
theorem vD:Fn E 30 (EW (std 0) aO.pre aO.fn oI.pre oI.fn oJ.pre oJ.fn) aU:=mk Tryz.func30 rfl (by kernel_rfl) (hlC sU.ok (hlC QY.ok (hlC QX.ok hlN))) (ahW (std 0) aO oI oJ)
def lW:=fun b h2=>(vD.cs (YR lU lV ZG ZH ZE ZF b h2)).1
def lX:=fun b h2=>(vD.cs (YR lU lV ZG ZH ZE ZF b h2)).2
noncomputable def oM:Ct ak Au:=cn (EX (std 0) oK.pre oK.fn dD.pre dD.fn)
theorem QZ:Fn E 115 (EX (std 0) oK.pre oK.fn dD.pre dD.fn) oM:=mk Tryz.func115 rfl (by kernel_rfl) (hlC QV.ok (hlC G6.ok hlN)) (ahX (std 0) oK dD)
def ZI:=fun op a b=>(QZ.cs (Yv BO BP Zy Zz op a b)).1
def ZJ:=fun op a b=>(QZ.cs (Yv BO BP Zy Zz op a b)).2
noncomputable def dF:Ct ak lM:=cn (EY (std 0))
theorem G7:Fn E 113 (EY (std 0)) dF:=mk Tryz.func113 rfl (by kernel_rfl) hlN (ahY (std 0))
def BQ:=fun b hb=>(G7.cs (Y5 b hb)).1
def BR:=fun b hb=>(G7.cs (Y5 b hb)).2
noncomputable def gM:Ct ak su:=cn (EZ (std 0) aO.pre aO.fn)
theorem K6:Fn E 125 (EZ (std 0) aO.pre aO.fn) gM:=mk Tryz.func125 rfl (by kernel_rfl) (hlC sU.ok hlN) (ahZ (std 0) aO)
def K7:=fun o al hk hx hy=>(K6.cs (Y9 lU lV o al hk hx hy)).1
def K8:=fun o al hk hx hy=>(K6.cs (Y9 lU lV o al hk hx hy)).2
end Go.TX.F
namespace Go.TX.F
open Go Go.AE Go.TX Go.TX.Seat Go.Proofs
set_option maxRecDepth 100000
noncomputable def dG:Ct ak lN:=cn (E5 (std 0) aU.pre aU.fn gM.pre gM.fn dF.pre dF.fn)
theorem G8:Fn E 54 (E5 (std 0) aU.pre aU.fn gM.pre gM.fn dF.pre dF.fn) dG:=mk Tryz.func54 rfl (by kernel_rfl) (hlC vD.ok (hlC K6.ok (hlC G7.ok hlN))) (ah0 (std 0) aU gM dF)
def BS:=fun b hb=>(G8.cs (Zj lW lX K7 K8 BQ BR b hb)).1
def BU:=fun b hb=>(G8.cs (Zj lW lX K7 K8 BQ BR b hb)).2
noncomputable def gN:Ct ak sw:=cn (Fa (std 0))
theorem K9:Fn E 114 (Fa (std 0)) gN:=mk Tryz.func114 rfl (by kernel_rfl) hlN (ah1 (std 0))
def La:=fun ops k=>(K9.cs (Y6 ops k)).1
def Lb:=fun ops k=>(K9.cs (Y6 ops k)).2
noncomputable def oL:Ct ak Av:=cn (Fb (std 0))
theorem Q0:Fn E 171 (Fb (std 0)) oL:=mk Tryz.func171 rfl (by kernel_rfl) hlN (ah2 (std 0))
def ZK:=fun b k=>(Q0.cs (Y7 b k)).1
def ZL:=fun b k=>(Q0.cs (Y7 b k)).2
noncomputable def oN:Ct ak Aw:=cn (Fe (std 0) oL.pre oL.fn gN.pre gN.fn)
theorem Q5:Fn E 116 (Fe (std 0) oL.pre oL.fn gN.pre gN.fn) oN:=mk Tryz.func116 rfl (by kernel_rfl) (hlC Q0.ok (hlC K9.ok hlN)) (ah3 (std 0) oL gN)
def ZM:=fun b h=>(Q5.cs (Y8 ZK ZL La Lb b h)).1
def ZN:=fun b h=>(Q5.cs (Y8 ZK ZL La Lb b h)).2
noncomputable def gQ:Ct ak sD:=cn (Fj (std 0) aU.pre aU.fn oM.pre oM.fn oN.pre oN.fn gN.pre gN.fn dF.pre dF.fn)
theorem Lc:Fn E 42 (Fj (std 0) aU.pre aU.fn oM.pre oM.fn oN.pre oN.fn gN.pre gN.fn dF.pre dF.fn) gQ:=mk Tryz.func42 rfl (by kernel_rfl) (hlC vD.ok (hlC QZ.ok (hlC Q5.ok (hlC K9.ok (hlC G7.ok hlN))))) (ah4 (std 0) aU oM oN gN dF)
def Ld:=fun b hb=>(Lc.cs (Zd lW lX ZI ZJ ZM ZN La Lb BQ BR b hb)).1
def Le:=fun b hb=>(Lc.cs (Zd lW lX ZI ZJ ZM ZN La Lb BQ BR b hb)).2
noncomputable def oO:Ct ak Ay:=cn (Fp (std 0))
theorem Q6:Fn E 118 (Fp (std 0)) oO:=mk Tryz.func118 rfl (by kernel_rfl) hlN (ah5 (std 0))
def ZO:=fun ops k h0 h1 h2=>(Q6.cs (Za ops k h0 h1 h2)).1
def ZP:=fun ops k h0 h1 h2=>(Q6.cs (Za ops k h0 h1 h2)).2
noncomputable def gP:Ct ak sF:=cn (Fq (std 0) gM.pre gM.fn)
theorem Lf:Fn E 119 (Fq (std 0) gM.pre gM.fn) gP:=mk Tryz.func119 rfl (by kernel_rfl) (hlC K6.ok hlN) (ah6 (std 0) gM)
def Lg:=fun b kp ok hk=>(Lf.cs (Zg K7 K8 b kp ok hk)).1
def Lh:=fun b kp ok hk=>(Lf.cs (Zg K7 K8 b kp ok hk)).2
noncomputable def oU:Ct ak Az:=cn (Fu (std 0) aU.pre aU.fn gP.pre gP.fn oO.pre oO.fn)
theorem Q7:Fn E 45 (Fu (std 0) aU.pre aU.fn gP.pre gP.fn oO.pre oO.fn) oU:=mk Tryz.func45 rfl (by kernel_rfl) (hlC vD.ok (hlC Lf.ok (hlC Q6.ok hlN))) (ah7 (std 0) aU gP oO)
def ZQ:=fun b hb=>(Q7.cs (Zi lW lX Lg Lh ZO ZP b hb)).1
def ZR:=fun b hb=>(Q7.cs (Zi lW lX Lg Lh ZO ZP b hb)).2
noncomputable def oP:Ct ak AA:=cn (Fv (std 0) aU.pre aU.fn aO.pre aO.fn)
theorem Q8:Fn E 50 (Fv (std 0) aU.pre aU.fn aO.pre aO.fn) oP:=mk Tryz.func50 rfl (by kernel_rfl) (hlC vD.ok (hlC sU.ok hlN)) (ah8 (std 0) aU aO)
def ZT:=fun b hb=>(Q8.cs (Zf lW lX lU lV b hb)).1
def ZU:=fun b hb=>(Q8.cs (Zf lW lX lU lV b hb)).2
noncomputable def oQ:Ct ak AB:=cn (Fw (std 0) aU.pre aU.fn oP.pre oP.fn gP.pre gP.fn)
theorem Q9:Fn E 49 (Fw (std 0) aU.pre aU.fn oP.pre oP.fn gP.pre gP.fn) oQ:=mk Tryz.func49 rfl (by kernel_rfl) (hlC vD.ok (hlC Q8.ok (hlC Lf.ok hlN))) (ah9 (std 0) aU oP gP)
def ZV:=fun b hb=>(Q9.cs (Zh lW lX ZT ZU Lg Lh b hb)).1
def ZW:=fun b hb=>(Q9.cs (Zh lW lX ZT ZU Lg Lh b hb)).2
noncomputable def pF:Ct ak AJ:=cn (Fx (std 0) gQ.pre gQ.fn dG.pre dG.fn oQ.pre oQ.fn oU.pre oU.fn)
theorem Ra:Fn E 57 (Fx (std 0) gQ.pre gQ.fn dG.pre dG.fn oQ.pre oQ.fn oU.pre oU.fn) pF:=mk Tryz.func57 rfl (by kernel_rfl) (hlC Lc.ok (hlC G8.ok (hlC Q9.ok (hlC Q7.ok hlN)))) (aia (std 0) gQ dG oQ oU)
def ZX:=fun b hb=>(Ra.cs (Zb Ld Le BS BU ZV ZW ZQ ZR b hb)).1
def ZY:=fun b hb=>(Ra.cs (Zb Ld Le BS BU ZV ZW ZQ ZR b hb)).2
noncomputable def oW:Ct ak AL:=cn (FB (std 0) aI.pre aI.fn)
theorem Rb:Fn E 204 (FB (std 0) aI.pre aI.fn) oW:=mk Tryz.func204 rfl (by kernel_rfl) (hlC qH.ok hlN) (aib (std 0) aI)
def Z0:=fun b p hb h1 h2=>(Rb.cs (Y2 iP iQ b p hb h1 h2)).1
def Z4:=fun b p hb h1 h2=>(Rb.cs (Y2 iP iQ b p hb h1 h2)).2
noncomputable def oV:Ct ak AO:=cn (FC (std 0))
theorem Z5:Fn E 222 (FC (std 0)) oV:=mk Tryz.func222 rfl (by kernel_rfl) hlN (aic (std 0))
def ajl:=fun i=>(Z5.cs (ajc i)).1
noncomputable def gU:Ct ak sG:=cn (FD (std 0) aO.pre aO.fn oV.pre oV.fn)
theorem Rc:Fn E 206 (FD (std 0) aO.pre aO.fn oV.pre oV.fn) gU:=mk Tryz.func206 rfl (by kernel_rfl) (hlC sU.ok (hlC Z5.ok hlN)) (aie (std 0) aO oV)
def Z6:=fun i=>(Rc.cs (ajd lU lV ajl i)).1
noncomputable def gT:Ct ak sH:=cn (FH (std 0))
theorem Rf:Fn E 207 (FH (std 0)) gT:=mk Tryz.func207 rfl (by kernel_rfl) hlN (aif (std 0))
def Z7:=fun i=>(Rf.cs (aje i)).1
noncomputable def gV:Ct ak sI:=cn (FJ (std 0) gT.pre gT.fn gU.pre gU.fn)
theorem Rh:Fn E 205 (FJ (std 0) gT.pre gT.fn gU.pre gU.fn) gV:=mk Tryz.func205 rfl (by kernel_rfl) (hlC Rf.ok (hlC Rc.ok hlN)) (aii (std 0) gT gU)
def Ri:=fun i=>(Rh.cs (ajf Z7 Z6 i)).1
noncomputable def oZ:Ct ak AP:=cn (FK (std 0) oW.pre oW.fn aI.pre aI.fn gV.pre gV.fn)
theorem Rj:Fn E 182 (FK (std 0) oW.pre oW.fn aI.pre aI.fn gV.pre gV.fn) oZ:=mk Tryz.func182 rfl (by kernel_rfl) (hlC Rb.ok (hlC qH.ok (hlC Rh.ok hlN))) (aij (std 0) oW aI gV)
def Z8:=fun b p hb h1 h2=>(Rj.cs (Y3 Z0 Z4 iP iQ Ri b p hb h1 h2)).1
def Z9:=fun b p hb h1 h2=>(Rj.cs (Y3 Z0 Z4 iP iQ Ri b p hb h1 h2)).2
noncomputable def pG:Ct ak AQ:=cn (FL (std 0) oZ.pre oZ.fn aI.pre aI.fn)
theorem Rk:Fn E 139 (FL (std 0) oZ.pre oZ.fn aI.pre aI.fn) pG:=mk Tryz.func139 rfl (by kernel_rfl) (hlC Rj.ok (hlC qH.ok hlN)) (aik (std 0) oZ aI)
def aac:=fun b p hb h1 h2=>(Rk.cs (Y4 Z8 Z9 iP iQ b p hb h1 h2)).1
def aad:=fun b p hb h1 h2=>(Rk.cs (Y4 Z8 Z9 iP iQ b p hb h1 h2)).2
noncomputable def pq:Ct ak AU:=cn (FN (std 0) gT.pre gT.fn gU.pre gU.fn aO.pre aO.fn gV.pre gV.fn)
theorem aae:Fn E 183 (FN (std 0) gT.pre gT.fn gU.pre gU.fn aO.pre aO.fn gV.pre gV.fn) pq:=mk Tryz.func183 rfl (by kernel_rfl) (hlC Rf.ok (hlC Rc.ok (hlC sU.ok (hlC Rh.ok hlN)))) (ail (std 0) gT gU aO gV)
def aaf:=fun pc l hl=>(aae.cs (ajg Z7 Z6 lU lV Ri pc l hl)).1
noncomputable def bC:Ct ak iA:=cn (FP (std 0))
theorem yw:Fn E 208 (FP (std 0)) bC:=mk Tryz.func208 rfl (by kernel_rfl) hlN (ain (std 0))
def qI:=fun a1 a2 a3 a4 a5 a6 o ops hl=>(yw.cs (YT a1 a2 a3 a4 a5 a6 o ops hl)).1
def qJ:=fun a1 a2 a3 a4 a5 a6 o ops hl=>(yw.cs (YT a1 a2 a3 a4 a5 a6 o ops hl)).2
noncomputable def gX:Ct ak sJ:=cn (FQ (std 0) bC.pre bC.fn)
theorem Li:Fn E 209 (FQ (std 0) bC.pre bC.fn) gX:=mk Tryz.func209 rfl (by kernel_rfl) (hlC yw.ok hlN) (aio (std 0) bC)
def Lj:=fun a1 a2 a3 a4 a5 a6 k x ops hl=>(Li.cs (YV qI qJ a1 a2 a3 a4 a5 a6 k x ops hl)).1
def Ll:=fun a1 a2 a3 a4 a5 a6 k x ops hl=>(Li.cs (YV qI qJ a1 a2 a3 a4 a5 a6 k x ops hl)).2
noncomputable def bO:Ct ak je:=cn (FR (std 0) bC.pre bC.fn)
theorem BX:Fn E 210 (FR (std 0) bC.pre bC.fn) bO:=mk Tryz.func210 rfl (by kernel_rfl) (hlC yw.ok hlN) (aip (std 0) bC)
def vE:=fun a1 a2 a3 a4 a5 a6 k ops hl=>(BX.cs (YU qI qJ a1 a2 a3 a4 a5 a6 k ops hl)).1
def vF:=fun a1 a2 a3 a4 a5 a6 k ops hl=>(BX.cs (YU qI qJ a1 a2 a3 a4 a5 a6 k ops hl)).2
noncomputable def gW:Ct ak sK:=cn (FT (std 0) bO.pre bO.fn bC.pre bC.fn)
theorem Lm:Fn E 211 (FT (std 0) bO.pre bO.fn bC.pre bC.fn) gW:=mk Tryz.func211 rfl (by kernel_rfl) (hlC BX.ok (hlC yw.ok hlN)) (aiq (std 0) bO bC)
def Lp:=fun a1 a2 a3 a4 a5 a6 k a o ops hl=>(Lm.cs (YW vE vF qI qJ a1 a2 a3 a4 a5 a6 k a o ops hl)).1
def Lr:=fun a1 a2 a3 a4 a5 a6 k a o ops hl=>(Lm.cs (YW vE vF qI qJ a1 a2 a3 a4 a5 a6 k a o ops hl)).2
noncomputable def o9:Ct ak AV:=cn (FU (std 0))
theorem aag:Fn E 212 (FU (std 0)) o9:=mk Tryz.func212 rfl (by kernel_rfl) hlN (air (std 0))
def aah:=fun k hk=>(aag.cs (ajh k hk)).1
noncomputable def o8:Ct ak AX:=cn (FV (std 0) bO.pre bO.fn bC.pre bC.fn gW.pre gW.fn gX.pre gX.fn)
theorem Rl:Fn E 213 (FV (std 0) bO.pre bO.fn bC.pre bC.fn gW.pre gW.fn gX.pre gX.fn) o8:=mk Tryz.func213 rfl (by kernel_rfl) (hlC BX.ok (hlC yw.ok (hlC Lm.ok (hlC Li.ok hlN)))) (ais (std 0) bO bC gW gX)
def aai:=fun a1 a2 a3 a4 a5 a6 i k ops hl=>(Rl.cs (YX vE vF qI qJ Lp Lr Lj Ll a1 a2 a3 a4 a5 a6 i k ops hl)).1
def aaj:=fun a1 a2 a3 a4 a5 a6 i k ops hl=>(Rl.cs (YX vE vF qI qJ Lp Lr Lj Ll a1 a2 a3 a4 a5 a6 i k ops hl)).2
noncomputable def o7:Ct ak AY:=cn (FW (std 0) bO.pre bO.fn)
theorem Rm:Fn E 214 (FW (std 0) bO.pre bO.fn) o7:=mk Tryz.func214 rfl (by kernel_rfl) (hlC BX.ok hlN) (ait (std 0) bO)
def aak:=fun a1 a2 a3 a4 a5 a6 i ops hl=>(Rm.cs (YZ vE vF a1 a2 a3 a4 a5 a6 i ops hl)).1
def aal:=fun a1 a2 a3 a4 a5 a6 i ops hl=>(Rm.cs (YZ vE vF a1 a2 a3 a4 a5 a6 i ops hl)).2
noncomputable def pz:Ct ak AZ:=cn (FX (std 0) bO.pre bO.fn o7.pre o7.fn bC.pre bC.fn o8.pre o8.fn gW.pre gW.fn gX.pre gX.fn o9.pre o9.fn)
theorem Rn:Fn E 184 (FX (std 0) bO.pre bO.fn o7.pre o7.fn bC.pre bC.fn o8.pre o8.fn gW.pre gW.fn gX.pre gX.fn o9.pre o9.fn) pz:=mk Tryz.func184 rfl (by kernel_rfl) (hlC BX.ok (hlC Rm.ok (hlC yw.ok (hlC Rl.ok (hlC Lm.ok (hlC Li.ok (hlC aag.ok hlN))))))) (aiu (std 0) bO o7 bC o8 gW gX o9)
def aam:=fun a1 a2 a3 a4 a5 a6 i k ops hk hl=>(Rn.cs (Y0 vE vF aak aal qI qJ aai aaj Lp Lr Lj Ll aah a1 a2 a3 a4 a5 a6 i k ops hk hl)).1
def aan:=fun a1 a2 a3 a4 a5 a6 i k ops hk hl=>(Rn.cs (Y0 vE vF aak aal qI qJ aai aaj Lp Lr Lj Ll aah a1 a2 a3 a4 a5 a6 i k ops hk hl)).2
noncomputable def pE:Ct ak A8:=cn (FY (std 0) pq.pre pq.fn pz.pre pz.fn)
theorem Ro:Fn E 140 (FY (std 0) pq.pre pq.fn pz.pre pz.fn) pE:=mk Tryz.func140 rfl (by kernel_rfl) (hlC aae.ok (hlC Rn.ok hlN)) (aiv (std 0) pq pz)
def aao:=fun pc l hl hk=>(Ro.cs (Y1 aaf aam aan pc l hl hk)).1
def aap:=fun pc l hl hk=>(Ro.cs (Y1 aaf aam aan pc l hl hk)).2
noncomputable def pV:Ct ak A9:=cn (FZ (std 0) pE.pre pE.fn pF.pre pF.fn dG.pre dG.fn aI.pre aI.fn pG.pre pG.fn)
theorem Rp:Fn E 66 (FZ (std 0) pE.pre pE.fn pF.pre pF.fn dG.pre dG.fn aI.pre aI.fn pG.pre pG.fn) pV:=mk Tryz.func66 rfl (by kernel_rfl) (hlC Ro.ok (hlC Ra.ok (hlC G8.ok (hlC qH.ok (hlC Rk.ok hlN))))) (aiw (std 0) pE pF dG aI pG)
def aaq:=fun b p hb h1 h2=>(Rp.cs (Zk aao aap ZX ZY BS BU iP iQ aac aad b p hb h1 h2)).1
def aar:=fun b p hb h1 h2=>(Rp.cs (Zk aao aap ZX ZY BS BU iP iQ aac aad b p hb h1 h2)).2
noncomputable def sM:Ct ak Kw:=cn (Xd (std 0))
theorem acP:Fn E 148 (Xd (std 0)) sM:=mk Tryz.func148 rfl (by kernel_rfl) hlN (aom (std 0))
def acQ:=fun a=>(acP.cs (amK a)).1
def acR:=fun a=>(acP.cs (amK a)).2
noncomputable def ku:Ct ak CO:=cn (Xe (std 0) sM.pre sM.fn)
theorem aas:Fn E 80 (Xe (std 0) sM.pre sM.fn) ku:=mk Tryz.func80 rfl (by kernel_rfl) (hlC acP.ok hlN) (aon (std 0) sM)
def VI:=fun a b=>(aas.cs (amL acQ acR a b)).1
def VJ:=fun a b=>(aas.cs (amL acQ acR a b)).2
noncomputable def sN:Ct ak Ky:=cn (Xh (std 0))
theorem acS:Fn E 81 (Xh (std 0)) sN:=mk Tryz.func81 rfl (by kernel_rfl) hlN (aoo (std 0))
def acT:=fun a b=>(acS.cs (amN a b)).1
def acU:=fun a b=>(acS.cs (amN a b)).2
noncomputable def wH:Ct ak Iu:=cn (MV (std 0) ku.pre ku.fn)
theorem aat:Fn E 149 (MV (std 0) ku.pre ku.fn) wH:=mk Tryz.func149 rfl (by kernel_rfl) (hlC aas.ok hlN) (alF (std 0) ku)
def aeB:=fun a b ha=>(aat.cs (adx VI VJ a b ha)).1
def aeC:=fun a b ha=>(aat.cs (adx VI VJ a b ha)).2
noncomputable def dM:Ct ak mW:=cn (MW (std 0) sN.pre sN.fn ku.pre ku.fn wH.pre wH.fn)
theorem JC:Fn E 82 (MW (std 0) sN.pre sN.fn ku.pre ku.fn wH.pre wH.fn) dM:=mk Tryz.func82 rfl (by kernel_rfl) (hlC acS.ok (hlC aas.ok (hlC aat.ok hlN))) (alG (std 0) sN ku wH)
def Cv:=fun a b ha=>(JC.cs (ady VI VJ aeB aeC acT acU a b ha)).1
def Cw:=fun a b ha=>(JC.cs (ady VI VJ aeB aeC acT acU a b ha)).2
noncomputable def aC:Ct ak bZ:=cn (MX (std 0))
theorem l7:Fn E 121 (MX (std 0)) aC:=mk Tryz.func121 rfl (by kernel_rfl) hlN (alH (std 0))
def fQ:=fun a b c=>(l7.cs (ads a b c)).1
def fT:=fun a b c=>(l7.cs (ads a b c)).2
noncomputable def kC:Ct ak CP:=cn (Xi (std 0) sM.pre sM.fn)
theorem aau:Fn E 185 (Xi (std 0) sM.pre sM.fn) kC:=mk Tryz.func185 rfl (by kernel_rfl) (hlC acP.ok hlN) (aop (std 0) sM)
def acV:=fun a b=>(aau.cs (amM acQ acR a b)).1
def acW:=fun a b=>(aau.cs (amM acQ acR a b)).2
noncomputable def pO:Ct ak Ba:=cn (F3 (std 0) kC.pre kC.fn)
theorem Rq:Fn E 141 (F3 (std 0) kC.pre kC.fn) pO:=mk Tryz.func141 rfl (by kernel_rfl) (hlC aau.ok hlN) (aix (std 0) kC)
def aav:=fun a ha=>(Rq.cs (X8 acV acW a ha)).1
def aaw:=fun a ha=>(Rq.cs (X8 acV acW a ha)).2
noncomputable def wI:Ct ak Iw:=cn (MZ (std 0))
theorem aax:Fn E 187 (MZ (std 0)) wI:=mk Tryz.func187 rfl (by kernel_rfl) hlN (alI (std 0))
def aeD:=fun a n=>(aax.cs (adz a n)).1
def aeE:=fun a n=>(aax.cs (adz a n)).2
noncomputable def pI:Ct ak Bb:=cn (F4 (std 0) wI.pre wI.fn)
theorem Rs:Fn E 215 (F4 (std 0) wI.pre wI.fn) pI:=mk Tryz.func215 rfl (by kernel_rfl) (hlC aax.ok hlN) (aiy (std 0) wI)
def aay:=fun a n ha=>(Rs.cs (X9 aeD aeE a n ha)).1
def aaz:=fun a n ha=>(Rs.cs (X9 aeD aeE a n ha)).2
noncomputable def pJ:Ct ak Bc:=cn (F5 (std 0) pI.pre pI.fn)
theorem Rt:Fn E 186 (F5 (std 0) pI.pre pI.fn) pJ:=mk Tryz.func186 rfl (by kernel_rfl) (hlC Rs.ok hlN) (aiz (std 0) pI)
def aaA:=fun a n ha=>(Rt.cs (Ya aay aaz a n ha)).1
def aaB:=fun a n ha=>(Rt.cs (Ya aay aaz a n ha)).2
end Go.TX.F
namespace Go.TX.F
open Go Go.AE Go.TX Go.TX.Seat Go.Proofs
set_option maxRecDepth 100000
noncomputable def jD:Ct ak yZ:=cn (M0 (std 0) pJ.pre pJ.fn)
theorem TA:Fn E 142 (M0 (std 0) pJ.pre pJ.fn) jD:=mk Tryz.func142 rfl (by kernel_rfl) (hlC Rt.ok hlN) (alJ (std 0) pJ)
def TB:=fun a n ha=>(TA.cs (adA aaA aaB a n ha)).1
def TD:=fun a n ha=>(TA.cs (adA aaA aaB a n ha)).2
noncomputable def wJ:Ct ak Iy:=cn (M4 (std 0))
theorem aaC:Fn E 144 (M4 (std 0)) wJ:=mk Tryz.func144 rfl (by kernel_rfl) hlN (alK (std 0))
def aeF:=fun m=>(aaC.cs (adB m)).1
def aeG:=fun m=>(aaC.cs (adB m)).2
noncomputable def pK:Ct ak Bd:=cn (F6 (std 0) wJ.pre wJ.fn)
theorem Rv:Fn E 188 (F6 (std 0) wJ.pre wJ.fn) pK:=mk Tryz.func188 rfl (by kernel_rfl) (hlC aaC.ok hlN) (aiA (std 0) wJ)
def aaD:=fun a ha=>(Rv.cs (Yb (G:=(fun m:aj=>0<m.atoms.length∧m.atoms.getD 0 default<0)) aeF aeG a ha)).1
def aaE:=fun a ha=>(Rv.cs (Yb (G:=(fun m:aj=>0<m.atoms.length∧m.atoms.getD 0 default<0)) aeF aeG a ha)).2
noncomputable def pQ:Ct ak Bf:=cn (F7 (std 0) pK.pre pK.fn)
theorem Rw:Fn E 143 (F7 (std 0) pK.pre pK.fn) pQ:=mk Tryz.func143 rfl (by kernel_rfl) (hlC Rv.ok hlN) (aiB (std 0) pK)
def aaF:=fun a ha=>(Rw.cs (Yc (G:=(fun m:aj=>0<m.atoms.length∧m.atoms.getD 0 default<0)) aaD aaE a ha)).1
def aaG:=fun a ha=>(Rw.cs (Yc (G:=(fun m:aj=>0<m.atoms.length∧m.atoms.getD 0 default<0)) aaD aaE a ha)).2
noncomputable def bB:Ct ak iD:=cn (M5 (std 0) aC.pre aC.fn jD.pre jD.fn pO.pre pO.fn dM.pre dM.fn pQ.pre pQ.fn)
theorem zP:Fn E 67 (M5 (std 0) aC.pre aC.fn jD.pre jD.fn pO.pre pO.fn dM.pre dM.fn pQ.pre pQ.fn) bB:=mk Tryz.func67 rfl (by kernel_rfl) (hlC l7.ok (hlC TA.ok (hlC Rq.ok (hlC JC.ok (hlC Rw.ok hlN))))) (alL (std 0) aC jD pO dM pQ)
def nX:=fun a ha=>(zP.cs (adC fQ fT TB TD aav aaw Cv Cw aaF aaG a ha)).1
def nY:=fun a ha=>(zP.cs (adC fQ fT TB TD aav aaw Cv Cw aaF aaG a ha)).2
noncomputable def jF:Ct ak y7:=cn (M6 (std 0) bB.pre bB.fn)
theorem TF:Fn E 22 (M6 (std 0) bB.pre bB.fn) jF:=mk Tryz.func22 rfl (by kernel_rfl) (hlC zP.ok hlN) (alM (std 0) bB)
def TG:=fun a ha=>(TF.cs (adJ nX nY a ha)).1
def TH:=fun a ha=>(TF.cs (adJ nX nY a ha)).2
noncomputable def fK:Ct ak tK:=cn (M7 (std 0) sN.pre sN.fn ku.pre ku.fn dM.pre dM.fn)
theorem OT:Fn E 24 (M7 (std 0) sN.pre sN.fn ku.pre ku.fn dM.pre dM.fn) fK:=mk Tryz.func24 rfl (by kernel_rfl) (hlC acS.ok (hlC aas.ok (hlC JC.ok hlN))) (alN (std 0) sN ku dM)
def JD:=fun a b ha=>(OT.cs (adD acT acU VI VJ Cv Cw a b ha)).1
def JE:=fun a b ha=>(OT.cs (adD acT acU VI VJ Cv Cw a b ha)).2
noncomputable def jE:Ct ak y8:=cn (M8 (std 0))
theorem TI:Fn E 189 (M8 (std 0)) jE:=mk Tryz.func189 rfl (by kernel_rfl) hlN (alO (std 0))
def TJ:=fun a ha=>(TI.cs (adK a ha)).1
def TK:=fun a ha=>(TI.cs (adK a ha)).2
noncomputable def fJ:Ct ak tL:=cn (M9 (std 0) jE.pre jE.fn)
theorem OU:Fn E 146 (M9 (std 0) jE.pre jE.fn) fJ:=mk Tryz.func146 rfl (by kernel_rfl) (hlC TI.ok hlN) (alP (std 0) jE)
def JF:=fun a ha=>(OU.cs (adL TJ TK a ha)).1
def JG:=fun a ha=>(OU.cs (adL TJ TK a ha)).2
noncomputable def wK:Ct ak Iz:=cn (Na (std 0) fJ.pre fJ.fn)
theorem aaH:Fn E 145 (Na (std 0) fJ.pre fJ.fn) wK:=mk Tryz.func145 rfl (by kernel_rfl) (hlC OU.ok hlN) (alQ (std 0) fJ)
def aeH:=fun a ha=>(aaH.cs (aeh JF JG a ha)).1
def aeI:=fun a ha=>(aaH.cs (aeh JF JG a ha)).2
noncomputable def wL:Ct ak IB:=cn (Nb (std 0) fJ.pre fJ.fn wK.pre wK.fn)
theorem aaI:Fn E 68 (Nb (std 0) fJ.pre fJ.fn wK.pre wK.fn) wL:=mk Tryz.func68 rfl (by kernel_rfl) (hlC OU.ok (hlC aaH.ok hlN)) (alR (std 0) fJ wK)
def aeJ:=fun s hs=>(aaI.cs (aei JF JG aeH aeI s hs)).1
def aeK:=fun s hs=>(aaI.cs (aei JF JG aeH aeI s hs)).2
noncomputable def bL:Ct ak iR:=cn (Nc (std 0) fK.pre fK.fn)
theorem Cx:Fn E 69 (Nc (std 0) fK.pre fK.fn) bL:=mk Tryz.func69 rfl (by kernel_rfl) (hlC OT.ok hlN) (alS (std 0) fK)
def tX:=fun a b ha=>(Cx.cs (adE JD JE a b ha)).1
def tY:=fun a b ha=>(Cx.cs (adE JD JE a b ha)).2
noncomputable def bK:Ct ak iT:=cn (Ni (std 0) aC.pre aC.fn)
theorem Cy:Fn E 78 (Ni (std 0) aC.pre aC.fn) bK:=mk Tryz.func78 rfl (by kernel_rfl) (hlC l7.ok hlN) (alT (std 0) aC)
def tZ:=fun a=>(Cy.cs (adt fQ fT a)).1
def uf:=fun a=>(Cy.cs (adt fQ fT a)).2
noncomputable def jG:Ct ak y9:=cn (Nj (std 0) bK.pre bK.fn)
theorem TL:Fn E 70 (Nj (std 0) bK.pre bK.fn) jG:=mk Tryz.func70 rfl (by kernel_rfl) (hlC Cy.ok hlN) (alU (std 0) bK)
def TM:=fun r a b=>(TL.cs (aeg tZ uf r a b)).1
def TN:=fun r a b=>(TL.cs (aeg tZ uf r a b)).2
noncomputable def wY:Ct ak IC:=cn (Nk (std 0) jF.pre jF.fn bB.pre bB.fn fK.pre fK.fn wL.pre wL.fn bL.pre bL.fn jG.pre jG.fn)
theorem aaJ:Fn E 16 (Nk (std 0) jF.pre jF.fn bB.pre bB.fn fK.pre fK.fn wL.pre wL.fn bL.pre bL.fn jG.pre jG.fn) wY:=mk Tryz.func16 rfl (by kernel_rfl) (hlC TF.ok (hlC zP.ok (hlC OT.ok (hlC aaI.ok (hlC Cx.ok (hlC TL.ok hlN)))))) (alV (std 0) jF bB fK wL bL jG)
def aeL:=fun s n hs h0 h1=>(aaJ.cs (aen TG TH nX nY JD JE aeJ aeK tX tY TM TN s n hs h0 h1)).1
def aeM:=fun s n hs h0 h1=>(aaJ.cs (aen TG TH nX nY JD JE aeJ aeK tX tY TM TN s n hs h0 h1)).2
noncomputable def xG:Ct ak IE:=cn (Np (std 0) bK.pre bK.fn)
theorem aaK:Fn E 20 (Np (std 0) bK.pre bK.fn) xG:=mk Tryz.func20 rfl (by kernel_rfl) (hlC Cy.ok hlN) (alW (std 0) bK)
def aeN:=(aaK.cs (ad4 tZ uf)).1
def aeO:=(aaK.cs (ad4 tZ uf)).2
noncomputable def pU:Ct ak Bg:=cn (BI (std 0) aI.pre aI.fn dF.pre dF.fn)
theorem Rx:Fn E 151 (BI (std 0) aI.pre aI.fn dF.pre dF.fn) pU:=mk Tryz.func151 rfl (by kernel_rfl) (hlC qH.ok (hlC G7.ok hlN)) (aiC (std 0) aI dF)
def aaL:=fun c b p hc hb h1 h2=>(Rx.cs (Zl iP iQ BQ BR c b p hc hb h1 h2)).1
def aaM:=fun c b p hc hb h1 h2=>(Rx.cs (Zl iP iQ BQ BR c b p hc hb h1 h2)).2
noncomputable def qF:Ct ak Bh:=cn (Ga (std 0) pR.pre pR.fn aI.pre aI.fn pU.pre pU.fn pV.pre pV.fn)
theorem Ry:Fn E 98 (Ga (std 0) pR.pre pR.fn aI.pre aI.fn pU.pre pU.fn pV.pre pV.fn) qF:=mk Tryz.func98 rfl (by kernel_rfl) (hlC QU.ok (hlC qH.ok (hlC Rx.ok (hlC Rp.ok hlN)))) (aiD (std 0) pR aI pU pV)
def aaN:=fun n b p hb h1 h2=>(Ry.cs (Zm Zw Zx iP iQ aaL aaM aaq aar n b p hb h1 h2)).1
def aaO:=fun n b p hb h1 h2=>(Ry.cs (Zm Zw Zx iP iQ aaL aaM aaq aar n b p hb h1 h2)).2
noncomputable def jH:Ct ak za:=cn (Nq (std 0) aC.pre aC.fn)
theorem TP:Fn E 164 (Nq (std 0) aC.pre aC.fn) jH:=mk Tryz.func164 rfl (by kernel_rfl) (hlC l7.ok hlN) (alX (std 0) aC)
def TQ:=fun a=>(TP.cs (adu fQ fT a)).1
def TR:=fun a=>(TP.cs (adu fQ fT a)).2
noncomputable def jI:Ct ak ze:=cn (Nr (std 0) aC.pre aC.fn)
theorem TS:Fn E 165 (Nr (std 0) aC.pre aC.fn) jI:=mk Tryz.func165 rfl (by kernel_rfl) (hlC l7.ok hlN) (alY (std 0) aC)
def TT:=fun a=>(TS.cs (adw fQ fT a)).1
def TU:=fun a=>(TS.cs (adw fQ fT a)).2
noncomputable def jJ:Ct ak zf:=cn (Ns (std 0) aC.pre aC.fn jH.pre jH.fn jD.pre jD.fn bB.pre bB.fn jI.pre jI.fn)
theorem TW:Fn E 108 (Ns (std 0) aC.pre aC.fn jH.pre jH.fn jD.pre jD.fn bB.pre bB.fn jI.pre jI.fn) jJ:=mk Tryz.func108 rfl (by kernel_rfl) (hlC l7.ok (hlC TP.ok (hlC TA.ok (hlC zP.ok (hlC TS.ok hlN))))) (alZ (std 0) aC jH jD bB jI)
def T9:=fun a n ha=>(TW.cs (adS fQ fT TQ TR TB TD nX nY TT TU a n ha)).1
def Ua:=fun a n ha=>(TW.cs (adS fQ fT TQ TR TB TD nX nY TT TU a n ha)).2
noncomputable def wM:Ct ak IG:=cn (Nt (std 0) bL.pre bL.fn)
theorem aaP:Fn E 168 (Nt (std 0) bL.pre bL.fn) wM:=mk Tryz.func168 rfl (by kernel_rfl) (hlC Cx.ok hlN) (al0 (std 0) bL)
def aeP:=fun a b ha=>(aaP.cs (adP tX tY a b ha)).1
def aeQ:=fun a b ha=>(aaP.cs (adP tX tY a b ha)).2
noncomputable def wN:Ct ak II:=cn (Nu (std 0) wM.pre wM.fn)
theorem aaQ:Fn E 167 (Nu (std 0) wM.pre wM.fn) wN:=mk Tryz.func167 rfl (by kernel_rfl) (hlC aaP.ok hlN) (al1 (std 0) wM)
def aeR:=fun a b hb=>(aaQ.cs (adQ aeP aeQ a b hb)).1
def aeS:=fun a b hb=>(aaQ.cs (adQ aeP aeQ a b hb)).2
noncomputable def pW:Ct ak Bj:=cn (Gb (std 0) wN.pre wN.fn)
theorem Rz:Fn E 166 (Gb (std 0) wN.pre wN.fn) pW:=mk Tryz.func166 rfl (by kernel_rfl) (hlC aaQ.ok hlN) (aiE (std 0) wN)
def aaR:=fun a b ha hb=>(Rz.cs (Ye aeR aeS a b ha hb)).1
def aaS:=fun a b ha hb=>(Rz.cs (Ye aeR aeS a b ha hb)).2
noncomputable def jK:Ct ak zh:=cn (Nv (std 0) pW.pre pW.fn)
theorem Ub:Fn E 109 (Nv (std 0) pW.pre pW.fn) jK:=mk Tryz.func109 rfl (by kernel_rfl) (hlC Rz.ok hlN) (al2 (std 0) pW)
def Uc:=fun a b ha hb=>(Ub.cs (adR aaR aaS a b ha hb)).1
def Ud:=fun a b ha hb=>(Ub.cs (adR aaR aaS a b ha hb)).2
noncomputable def wZ:Ct ak IJ:=cn (Nw (std 0) jJ.pre jJ.fn jK.pre jK.fn)
theorem aaT:Fn E 38 (Nw (std 0) jJ.pre jJ.fn jK.pre jK.fn) wZ:=mk Tryz.func38 rfl (by kernel_rfl) (hlC TW.ok (hlC Ub.ok hlN)) (al3 (std 0) jJ jK)
def aeT:=fun a ha=>(aaT.cs (adT T9 Ua Uc Ud a ha)).1
def aeU:=fun a ha=>(aaT.cs (adT T9 Ua Uc Ud a ha)).2
noncomputable def jM:Ct ak zi:=cn (Ny (std 0) aC.pre aC.fn)
theorem Ue:Fn E 100 (Ny (std 0) aC.pre aC.fn) jM:=mk Tryz.func100 rfl (by kernel_rfl) (hlC l7.ok hlN) (al4 (std 0) aC)
def Uf:=fun o=>(Ue.cs (ad8 fQ fT o)).1
def Ug:=fun o=>(Ue.cs (ad8 fQ fT o)).2
noncomputable def wO:Ct ak IK:=cn (Nz (std 0) aC.pre aC.fn)
theorem aaU:Fn E 199 (Nz (std 0) aC.pre aC.fn) wO:=mk Tryz.func199 rfl (by kernel_rfl) (hlC l7.ok hlN) (al5 (std 0) aC)
def aeV:=fun o=>(aaU.cs (ad9 fQ fT o)).1
def aeW:=fun o=>(aaU.cs (ad9 fQ fT o)).2
noncomputable def jL:Ct ak zk:=cn (NA (std 0) wO.pre wO.fn aC.pre aC.fn)
theorem Uh:Fn E 172 (NA (std 0) wO.pre wO.fn aC.pre aC.fn) jL:=mk Tryz.func172 rfl (by kernel_rfl) (hlC aaU.ok (hlC l7.ok hlN)) (al6 (std 0) wO aC)
def Ui:=fun b x n h0 h1 h2=>(Uh.cs (aeb aeV aeW fQ fT b x n h0 h1 h2)).1
def Uj:=fun b x n h0 h1 h2=>(Uh.cs (aeb aeV aeW fQ fT b x n h0 h1 h2)).2
end Go.TX.F
namespace Go.TX.F
open Go Go.AE Go.TX Go.TX.Seat Go.Proofs
set_option maxRecDepth 100000
noncomputable def wQ:Ct ak IL:=cn (NC (std 0) jL.pre jL.fn jM.pre jM.fn bK.pre bK.fn aC.pre aC.fn jH.pre jH.fn jI.pre jI.fn)
theorem aaV:Fn E 122 (NC (std 0) jL.pre jL.fn jM.pre jM.fn bK.pre bK.fn aC.pre aC.fn jH.pre jH.fn jI.pre jI.fn) wQ:=mk Tryz.func122 rfl (by kernel_rfl) (hlC Uh.ok (hlC Ue.ok (hlC Cy.ok (hlC l7.ok (hlC TP.ok (hlC TS.ok hlN)))))) (al7 (std 0) jL jM bK aC jH jI)
def aeX:=fun b i h0 h1 h2 h3=>(aaV.cs (aec Ui Uj Uf Ug tZ uf fQ fT TQ TR TT TU b i h0 h1 h2 h3)).1
def aeY:=fun b i h0 h1 h2 h3=>(aaV.cs (aec Ui Uj Uf Ug tZ uf fQ fT TQ TR TT TU b i h0 h1 h2 h3)).2
noncomputable def jN:Ct ak zl:=cn (NH (std 0))
theorem Uk:Fn E 106 (NH (std 0)) jN:=mk Tryz.func106 rfl (by kernel_rfl) hlN (al8 (std 0))
def Ul:=fun b=>(Uk.cs (aed b)).1
def Um:=fun b=>(Uk.cs (aed b)).2
noncomputable def wP:Ct ak IQ:=cn (NI (std 0) jN.pre jN.fn jL.pre jL.fn bK.pre bK.fn aC.pre aC.fn)
theorem aaW:Fn E 123 (NI (std 0) jN.pre jN.fn jL.pre jL.fn bK.pre bK.fn aC.pre aC.fn) wP:=mk Tryz.func123 rfl (by kernel_rfl) (hlC Uk.ok (hlC Uh.ok (hlC Cy.ok (hlC l7.ok hlN)))) (al9 (std 0) jN jL bK aC)
def aeZ:=fun b h2=>(aaW.cs (aee Ul Um Ui Uj tZ uf fQ fT b h2)).1
def ae0:=fun b h2=>(aaW.cs (aee Ul Um Ui Uj tZ uf fQ fT b h2)).2
noncomputable def fP:Ct ak tN:=cn (NJ (std 0) wP.pre wP.fn wQ.pre wQ.fn aC.pre aC.fn)
theorem OV:Fn E 51 (NJ (std 0) wP.pre wP.fn wQ.pre wQ.fn aC.pre aC.fn) fP:=mk Tryz.func51 rfl (by kernel_rfl) (hlC aaW.ok (hlC aaV.ok (hlC l7.ok hlN))) (ama (std 0) wP wQ aC)
def JH:=fun b h2=>(OV.cs (aef aeZ ae0 aeX aeY fQ fT b h2)).1
def JI:=fun b h2=>(OV.cs (aef aeZ ae0 aeX aeY fQ fT b h2)).2
noncomputable def wR:Ct ak IU:=cn (NK (std 0))
theorem aaX:Fn E 198 (NK (std 0)) wR:=mk Tryz.func198 rfl (by kernel_rfl) hlN (amb (std 0))
def ae1:=fun a=>(aaX.cs (adO a)).1
def ae2:=fun a=>(aaX.cs (adO a)).2
noncomputable def jP:Ct ak zm:=cn (NP (std 0) jJ.pre jJ.fn jK.pre jK.fn wR.pre wR.fn)
theorem Un:Fn E 162 (NP (std 0) jJ.pre jJ.fn jK.pre jK.fn wR.pre wR.fn) jP:=mk Tryz.func162 rfl (by kernel_rfl) (hlC TW.ok (hlC Ub.ok (hlC aaX.ok hlN))) (amc (std 0) jJ jK wR)
def Uo:=fun t a ht ha=>(Un.cs (adU T9 Ua Uc Ud ae1 ae2 t a ht ha)).1
def Uq:=fun t a ht ha=>(Un.cs (adU T9 Ua Uc Ud ae1 ae2 t a ht ha)).2
noncomputable def jO:Ct ak zn:=cn (NQ (std 0) aC.pre aC.fn)
theorem Ur:Fn E 163 (NQ (std 0) aC.pre aC.fn) jO:=mk Tryz.func163 rfl (by kernel_rfl) (hlC l7.ok hlN) (amd (std 0) aC)
def Us:=fun a=>(Ur.cs (adI fQ fT a)).1
def Ut:=fun a=>(Ur.cs (adI fQ fT a)).2
noncomputable def jQ:Ct ak zo:=cn (NR (std 0) jO.pre jO.fn jP.pre jP.fn)
theorem Uu:Fn E 105 (NR (std 0) jO.pre jO.fn jP.pre jP.fn) jQ:=mk Tryz.func105 rfl (by kernel_rfl) (hlC Ur.ok (hlC Un.ok hlN)) (ame (std 0) jO jP)
def Uv:=fun kd k t fl ht=>(Uu.cs (aej Us Ut Uo Uq kd k t fl ht)).1
def Uw:=fun kd k t fl ht=>(Uu.cs (aej Us Ut Uo Uq kd k t fl ht)).2
noncomputable def jY:Ct ak zq:=cn (NS (std 0) jQ.pre jQ.fn)
theorem Ux:Fn E 99 (NS (std 0) jQ.pre jQ.fn) jY:=mk Tryz.func99 rfl (by kernel_rfl) (hlC Uu.ok hlN) (amf (std 0) jQ)
def Uy:=fun t fl ht hl=>(Ux.cs (aek Uv Uw t fl ht hl)).1
def Uz:=fun t fl ht hl=>(Ux.cs (aek Uv Uw t fl ht hl)).2
noncomputable def wX:Ct ak IV:=cn (NT (std 0) aC.pre aC.fn)
theorem aaY:Fn E 101 (NT (std 0) aC.pre aC.fn) wX:=mk Tryz.func101 rfl (by kernel_rfl) (hlC l7.ok hlN) (amg (std 0) aC)
def ae3:=fun o=>(aaY.cs (aea fQ fT o)).1
def ae4:=fun o=>(aaY.cs (aea fQ fT o)).2
noncomputable def xg:Ct ak IW:=cn (NU (std 0))
theorem aaZ:Fn E 102 (NU (std 0)) xg:=mk Tryz.func102 rfl (by kernel_rfl) hlN (amh (std 0))
def ae5:=fun a h0 h1=>(aaZ.cs (ael a h0 h1)).1
def ae6:=fun a h0 h1=>(aaZ.cs (ael a h0 h1)).2
noncomputable def fO:Ct ak tO:=cn (NV (std 0) aC.pre aC.fn)
theorem OW:Fn E 103 (NV (std 0) aC.pre aC.fn) fO:=mk Tryz.func103 rfl (by kernel_rfl) (hlC l7.ok hlN) (ami (std 0) aC)
def JJ:=fun a=>(OW.cs (adH fQ fT a)).1
def JK:=fun a=>(OW.cs (adH fQ fT a)).2
noncomputable def fM:Ct ak tQ:=cn (NW (std 0))
theorem OX:Fn E 169 (NW (std 0)) fM:=mk Tryz.func169 rfl (by kernel_rfl) hlN (amj (std 0))
def JL:=fun a=>(OX.cs (adF a)).1
def JM:=fun a=>(OX.cs (adF a)).2
noncomputable def jW:Ct ak zu:=cn (NY (std 0) bK.pre bK.fn fM.pre fM.fn)
theorem UA:Fn E 112 (NY (std 0) bK.pre bK.fn fM.pre fM.fn) jW:=mk Tryz.func112 rfl (by kernel_rfl) (hlC Cy.ok (hlC OX.ok hlN)) (amk (std 0) bK fM)
def UC:=fun op a b=>(UA.cs (adG tZ uf JL JM op a b)).1
def UD:=fun op a b=>(UA.cs (adG tZ uf JL JM op a b)).2
noncomputable def jR:Ct ak zw:=cn (NZ (std 0) dM.pre dM.fn)
theorem UE:Fn E 224 (NZ (std 0) dM.pre dM.fn) jR:=mk Tryz.func224 rfl (by kernel_rfl) (hlC JC.ok hlN) (aml (std 0) dM)
def aa0:=fun a b ha=>(UE.cs (adN Cv Cw a b ha)).1
def aa1:=fun a b ha=>(UE.cs (adN Cv Cw a b ha)).2
noncomputable def qb:Ct ak Bn:=cn (Gf (std 0) jR.pre jR.fn)
theorem RA:Fn E 240 (Gf (std 0) jR.pre jR.fn) qb:=mk Tryz.func240 rfl (by kernel_rfl) (hlC UE.ok hlN) (aiF (std 0) jR)
def aa2:=fun a b d hd h1 h2 h3=>(RA.cs (Yh aa0 aa1 a b d hd h1 h2 h3)).1
def aa3:=fun a b d hd h1 h2 h3=>(RA.cs (Yh aa0 aa1 a b d hd h1 h2 h3)).2
noncomputable def pX:Ct ak Bo:=cn (Gg (std 0))
theorem RD:Fn E 249 (Gg (std 0)) pX:=mk Tryz.func249 rfl (by kernel_rfl) hlN (aiG (std 0))
def aa4:=fun a b n d hl h1 h2 h3 h4=>(RD.cs (Yf a b n d hl h1 h2 h3 h4)).1
def aa5:=fun a b n d hl h1 h2 h3 h4=>(RD.cs (Yf a b n d hl h1 h2 h3 h4)).2
noncomputable def pY:Ct ak Bq:=cn (Gh (std 0) pX.pre pX.fn)
theorem RF:Fn E 247 (Gh (std 0) pX.pre pX.fn) pY:=mk Tryz.func247 rfl (by kernel_rfl) (hlC RD.ok hlN) (aiH (std 0) pX)
def ajm:=fun a m b d hl h1 h2 h3 h4=>(RF.cs (Yg aa4 aa5 a m b d hl h1 h2 h3 h4)).1
def ajn:=fun a m b d hl h1 h2 h3 h4=>(RF.cs (Yg aa4 aa5 a m b d hl h1 h2 h3 h4)).2
noncomputable def cK:Nat→Ct ak mX
  | 0=>never mX
  | k+1=>cn (Gi (std 0) jR.pre jR.fn pY.pre pY.fn (cK k).pre (cK k).fn)
theorem kK:∀k:Nat,cO E 241 (cB (cK k))∧∀(a m b:Int) (d:List aj),BJ a m b d→b-a<k→(cK k).pre (a,m,b,d,())=true∧Mrg d ((cK k).fn (a,m,b,d,())).1 a b
  | 0=>⟨ko (enters_of Tryz.func241 (by kernel_rfl) rfl),fun a m b d h1 h2=>(by have g1:=h1.h2;have g2:=h1.h3;omega)⟩
  | k+1=>by
    have ih:=kK k
    have t:Fn E 241 (Gi (std 0) jR.pre jR.fn pY.pre pY.fn (cK k).pre (cK k).fn) (cK (k+1)):=mk Tryz.func241 rfl (by kernel_rfl) (hlC UE.ok (hlC RF.ok (hlC ih.1 hlN))) (aiI (std 0) jR pY (cK k))
    exact⟨t.ok,fun a m b d h1 h2=>t.cs (ai6 aa0 aa1 ajm ajn (k:Int) (fun a m b d h1 h2=>(ih.2 a m b d h1 h2).1) (fun a m b d h1 h2=>(ih.2 a m b d h1 h2).2) a m b d h1 (by omega))⟩
noncomputable def jS:Ct ak mX:=cK 1000000000
theorem ajo:cO E 241 (cB jS):=(kK 1000000000).1
theorem ae7 {a m b:Int} {d:List aj} (h:BJ a m b d):b-a< ((1000000000:Nat):Int):=by have g0:=h.sh.1;have g1:=h.h1;have g2:=h.h4;omega
def aa6:=fun a m b d h=>((kK 1000000000).2 a m b d h (ae7 h)).1
def aa7:=fun a m b d h=>((kK 1000000000).2 a m b d h (ae7 h)).2
noncomputable def qc:Ct ak Br:=cn (Gn (std 0) qb.pre qb.fn jS.pre jS.fn)
theorem RG:Fn E 229 (Gn (std 0) qb.pre qb.fn jS.pre jS.fn) qc:=mk Tryz.func229 rfl (by kernel_rfl) (hlC RA.ok (hlC ajo hlN)) (aiJ (std 0) qb jS)
def aa8:=fun n d hd hn=>(RG.cs (Yi aa2 aa3 aa6 aa7 n d hd hn)).1
def aa9:=fun n d hd hn=>(RG.cs (Yi aa2 aa3 aa6 aa7 n d hd hn)).2
noncomputable def qd:Ct ak Bu:=cn (Gp (std 0) qc.pre qc.fn)
theorem RH:Fn E 223 (Gp (std 0) qc.pre qc.fn) qd:=mk Tryz.func223 rfl (by kernel_rfl) (hlC RG.ok hlN) (aiK (std 0) qc)
def abb:=fun d hd=>(RH.cs (Yj aa8 aa9 d hd)).1
def abd:=fun d hd=>(RH.cs (Yj aa8 aa9 d hd)).2
noncomputable def jT:Ct ak zy:=cn (N9 (std 0) dM.pre dM.fn bB.pre bB.fn fM.pre fM.fn jE.pre jE.fn qd.pre qd.fn)
theorem UF:Fn E 217 (N9 (std 0) dM.pre dM.fn bB.pre bB.fn fM.pre fM.fn jE.pre jE.fn qd.pre qd.fn) jT:=mk Tryz.func217 rfl (by kernel_rfl) (hlC JC.ok (hlC zP.ok (hlC OX.ok (hlC TI.ok (hlC RH.ok hlN))))) (amm (std 0) dM bB fM jE qd)
def UG:=fun l hl hc=>(UF.cs (adV Cv Cw nX nY JL JM TJ TK abb abd l hl hc)).1
def UH:=fun l hl hc=>(UF.cs (adV Cv Cw nX nY JL JM TJ TK abb abd l hl hc)).2
noncomputable def qg:Ct ak Bv:=cn (Gq (std 0))
theorem RJ:Fn E 225 (Gq (std 0)) qg:=mk Tryz.func225 rfl (by kernel_rfl) hlN (aiL (std 0))
def abe:=fun n h1 h2=>(RJ.cs (Yl n h1 h2)).1
def abf:=fun n h1 h2=>(RJ.cs (Yl n h1 h2)).2
noncomputable def wS:Ct ak IX:=cn (Oa (std 0) qg.pre qg.fn)
theorem abg:Fn E 218 (Oa (std 0) qg.pre qg.fn) wS:=mk Tryz.func218 rfl (by kernel_rfl) (hlC RJ.ok hlN) (amn (std 0) qg)
def ae8:=fun a b ha hb=>(abg.cs (adW abe abf a b ha hb)).1
def ae9:=fun a b ha hb=>(abg.cs (adW abe abf a b ha hb)).2
noncomputable def wU:Ct ak IY:=cn (Ob (std 0) bB.pre bB.fn jT.pre jT.fn wS.pre wS.fn)
theorem abh:Fn E 195 (Ob (std 0) bB.pre bB.fn jT.pre jT.fn wS.pre wS.fn) wU:=mk Tryz.func195 rfl (by kernel_rfl) (hlC zP.ok (hlC UF.ok (hlC abg.ok hlN))) (amo (std 0) bB jT wS)
def afa:=fun a b ha hb=>(abh.cs (adY nX nY UG UH ae8 ae9 a b ha hb)).1
def afb:=fun a b ha hb=>(abh.cs (adY nX nY UG UH ae8 ae9 a b ha hb)).2
noncomputable def qh:Ct ak Bw:=cn (Gr (std 0))
theorem RL:Fn E 226 (Gr (std 0)) qh:=mk Tryz.func226 rfl (by kernel_rfl) hlN (aiM (std 0))
def abj:=fun n h1 h2=>(RL.cs (Ym n h1 h2)).1
def abk:=fun n h1 h2=>(RL.cs (Ym n h1 h2)).2
noncomputable def wT:Ct ak IZ:=cn (Oc (std 0) qh.pre qh.fn)
theorem abl:Fn E 219 (Oc (std 0) qh.pre qh.fn) wT:=mk Tryz.func219 rfl (by kernel_rfl) (hlC RL.ok hlN) (amq (std 0) qh)
def afc:=fun a b ha hb=>(abl.cs (adX abj abk a b ha hb)).1
def afd:=fun a b ha hb=>(abl.cs (adX abj abk a b ha hb)).2
noncomputable def ql:Ct ak Bz:=cn (Gs (std 0) kC.pre kC.fn)
theorem RN:Fn E 230 (Gs (std 0) kC.pre kC.fn) ql:=mk Tryz.func230 rfl (by kernel_rfl) (hlC aau.ok hlN) (aiN (std 0) kC)
def abm:=fun a b d hd h1 h2=>(RN.cs (YC acV acW a b d hd h1 h2)).1
def abn:=fun a b d hd h1 h2=>(RN.cs (YC acV acW a b d hd h1 h2)).2
noncomputable def qm:Ct ak EB:=never EB
theorem ajp:cO E 231 (cB qm):=ko (enters_of Tryz.func231 (by kernel_rfl) rfl)
noncomputable def qo:Ct ak EC:=never EC
theorem ajq:cO E 232 (cB qo):=ko (enters_of Tryz.func232 (by kernel_rfl) rfl)
noncomputable def qp:Ct ak ED:=never ED
theorem ajr:cO E 233 (cB qp):=ko (enters_of Tryz.func233 (by kernel_rfl) rfl)
noncomputable def qw:Ct ak EF:=never EF
theorem ajs:cO E 234 (cB qw):=ko (enters_of Tryz.func234 (by kernel_rfl) rfl)
noncomputable def qx:Ct ak EG:=never EG
theorem ajt:cO E 235 (cB qx):=ko (enters_of Tryz.func235 (by kernel_rfl) rfl)
noncomputable def qy:Ct ak EH:=never EH
theorem aju:cO E 236 (cB qy):=ko (enters_of Tryz.func236 (by kernel_rfl) rfl)
noncomputable def qz:Ct ak EI:=never EI
theorem ajv:cO E 237 (cB qz):=ko (enters_of Tryz.func237 (by kernel_rfl) rfl)
noncomputable def bD:Ct ak mY:=never mY
theorem lY:cO E 227 (cB bD):=ko (enters_of Tryz.func227 (by kernel_rfl) rfl)
noncomputable def jU:Ct ak mY:=cn (Gt (std 0) kC.pre kC.fn ql.pre ql.fn qm.pre qm.fn qo.pre qo.fn qp.pre qp.fn qw.pre qw.fn qx.pre qx.fn qy.pre qy.fn qz.pre qz.fn bD.pre bD.fn)
theorem RO:Fn E 227 (Gt (std 0) kC.pre kC.fn ql.pre ql.fn qm.pre qm.fn qo.pre qo.fn qp.pre qp.fn qw.pre qw.fn qx.pre qx.fn qy.pre qy.fn qz.pre qz.fn bD.pre bD.fn) jU:=mk Tryz.func227 rfl (by kernel_rfl) (hlC aau.ok (hlC RN.ok (hlC ajp (hlC ajq (hlC ajr (hlC ajs (hlC ajt (hlC aju (hlC ajv (hlC lY hlN)))))))))) (aiO (std 0) kC ql qm qo qp qw qx qy qz bD)
def abo:=fun a b k d hd h1 h2=>(RO.cs (YD abm abn _ _ _ _ _ _ _ _ _ _ _ _ _ _ _ _ a b k d hd h1 h2)).1
def abp:=fun a b k d hd h1 h2=>(RO.cs (YD abm abn _ _ _ _ _ _ _ _ _ _ _ _ _ _ _ _ a b k d hd h1 h2)).2
end Go.TX.F
namespace Go.TX.F
open Go Go.AE Go.TX Go.TX.Seat Go.Proofs
set_option maxRecDepth 100000
noncomputable def uY:Ct ak SL:={pre:=fun x=>decide ((0:Int)≤x.1)&&decide ((x.1:Int)≤18446744073709551615),fn:=fun x=>((Lib.bitLen (x.1:Int).toNat:Int),())}
theorem afe (n:Int) (h1:0≤n) (h2:n≤18446744073709551615):uY.pre (n,())=true:=by
  show(decide _&&decide _)=true;simp only [Bool.and_eq_true,decide_eq_true_eq];exact⟨h1,h2⟩
theorem amX:cO E 228 (cB uY):=
  Zt (enters_of Tryz.func228 (by kernel_rfl) rfl) rfl fun x w h=>by
      have h':(decide ((0:Int)≤x)&&decide (x≤18446744073709551615))=true:=h
      simp only [Bool.and_eq_true,decide_eq_true_eq]at h'
      exact bits_Len x w h'.1 h'.2
noncomputable def qA:Ct ak BA:=cn (Gu (std 0) jU.pre jU.fn uY.pre uY.fn)
theorem RP:Fn E 220 (Gu (std 0) jU.pre jU.fn uY.pre uY.fn) qA:=mk Tryz.func220 rfl (by kernel_rfl) (hlC RO.ok (hlC amX hlN)) (aiP (std 0) jU uY)
def abq:=fun a ha=>(RP.cs (YE abo abp afe a ha)).1
def abr:=fun a ha=>(RP.cs (YE abo abp afe a ha)).2
noncomputable def jV:Ct ak zB:=cn (Od (std 0) bB.pre bB.fn fM.pre fM.fn jT.pre jT.fn wT.pre wT.fn qA.pre qA.fn)
theorem UJ:Fn E 197 (Od (std 0) bB.pre bB.fn fM.pre fM.fn jT.pre jT.fn wT.pre wT.fn qA.pre qA.fn) jV:=mk Tryz.func197 rfl (by kernel_rfl) (hlC zP.ok (hlC OX.ok (hlC UF.ok (hlC abl.ok (hlC RP.ok hlN))))) (amr (std 0) bB fM jT wT qA)
def UK:=fun a b ha hb=>(UJ.cs (adZ nX nY JL JM UG UH afc afd abq abr a b ha hb)).1
def UL:=fun a b ha hb=>(UJ.cs (adZ nX nY JL JM UG UH afc afd abq abr a b ha hb)).2
noncomputable def wV:Ct ak I4:=cn (Oe (std 0) bB.pre bB.fn fO.pre fO.fn bK.pre bK.fn jV.pre jV.fn)
theorem abt:Fn E 196 (Oe (std 0) bB.pre bB.fn fO.pre fO.fn bK.pre bK.fn jV.pre jV.fn) wV:=mk Tryz.func196 rfl (by kernel_rfl) (hlC zP.ok (hlC OW.ok (hlC Cy.ok (hlC UJ.ok hlN)))) (ams (std 0) bB fO bK jV)
def aff:=fun a n ha=>(abt.cs (ad1 nX nY JJ JK tZ uf UK UL a n ha)).1
def afg:=fun a n ha=>(abt.cs (ad1 nX nY JJ JK tZ uf UK UL a n ha)).2
noncomputable def wW:Ct ak I5:=cn (Oi (std 0) bL.pre bL.fn fO.pre fO.fn jW.pre jW.fn wU.pre wU.fn jV.pre jV.fn wV.pre wV.fn jF.pre jF.fn)
theorem abu:Fn E 161 (Oi (std 0) bL.pre bL.fn fO.pre fO.fn jW.pre jW.fn wU.pre wU.fn jV.pre jV.fn wV.pre wV.fn jF.pre jF.fn) wW:=mk Tryz.func161 rfl (by kernel_rfl) (hlC Cx.ok (hlC OW.ok (hlC UA.ok (hlC abh.ok (hlC UJ.ok (hlC abt.ok (hlC TF.ok hlN))))))) (amt (std 0) bL fO jW wU jV wV jF)
def afh:=fun op x y hx hy=>(abu.cs (ad2 tX tY JJ JK UC UD afa afb UK UL aff afg TG TH op x y hx hy)).1
def afi:=fun op x y hx hy=>(abu.cs (ad2 tX tY JJ JK UC UD afa afb UK UL aff afg TG TH op x y hx hy)).2
noncomputable def w9:Ct ak I6:=cn (Oj (std 0) fK.pre fK.fn wW.pre wW.fn jP.pre jP.fn jO.pre jO.fn)
theorem abv:Fn E 104 (Oj (std 0) fK.pre fK.fn wW.pre wW.fn jP.pre jP.fn jO.pre jO.fn) w9:=mk Tryz.func104 rfl (by kernel_rfl) (hlC OT.ok (hlC abu.ok (hlC Un.ok (hlC Ur.ok hlN)))) (amu (std 0) fK wW jP jO)
def afj:=fun t op x y ht hx hy=>(abv.cs (ad3 JD JE afh afi Uo Uq Us Ut t op x y ht hx hy)).1
def afk:=fun t op x y ht hx hy=>(abv.cs (ad3 JD JE afh afi Uo Uq Us Ut t op x y ht hx hy)).2
noncomputable def jX:Ct ak zC:=cn (Ol (std 0) fJ.pre fJ.fn)
theorem UM:Fn E 107 (Ol (std 0) fJ.pre fJ.fn) jX:=mk Tryz.func107 rfl (by kernel_rfl) (hlC OU.ok hlN) (amv (std 0) fJ)
def UN:=fun a ha=>(UM.cs (adM JF JG a ha)).1
def UO:=fun a ha=>(UM.cs (adM JF JG a ha)).2
noncomputable def xA:Ct ak I7:=cn (Om (std 0) jN.pre jN.fn fP.pre fP.fn wX.pre wX.fn jM.pre jM.fn fO.pre fO.fn wY.pre wY.fn wZ.pre wZ.fn jX.pre jX.fn w9.pre w9.fn jQ.pre jQ.fn jY.pre jY.fn xg.pre xg.fn)
theorem abw:Fn E 37 (Om (std 0) jN.pre jN.fn fP.pre fP.fn wX.pre wX.fn jM.pre jM.fn fO.pre fO.fn wY.pre wY.fn wZ.pre wZ.fn jX.pre jX.fn w9.pre w9.fn jQ.pre jQ.fn jY.pre jY.fn xg.pre xg.fn) xA:=mk Tryz.func37 rfl (by kernel_rfl) (hlC Uk.ok (hlC OV.ok (hlC aaY.ok (hlC Ue.ok (hlC OW.ok (hlC aaJ.ok (hlC aaT.ok (hlC UM.ok (hlC abv.ok (hlC Uu.ok (hlC Ux.ok (hlC aaZ.ok hlN)))))))))))) (amw (std 0) jN fP wX jM fO wY wZ jX w9 jQ jY xg)
def afl:=fun t b ht hb=>(abw.cs (aeo Ul Um JH JI ae3 ae4 Uf Ug JJ JK aeL aeM aeT aeU UN UO afj afk Uv Uw Uy Uz ae5 ae6 t b ht hb)).1
def afm:=fun t b ht hb=>(abw.cs (aeo Ul Um JH JI ae3 ae4 Uf Ug JJ JK aeL aeM aeT aeU UN UO afj afk Uv Uw Uy Uz ae5 ae6 t b ht hb)).2
noncomputable def qB:Ct ak BD:=cn (Gw (std 0))
theorem RQ:Fn E 152 (Gw (std 0)) qB:=mk Tryz.func152 rfl (by kernel_rfl) hlN (aiQ (std 0))
def abx:=fun a b ha=>(RQ.cs (Zn a b ha)).1
def aby:=fun a b ha=>(RQ.cs (Zn a b ha)).2
noncomputable def xu:Ct ak I8:=cn (Oo (std 0) qB.pre qB.fn)
theorem abz:Fn E 84 (Oo (std 0) qB.pre qB.fn) xu:=mk Tryz.func84 rfl (by kernel_rfl) (hlC RQ.ok hlN) (amx (std 0) qB)
def afn:=fun a b ha=>(abz.cs (aer abx aby a b ha)).1
def afo:=fun a b ha=>(abz.cs (aer abx aby a b ha)).2
noncomputable def xw:Ct ak I9:=cn (Oq (std 0) jX.pre jX.fn jY.pre jY.fn)
theorem abA:Fn E 85 (Oq (std 0) jX.pre jX.fn jY.pre jY.fn) xw:=mk Tryz.func85 rfl (by kernel_rfl) (hlC UM.ok (hlC Ux.ok hlN)) (amy (std 0) jX jY)
def afp:=(abA.cs (aem UN UO Uy Uz)).1
def afq:=(abA.cs (aem UN UO Uy Uz)).2
noncomputable def xk:Ct ak Ja:=cn (Ou (std 0) bL.pre bL.fn)
theorem abB:Fn E 191 (Ou (std 0) bL.pre bL.fn) xk:=mk Tryz.func191 rfl (by kernel_rfl) (hlC Cx.ok hlN) (amA (std 0) bL)
def afr:=fun a b ha=>(abB.cs (aes tX tY a b ha)).1
def afs:=fun a b ha=>(abB.cs (aes tX tY a b ha)).2
noncomputable def qC:Ct ak BF:=cn (Gx (std 0) xk.pre xk.fn)
theorem RS:Fn E 190 (Gx (std 0) xk.pre xk.fn) qC:=mk Tryz.func190 rfl (by kernel_rfl) (hlC abB.ok hlN) (aiR (std 0) xk)
def abC:=fun a b ha=>(RS.cs (Zo afr afs a b ha)).1
def abD:=fun a b ha=>(RS.cs (Zo afr afs a b ha)).2
noncomputable def jZ:Ct ak zD:=cn (Ov (std 0) qC.pre qC.fn)
theorem UQ:Fn E 155 (Ov (std 0) qC.pre qC.fn) jZ:=mk Tryz.func155 rfl (by kernel_rfl) (hlC RS.ok hlN) (amB (std 0) qC)
def UR:=fun a b ha=>(UQ.cs (aeu abC abD a b ha)).1
def UU:=fun a b ha=>(UQ.cs (aeu abC abD a b ha)).2
noncomputable def xq:Ct ak Jb:=cn (Ow (std 0) bL.pre bL.fn jZ.pre jZ.fn)
theorem abE:Fn E 154 (Ow (std 0) bL.pre bL.fn jZ.pre jZ.fn) xq:=mk Tryz.func154 rfl (by kernel_rfl) (hlC Cx.ok (hlC UQ.ok hlN)) (amC (std 0) bL jZ)
def aft:=fun a b ha=>(abE.cs (aev tX tY UR UU a b ha)).1
def afu:=fun a b ha=>(abE.cs (aev tX tY UR UU a b ha)).2
noncomputable def qD:Ct ak BG:=cn (Gy (std 0) xq.pre xq.fn)
theorem RU:Fn E 153 (Gy (std 0) xq.pre xq.fn) qD:=mk Tryz.func153 rfl (by kernel_rfl) (hlC abE.ok hlN) (aiS (std 0) xq)
def abF:=fun a b ha=>(RU.cs (Zp aft afu a b ha)).1
def abG:=fun a b ha=>(RU.cs (Zp aft afu a b ha)).2
noncomputable def xB:Ct ak Jc:=cn (Ox (std 0) bL.pre bL.fn jZ.pre jZ.fn qD.pre qD.fn)
theorem abH:Fn E 86 (Ox (std 0) bL.pre bL.fn jZ.pre jZ.fn qD.pre qD.fn) xB:=mk Tryz.func86 rfl (by kernel_rfl) (hlC Cx.ok (hlC UQ.ok (hlC RU.ok hlN))) (amD (std 0) bL jZ qD)
def afv:=fun a b ha=>(abH.cs (aew tX tY UR UU abF abG a b ha)).1
def afw:=fun a b ha=>(abH.cs (aew tX tY UR UU abF abG a b ha)).2
noncomputable def Hr:Ct ak Vu:=cn (XW (std 0) fP.pre fP.fn xu.pre xu.fn xw.pre xw.fn xA.pre xA.fn xB.pre xB.fn)
theorem ajw:Fn E 26 (XW (std 0) fP.pre fP.fn xu.pre xu.fn xw.pre xw.fn xA.pre xA.fn xB.pre xB.fn) Hr:=mk Tryz.func26 rfl (by kernel_rfl) (hlC OV.ok (hlC abz.ok (hlC abA.ok (hlC abw.ok (hlC abH.ok hlN))))) (aoq (std 0) fP xu xw xA xB)
def amY:=fun b c hb hc=>(ajw.cs (amV JH JI afn afo afp afq afl afm afv afw b c hb hc)).1
def amZ:=fun b c hb hc=>(ajw.cs (amV JH JI afn afo afp afq afl afm afv afw b c hb hc)).2
noncomputable def xE:Ct ak Jd:=cn (Oy (std 0))
theorem abI:Fn E 34 (Oy (std 0)) xE:=mk Tryz.func34 rfl (by kernel_rfl) hlN (amE (std 0))
def afx:=fun a b ha=>(abI.cs (aez a b ha)).1
def afy:=fun a b ha=>(abI.cs (aez a b ha)).2
end Go.TX.F
namespace Go.TX.F
open Go Go.AE Go.TX Go.TX.Seat Go.Proofs
set_option maxRecDepth 100000
noncomputable def qG:Ct ak BH:=cn (Gz (std 0) dG.pre dG.fn qE.pre qE.fn aI.pre aI.fn qF.pre qF.fn)
theorem RV:Fn E 40 (Gz (std 0) dG.pre dG.fn qE.pre qE.fn aI.pre aI.fn qF.pre qF.fn) qG:=mk Tryz.func40 rfl (by kernel_rfl) (hlC G8.ok (hlC QT.ok (hlC qH.ok (hlC Ry.ok hlN)))) (aiT (std 0) dG qE aI qF)
def abJ:=fun c hc hl=>(RV.cs (Zq BS BU Zu Zv iP iQ aaN aaO c hc hl)).1
def abK:=fun c hc hl=>(RV.cs (Zq BS BU Zu Zv iP iQ aaN aaO c hc hl)).2
noncomputable def Hq:Ct ak Vv:=cn (X0 (std 0))
theorem ajx:Fn E 110 (X0 (std 0)) Hq:=mk Tryz.func110 rfl (by kernel_rfl) hlN (aor (std 0))
def am0:=fun b hb=>(ajx.cs (amW b hb)).1
def am1:=fun b hb=>(ajx.cs (amW b hb)).2
noncomputable def xC:Ct ak Je:=cn (Oz (std 0))
theorem abL:Fn E 111 (Oz (std 0)) xC:=mk Tryz.func111 rfl (by kernel_rfl) hlN (amF (std 0))
def afz:=fun i a1 a2 a3 a4 a5 a6 ops h=>(abL.cs (aex i a1 a2 a3 a4 a5 a6 ops h)).1
def afA:=fun i a1 a2 a3 a4 a5 a6 ops h=>(abL.cs (aex i a1 a2 a3 a4 a5 a6 ops h)).2
noncomputable def xD:Ct ak Jf:=cn (OA (std 0) Hq.pre Hq.fn fP.pre fP.fn xC.pre xC.fn jW.pre jW.fn jG.pre jG.fn)
theorem abM:Fn E 41 (OA (std 0) Hq.pre Hq.fn fP.pre fP.fn xC.pre xC.fn jW.pre jW.fn jG.pre jG.fn) xD:=mk Tryz.func41 rfl (by kernel_rfl) (hlC ajx.ok (hlC OV.ok (hlC abL.ok (hlC UA.ok (hlC TL.ok hlN))))) (amG (std 0) Hq fP xC jW jG)
def afB:=fun b hb=>(abM.cs (aey am0 am1 JH JI afz afA UC UD TM TN b hb)).1
def afC:=fun b hb=>(abM.cs (aey am0 am1 JH JI afz afA UC UD TM TN b hb)).2
noncomputable def afD:Ct ak WZ:=cn (OB (std 0) Hr.pre Hr.fn xD.pre xD.fn xE.pre xE.fn xG.pre xG.fn qG.pre qG.fn aU.pre aU.fn gQ.pre gQ.fn)
theorem abN:Fn E 9 (OB (std 0) Hr.pre Hr.fn xD.pre xD.fn xE.pre xE.fn xG.pre xG.fn qG.pre qG.fn aU.pre aU.fn gQ.pre gQ.fn) afD:=mk Tryz.func9 rfl (by kernel_rfl) (hlC ajw.ok (hlC abM.ok (hlC abI.ok (hlC aaK.ok (hlC RV.ok (hlC vD.ok (hlC Lc.ok hlN))))))) (amH (std 0) Hr xD xE xG qG aU gQ)
def am2:=fun c hc=>(abN.cs (aeA amY amZ afB afC afx afy aeN aeO abJ abK lW lX Ld Le c hc)).1
def am3:=fun c hc=>(abN.cs (aeA amY amZ afB afC afx afy aeN aeO abJ abK lW lX Ld Le c hc)).2
end Go.TX.F
namespace Go.Proofs.YtnhlcljjjbjfeaaGreat
open Go.ChangeShapes Go.WideShapes Go.ChangeAt Go.RowKit
theorem aoB:ownKnob Tryz.prog.godebug=Option.none:=by kernel_rfl
theorem am4:laidOutB Tryz.prog=true:=by kernel_rfl
theorem ajy:Tryz.prog.cellsOf 5=1:=by kernel_rfl
set_option maxRecDepth 100000 in
theorem lifted (os:Os) (started:os.Started) (H:Type) (enc:TypeId×Value→H):
    ReturnsInHanded {} Tryz.checked os 9 .any (Rows.fnOptConstSpec.pre6 enc Tryz.prog Tryz.f9 Rows.fnOptConstRow.domain false) (Rows.fnOptConstSpec.post enc Tryz.prog Tryz.f9 false true false false):=by
  refine returnsInHanded_of_change (C:=Tryz.checked) aoB started (by kernel_rfl) Tryz.func9
    (ChangeSpec.witness6 (enc:=enc) (C:=Tryz.checked) false ⟨#[], #[.slice none 0 0],[]⟩ 8 (by kernel_rfl) (by kernel_rfl) (by kernel_rfl) (by kernel_rfl)) ?_
  intro W base args ds gs before hval0 hW _ _
  have hval:∀(j:Nat) t v,Tryz.f9.params[j]? =some t→args[j]? =some v→Value.okWide Tryz.prog W .any base t v:=hval0
  have hW':=hW
  obtain⟨p,q,hA0,hV,rfl,_,_⟩:=hW
  have hA:DataW.TrodAll enc Tryz.prog W 0 (fun _=>true) true Tryz.f9.params.toList args.toList ds p:=hA0
  rw [Tryz.params9]at hA hval
  obtain⟨v0,d0,rfl,rfl,h0⟩:=trodAll_one hA
  obtain⟨rfl,rfl⟩:=trodVars_none hV
  clear hA0 hval0
  simp only [List.append_nil]at hW'
  have hlt:∀x∈p,x.block<W.heap.size:=fun x hx=>by simpa using hW'.lt x hx
  obtain⟨xs,hr,hb⟩:=Go.TX.Zr Tryz.underlying22 Tryz.underlying5 ajy (hval 0 22 v0 rfl rfl) h0 hlt
  have hp:=Go.TX.F.am2 xs hb
  have hq:=Go.TX.F.am3 xs hb
  refine(Go.TX.aoy Go.TX.F.abN.ok hr (fun g d h=>by cases h) hp).mono fun e W' ⟨he,hw⟩=> ?_
  have he:e= .returned (.bool true):=by rw [he,show Go.TX.F.afD.fn (xs,())=(true,())from hq]
  refine⟨_,he,[d0],[],p,[],p,[],hW',trodAll_mk1 (shut_bool Tryz.underlying4 true),?_,rfl,hw.frame _,fun h=>by cases h⟩
  exact trodAll_mk1 (Below.trod am4 (by kernel_rfl) (of_decide_eq_true (by kernel_rfl)) h0 hw hlt)
theorem y1:Tryz.pinned.checked.prog.funcNamed Rows.fnOptConstRow.func=some 9:=by kernel_rfl
theorem aS {a b:Bool} (h:a=true) (k:b=true):(a&&b)=true:=by rw [h,k];rfl
set_option maxHeartbeats 4000000 in
theorem y2:joinedFacts Tryz.pinned.checked.prog 9 Tryz.f9 Rows.fnOptConstSpec Rows.fnOptConstRow=true:=by
  unfold joinedFacts
  repeat' with_reducible apply aS
  all_goals (as_aux_lemma=>kernel_rfl)
theorem y3:Func.isWrapper Tryz.prog Tryz.f9 Rows.fnOptConstRow.wrapper Rows.fnOptConstRow.mainSum:=(by unfold Func.isWrapper;first | (rw [if_pos (by decide+kernel)];kernel_rfl) | (rw [if_neg (by decide+kernel)];exact⟨rfl,rfl⟩))
theorem x_holds:Rows.FnOptConstSaid:=
  OpenClaim.holds_of_wide 9 Tryz.f9 rfl rfl rfl rfl rfl rfl rfl ⟨rfl,rfl,rfl,rfl,rfl⟩ rfl rfl rfl rfl rfl y1 Tryz.func9 y2
    (of_decide_eq_true (by kernel_rfl)) y3
    (fun os started H enc _=>lifted os started H enc)
end Go.Proofs.YtnhlcljjjbjfeaaGreat
