/- For every input the law returns true, and the input reads as it did. No condition. -/
import Derived.Test.YtnhlcljjjbjfeaaGreatZe
import Derived.ChangeSlices
import Derived.ChangeSame
import Derived.JoinedOf
import Derived.JoinedAt
import Derived.Handed
import Derived.Below
import Derived.Carry
import Derived.OpenShut
import Derived.ChangeKeysEq
import Derived.Test.YtnhlcljjjbjfeaaGreatY
import Derived.Test.YtnhlcljjjbjfeaaGreatRows
set_option linter.all false
set_option linter.unusedSectionVars false
set_option linter.unusedVariables false
set_option linter.unusedSimpArgs false
namespace Go.TX.F
open Go Go.AE Go.TX
theorem alv (x y:IOp):aiu .iop x y=decide (x=y):=rfl
theorem Pw {P:Prop} [Decidable P]:decide P=bp P:=by unfold bp;congr
theorem X6 (a b:List IOp) (ha:a.length<1000000000):FT (std 0) (a,b,()) (fun y=>y=(bp (a=b),())):=by
  dsimp only [FT,Alg.cl,Alg.cg,Alg.rb,Alg.bd,Alg.l1,Tup.q,Tup.o]
  simp (disch:=omega) only [RR]
  refine⟨fun h=> ?_,fun h=> ?_⟩
  · rw [iI (fun e=>h (by rw [e]))]
  have hl:a.length=b.length:=by omega
  refine aA (fun(y:List IOp×List IOp×Int×Int×Unit)=>y.1=a∧y.2.1=b∧y.2.2.1=a.length∧0≤y.2.2.2.1∧y.2.2.2.1≤a.length∧All y.2.2.2.1 (fun i=>a.getD i.toNat default=b.getD i.toNat default)) (fun y=>(a.length-y.2.2.2.1).toNat) ⟨rfl,rfl,rfl,by simp,by simp,All.zero⟩ ?_
  rintro⟨(l1:List IOp),(l2:List IOp),(n:Int),(i:Int),⟨⟩⟩ hI
  dsimp only at hI ⊢
  obtain⟨rfl,rfl,rfl,h1,h2,h3⟩:=hI
  simp (disch:=omega) only [RR,alv]
  refine⟨fun h4=>⟨by omega,by omega,by omega,by omega,fun h5=> ?_,fun h5=>⟨⟨by omega,by omega,h3.snoc h5⟩,by omega⟩⟩,fun h4=> ?_⟩
  · rw [iI]
    intro e;rw [e]at h5;exact h5 rfl
  · rw [iA (JQ hl (h3.le (by omega)))]
theorem acZ {p1:List IOp×List IOp×Unit→Bool} {f1:List IOp×List IOp×Unit→Bool×Unit} (hp1:∀a b,a.length<1000000000→p1 (a,b,())=true) (hf1:∀a b,a.length<1000000000→f1 (a,b,())=(bp (a=b),())) (a b:Blk) (ha:a.ops.length<1000000000):Nh (std 0) p1 f1 (a,b,()) (fun y=>y=(bp (a=b),())):=by
  dsimp only [Nh,Alg.cl,Alg.cg,Alg.rb,Alg.bd,Alg.l1,Tup.q,Tup.o]
  simp (disch:=omega) only [RR,RB,hp1 _ _ ha,hf1 _ _ ha]
  simp only [Pw,←um]
  refine Prod.ext (uo ?_) rfl
  cases a;cases b;simp only [Blk.mk.injEq]
  constructor<;>(intro h;simp only [h,and_self])
theorem ac0 {p1:List aj×List aj×Unit→Bool} {f1:List aj×List aj×Unit→Bool×Unit} (hp1:∀a b,Sh a→p1 (a,b,())=true) (hf1:∀a b,Sh a→f1 (a,b,())=(decide (jf a b=0),())) (a b:List aj) (ha:Sh a):Nj (std 0) p1 f1 (a,b,()) (fun y=>y=(decide (jf a b=0),())):=by
  dsimp only [Nj,Alg.cl,Alg.cg,Alg.rb,Alg.bd,Alg.l1,Tup.q,Tup.o]
  simp (disch:=omega) only [RR,hp1 _ _ ha,hf1 _ _ ha]
theorem X7 {p1:List aj×List aj×Unit→Bool} {f1:List aj×List aj×Unit→Bool×Unit} (hp1:∀a b,Sh a→p1 (a,b,())=true) (hf1:∀a b,Sh a→f1 (a,b,())=(decide (jf a b=0),())) (a b:List (List aj)) (ha:ShP a):FU (std 0) p1 f1 (a,b,()) (fun y=>y=(bp (a=b),())):=by
  have hlen:=ha.1
  dsimp only [FU,Alg.cl,Alg.cg,Alg.rb,Alg.bd,Alg.l1,Tup.q,Tup.o]
  simp (disch:=omega) only [RR]
  refine⟨fun h=> ?_,fun h=> ?_⟩
  · rw [iI (fun e=>h (by rw [e]))]
  have hl:a.length=b.length:=by omega
  refine aA (fun(y:List (List aj)×List (List aj)×Int×Int×Unit)=>y.1=b∧y.2.1=a∧y.2.2.1=a.length∧0≤y.2.2.2.1∧y.2.2.2.1≤a.length∧All y.2.2.2.1 (fun i=>a.getD i.toNat default=b.getD i.toNat default)) (fun y=>(a.length-y.2.2.2.1).toNat) ⟨rfl,rfl,rfl,by simp,by simp,All.zero⟩ ?_
  rintro⟨(l1:List (List aj)),(l2:List (List aj)),(n:Int),(i:Int),⟨⟩⟩ hI
  dsimp only at hI ⊢
  obtain⟨rfl,rfl,rfl,h1,h2,h3⟩:=hI
  simp (disch:=omega) only [RR,hp1 _ _ (ha.at _),hf1 _ _ (ha.at _),lU]
  refine⟨fun h4=>⟨by omega,by omega,by omega,by omega,fun h5=> ?_,fun h5=>⟨⟨by omega,by omega,h3.snoc h5⟩,by omega⟩⟩,fun h4=> ?_⟩
  · rw [iI]
    intro e;rw [e]at h5;exact h5 rfl
  · rw [iA (JQ hl (h3.le (by omega)))]
theorem ac1 {p1:List (List aj)×List (List aj)×Unit→Bool} {f1:List (List aj)×List (List aj)×Unit→Bool×Unit} (hp1:∀a b,ShP a→p1 (a,b,())=true) (hf1:∀a b,ShP a→f1 (a,b,())=(bp (a=b),())) (a b:List (List aj)) (ha:ShP a):Nk (std 0) p1 f1 (a,b,()) (fun y=>y=(bp (a=b),())):=by
  dsimp only [Nk,Alg.cl,Alg.cg,Alg.rb,Alg.bd,Alg.l1,Tup.q,Tup.o]
  simp (disch:=omega) only [RR,hp1 _ _ ha,hf1 _ _ ha]
theorem ac2 {p1:List aj×List aj×Unit→Bool} {f1:List aj×List aj×Unit→Bool×Unit} (hp1:∀a b,Sh a→p1 (a,b,())=true) (hf1:∀a b,Sh a→f1 (a,b,())=(decide (jf a b=0),())) {p2:List (List aj)×List (List aj)×Unit→Bool} {f2:List (List aj)×List (List aj)×Unit→Bool×Unit} (hp2:∀a b,ShP a→p2 (a,b,())=true) (hf2:∀a b,ShP a→f2 (a,b,())=(bp (a=b),())) (a b:Ev) (ha:ShE a):Nl (std 0) p1 f1 p2 f2 (a,b,()) (fun y=>y=(bp (a=b),())):=by
  dsimp only [Nl,Alg.cl,Alg.cg,Alg.rb,Alg.bd,Alg.l1,Tup.q,Tup.o]
  simp (disch:=omega) only [RR,RB,hp1 _ _ ha.1,hf1 _ _ ha.1,hp1 _ _ ha.2.1,hf1 _ _ ha.2.1,hp2 _ _ ha.2.2,hf2 _ _ ha.2.2,lU]
  simp only [Pw,←um]
  refine Prod.ext (uo ?_) rfl
  cases a;cases b;simp only [Ev.mk.injEq]
  constructor<;>(intro h;simp only [h,and_self])
theorem X8 {p1:Ev×Ev×Unit→Bool} {f1:Ev×Ev×Unit→Bool×Unit} (hp1:∀a b,ShE a→p1 (a,b,())=true) (hf1:∀a b,ShE a→f1 (a,b,())=(bp (a=b),())) (a b:List Ev) (ha:Uq a):FV (std 0) p1 f1 (a,b,()) (fun y=>y=(bp (a=b),())):=by
  have hlen:=ha.1
  dsimp only [FV,Alg.cl,Alg.cg,Alg.rb,Alg.bd,Alg.l1,Tup.q,Tup.o]
  simp (disch:=omega) only [RR]
  refine⟨fun h=> ?_,fun h=> ?_⟩
  · rw [iI (fun e=>h (by rw [e]))]
  have hl:a.length=b.length:=by omega
  refine aA (fun(y:List Ev×List Ev×Int×Int×Unit)=>y.1=b∧y.2.1=a∧y.2.2.1=a.length∧0≤y.2.2.2.1∧y.2.2.2.1≤a.length∧All y.2.2.2.1 (fun i=>a.getD i.toNat default=b.getD i.toNat default)) (fun y=>(a.length-y.2.2.2.1).toNat) ⟨rfl,rfl,rfl,by simp,by simp,All.zero⟩ ?_
  rintro⟨(l1:List Ev),(l2:List Ev),(n:Int),(i:Int),⟨⟩⟩ hI
  dsimp only at hI ⊢
  obtain⟨rfl,rfl,rfl,h1,h2,h3⟩:=hI
  simp (disch:=omega) only [RR,hp1 _ _ (ha.at _),hf1 _ _ (ha.at _),bX,uj]
  refine⟨fun h4=>⟨by omega,by omega,by omega,by omega,fun h5=> ?_,fun h5=>⟨⟨by omega,by omega,h3.snoc h5⟩,by omega⟩⟩,fun h4=> ?_⟩
  · rw [iI]
    intro e;rw [e]at h5;exact h5 rfl
  · rw [iA (JQ hl (h3.le (by omega)))]
theorem ac3 {p1:List aj×List aj×Unit→Bool} {f1:List aj×List aj×Unit→Bool×Unit} (hp1:∀a b,Sh a→p1 (a,b,())=true) (hf1:∀a b,Sh a→f1 (a,b,())=(decide (jf a b=0),())) {p2:List (List aj)×List (List aj)×Unit→Bool} {f2:List (List aj)×List (List aj)×Unit→Bool×Unit} (hp2:∀a b,ShP a→p2 (a,b,())=true) (hf2:∀a b,ShP a→f2 (a,b,())=(bp (a=b),())) {p3:List Ev×List Ev×Unit→Bool} {f3:List Ev×List Ev×Unit→Bool×Unit} (hp3:∀b a,Uq b→p3 (b,a,())=true) (hf3:∀b a,Uq b→f3 (b,a,())=(bp (b=a),())) (a b:Sym) (ha:ShY a):Nn (std 0) p1 f1 p2 f2 p3 f3 (a,b,()) (fun y=>y=(bp (a=b),())):=by
  dsimp only [Nn,Alg.cl,Alg.cg,Alg.rb,Alg.bd,Alg.l1,Tup.q,Tup.o]
  simp (disch:=omega) only [RR,RB,hp1 _ _ ha.x,hf1 _ _ ha.x,hp1 _ _ ha.y,hf1 _ _ ha.y,hp2 _ _ ha.r,hf2 _ _ ha.r,hp3 _ _ ha.e,hf3 _ _ ha.e,lU]
  simp only [Pw,←um]
  refine Prod.ext (uo ?_) rfl
  cases a;cases b;simp only [Sym.mk.injEq]
  constructor<;>(intro h;simp only [h,and_self])
theorem alx {p1:Blk×Unit→Bool} {f1:Blk×Unit→Bool×Unit} (hp1:∀b,b.ops.length<1000000000→p1 (b,())=true) (hf1:∀b,b.ops.length<1000000000→f1 (b,())=(bp (gM b),())) {p2:Blk×Blk×Unit→Bool} {f2:Blk×Blk×Unit→Bool×Unit} (hp2:∀a b,a.ops.length<1000000000→p2 (a,b,())=true) (hf2:∀a b,a.ops.length<1000000000→f2 (a,b,())=(bp (a=b),())) {p3:Unit→Bool} {f3:Unit→List Atom×List (List aj)×Unit} (hp3:p3 ()=true) (hf3:(f3 ()).1=t4) {p4:List Atom×Blk×Unit→Bool} {f4:List Atom×Blk×Unit→List Atom×Sym×Unit} (hp4:∀t b,ShT t→b.ops.length<1000000000→p4 (t,b,())=true) (hf4:∀t b,ShT t→b.ops.length<1000000000→f4 (t,b,())=((bU t b).1,(bU t b).2,())) {p5:Sym×Sym×Unit→Bool} {f5:Sym×Sym×Unit→Bool×Unit} (hp5:∀a b,ShY a→p5 (a,b,())=true) (hf5:∀a b,ShY a→f5 (a,b,())=(bp (a=b),())) (b c:Blk) (hb:b.ops.length<1000000000) (hc:c.ops.length<1000000000):Wv (std 0) p1 f1 p2 f2 p3 f3 p4 f4 p5 f5 (b,c,()) (fun y=>y=(chk b c,())):=by
  have s4:ShT t4:=RF.1.sh
  have y1:=JZ t4 b
  dsimp only [Wv,Alg.cl,Alg.cg,Alg.rb,Alg.bd,Alg.l1,Tup.q,Tup.o]
  simp (disch:=omega) only [RR,RB,hp1 b hb,hf1 b hb,hp1 c hc,hf1 c hc,hp2 b c hb,hf2 b c hb,hp3,hf3,hp4 t4 b s4 hb,hf4 t4 b s4 hb,hp4 _ c y1.2 hc,hf4 _ c y1.2 hc,hp5 _ _ y1.1,hf5 _ _ y1.1,bX,uj]
  unfold chk
  refine⟨fun h=> ?_,fun h=>⟨fun e=> ?_,fun e=> ?_⟩⟩
  · rw [iI];rintro⟨h1,h2,h3,h4,_⟩;simp_all
  · rw [iA];exact⟨h.1.1.1,h.1.1.2,h.1.2,h.2,Or.inl e⟩
  · refine Prod.ext (uo ?_) rfl
    exact⟨fun g=>⟨h.1.1.1,h.1.1.2,h.1.2,h.2,Or.inr g⟩,fun g=>g.2.2.2.2.resolve_left e⟩
theorem ac4 (b:Blk) (k:Int) (hb:b.ops.length<1000000000):Np (std 0) (b,k,()) (fun y=>y=(many b.ops k,())):=by
  dsimp only [Np,Alg.cl,Alg.cg,Alg.rb,Alg.bd,Alg.l1,Tup.q,Tup.o]
  simp (disch:=omega) only [RR,RB]
  refine aA (fun(y:Int×Int×Int×Blk×Unit)=>y.1=k∧0≤y.2.2.1∧y.2.2.1≤b.ops.length∧y.2.2.2.1=b∧y.2.1=many (b.ops.take y.2.2.1.toNat) k) (fun y=>(b.ops.length-y.2.2.1).toNat) ⟨rfl,by simp,by simp,rfl,rfl⟩ ?_
  rintro⟨(k':Int),(n:Int),(i:Int),(b':Blk),⟨⟩⟩ hI
  dsimp only at hI ⊢
  obtain⟨rfl,h1,h2,rfl,rfl⟩:=hI
  simp (disch:=omega) only [RR,RB]
  have tk:i<b'.ops.length→many (b'.ops.take (i+1).toNat) k'=many (b'.ops.take i.toNat) k'+if((b'.ops).getD (i).toNat default).kind=k' then 1 else 0:=fun h=>by
    rw [show(i+1).toNat=i.toNat+1 by omega]
    unfold many
    rw [List.take_succ_eq_append_getElem (by omega),List.filter_append,List.length_append,getD_lt (by omega)]
    by_cases c:b'.ops[i.toNat].kind=k'
    · rw [if_pos c,List.filter_cons_of_pos (by simpa using c)];simp
    · rw [if_neg c,List.filter_cons_of_neg (by simpa using c)];simp
  have l0:0≤many (b'.ops.take i.toNat) k'∧many (b'.ops.take i.toNat) k'≤b'.ops.length:=by
    unfold many;exact⟨by omega,by have:=List.length_filter_le (fun o:IOp=>decide (o.kind=k')) (b'.ops.take i.toNat);rw [List.length_take]at this;omega⟩
  refine⟨fun h=>⟨by omega,by omega,fun c=> ?_,fun c=> ?_⟩,fun h=> ?_⟩
  · exact⟨⟨by omega,by omega,by rw [tk h,if_pos c,w64 (by omega) (by omega)]⟩,by omega⟩
  · exact⟨⟨by omega,by omega,by rw [tk h,if_neg c];omega⟩,by omega⟩
  · rw [List.take_of_length_le (by omega)]
theorem ac5 {p3:Blk×Blk×Unit→Bool} {f3:Blk×Blk×Unit→Bool×Unit} (hp3:∀b c,b.ops.length<1000000000→c.ops.length<1000000000→p3 (b,c,())=true) (hf3:∀b c,b.ops.length<1000000000→c.ops.length<1000000000→f3 (b,c,())=(chk b c,())) {p4:Blk×Int×Unit→Bool} {f4:Blk×Int×Unit→Int×Unit} (hp4:∀b k,b.ops.length<1000000000→p4 (b,k,())=true) (hf4:∀b k,b.ops.length<1000000000→f4 (b,k,())=(many b.ops k,())) {p1:Unit→Bool} {f1:Unit→Bool×Unit} (hp1:p1 ()=true) (hf1:f1 ()=(true,())) {p2:List Int×Unit→Bool} {f2:List Int×Unit→Blk×Blk×Unit} (hp2:∀c,By c→c.length<1000000000→p2 (c,())=true) (hf2:∀c,By c→c.length<1000000000→(f2 (c,())).1.ops.length<100000∧(f2 (c,())).2.1.ops.length<100000) (c:List Int) (hc:By c):Nq (std 0) p3 f3 p4 f4 p1 f1 p2 f2 (c,()) (fun y=>y=(true,())):=by
  dsimp only [Nq,Alg.cl,Alg.cg,Alg.rb,Alg.bd,Alg.l1,Tup.q,Tup.o]
  simp (disch:=omega) only [RR]
  by_cases hl:1048576< (c.length:Int)
  · simp (disch:=omega) only [RR,hl]
  · have D:=hf2 c hc (by omega)
    have P:=hp2 c hc (by omega)
    generalize (f2 (c,())).1=b at D ⊢
    generalize (f2 (c,())).2.1=d at D ⊢
    have b1:b.ops.length<1000000000:=by omega
    have d1:d.ops.length<1000000000:=by omega
    simp (disch:=omega) only [RR,hl,P,hp3 b d b1 d1,hf3 b d b1 d1,hp1,hf1]
    intro h
    refine aA (fun(y:Int×Blk×Blk×Unit)=>4≤y.1∧y.1≤8∧y.2.1=b∧y.2.2.1=d) (fun y=>(8-y.1).toNat) ⟨by simp,by simp,rfl,rfl⟩ ?_
    rintro⟨(k:Int),(b':Blk),(d':Blk),⟨⟩⟩ hI
    dsimp only at hI ⊢
    obtain⟨h1,h2,rfl,rfl⟩:=hI
    simp (disch:=omega) only [RR,hp4 _ k b1,hf4 _ k b1,hp4 _ k d1,hf4 _ k d1]
    intro h3
    have:=Xq h (k:=k) (by omega)
    exact⟨fun h4=>absurd this h4,fun _=>⟨by omega,by omega⟩⟩
end Go.TX.F
namespace Go.TX
open Go Go.AE
theorem enters_of {P:Program} {f:FuncId} {fn:Func} {c:Code} (hf:P.funcs[f]? =some fn) (hname:(fn.name== "runtime.NumGoroutine")=false) (hb:fn.body=some c):Enters P f:=by
  intro args w
  have h1:fn.name≠ "runtime.NumGoroutine" :=by simpa using hname
  simp [callFunc,hf,h1,hb,mark]
def RL (P:Program):Nat→List Field→Bool
  | _,[]=>true
  | k,f::fs=> !(f.name== "_")&&f.offset==k&& (match P.underlying f.type with | some (.int _)=>true | _=>false)&&RL P (k+1) fs
theorem RN {P:Program} (w:World) (d:Nat) (xs ys:List Int) (hl:xs.length=ys.length):∀(fs:List Field) (k:Nat),RL P k fs=true→k+fs.length=xs.length→
    (Op.eqFields (d+1) (xs.map (Value.int .i64)).toArray (ys.map (Value.int .i64)).toArray fs).run P w= .ok (xs.drop k==ys.drop k) w
  | [],k,_,h2=>by
    rw [List.drop_eq_nil_of_le (show xs.length≤k by simp only [List.length_nil]at h2;omega),List.drop_eq_nil_of_le (show ys.length≤k by simp only [List.length_nil]at h2;omega)]
    simp [Op.eqFields]
  | f::fs,k,h1,h2=>by
    simp only [List.length_cons]at h2
    simp only [RL,Bool.and_eq_true,Bool.not_eq_true',beq_eq_false_iff_ne,beq_iff_eq]at h1
    obtain⟨⟨⟨n1,n2⟩,n3⟩,n4⟩:=h1
    have hk:k<xs.length:=by omega
    have hk':k<ys.length:=by omega
    obtain⟨kd,hu⟩:∃kd,P.underlying f.type=some (.int kd):=by
      cases hu:P.underlying f.type with
      | none=>rw [hu]at n3;cases n3
      | some z=>cases z<;>(first | exact⟨_,rfl⟩ | (rw [hu]at n3;cases n3))
    have pk:P.plainKey f.type=true:=by unfold Program.plainKey;rw [hu]
    have p1:=run_part_plain w pk (xs:=(xs.map (Value.int .i64)).toArray) (off:=f.offset) (v:= .int .i64 xs[k]) (by rw [n2];simp [hk])
    have p2:=run_part_plain w pk (xs:=(ys.map (Value.int .i64)).toArray) (off:=f.offset) (v:= .int .i64 ys[k]) (by rw [n2];simp [hk'])
    have ih:=RN w d xs ys hl fs (k+1) n4 (by omega)
    simp only [Op.eqFields,if_pos n1,Sem.run_bind,p1,p2,Result.andThen_ok,run_equalIn_int w d f.type .i64 kd _ _ hu]
    have e:(xs.drop k==ys.drop k)=((xs[k]==ys[k])&& (xs.drop (k+1)==ys.drop (k+1))):=by rw [List.drop_eq_getElem_cons hk,List.drop_eq_getElem_cons hk'];rfl
    rw [e]
    by_cases c:(xs[k]==ys[k])=true
    · rw [c]
      simp only [Bool.not_true,Bool.false_eq_true,if_false,ih,Bool.true_and]
    · have c2:(xs[k]==ys[k])=false:=by simpa using c
      rw [c2]
      simp only [Bool.not_false,if_true,Sem.run_pure,Bool.false_and]
theorem ahX {P:Program} {t:TypeId} {n:Nat} (hu:P.underlying t=some (.struct (P.fieldsOf t))) (hs:P.stoodInHeld t=false) (hg:P.eqGuardType P.depth t=false) (hf:RL P 0 (P.fieldsOf t).toList=true) (hn:(P.fieldsOf t).size=n) (xs ys:List Int) (hx:xs.length=n) (hy:ys.length=n) (w:World):
    (Op.equal t (.agg (xs.map (Value.int .i64)).toArray) (.agg (ys.map (Value.int .i64)).toArray)).run P w= .ok (xs==ys) w∧
    (eqGuard .eql t (.tmp 0) (.tmp 0) (.agg (xs.map (Value.int .i64)).toArray) (.agg (ys.map (Value.int .i64)).toArray)).run P w= .ok () w:=by
  refine⟨?_,run_eqGuard_agg w _ _ _ _ _ _ hg⟩
  show(Op.equalIn (9999+1) t _ _).run P w=_
  rw [run_equalIn_struct w 9999 t _ _ hu hs,RN w 9998 xs ys (by omega) _ 0 hf (by rw [Array.length_toList];omega)]
  rfl
noncomputable def never (s:Sig):Ct ak s:={pre:=fun _=>false,fn:=fun _=>Classical.choice (ug _)}
theorem jR {E:Tab} {f:FuncId} {s:Sig} (h:Enters E.P f):cu E f (bZ (never s)) where
  enters:=h
  calls:=by
    rintro args hh n K ⟨m,vs,h2,h3,h4,h5,cr,h6,h7,h8⟩
    exfalso
    unfold qX at h6
    split at h6
    · split at h6
      · split at h6
        · split at h6
          · cases h6
            have:=h7 false (List.mem_append_right _ (List.mem_singleton.2 rfl))
            cases this
          · cases h6
        · cases h6
      · cases h6
    · cases h6
abbrev am0:Sig:={args:=[.c (.rows true .u8)],objs:=[],res:=[.c .bool],dD:=[]}
def entry (W:World):Ctx:={K:=fun _ b=>b<W.heap.size,μ:=fun _=>none,n:=0}
theorem Px (W:World):bG (entry W) W []:=
  ⟨fun l o h=>(by cases h),fun l o l' o' b h=>(by cases h),fun f b ⟨l,o,h,_⟩=>(by cases h),fun f b h=>h,fun b h=>h⟩
theorem NA {W W':World} {c':Ctx} {h':Heap} (g:Grow (entry W) W [] c' W' h'):RowKit.Below W.heap.size W W':=
  ⟨g.os,g.tape,g.output,g.size,fun k hk=>g.kept k hk fun⟨l,o,h,_⟩=>by cases h⟩
theorem abm {c:Ctx} {w:World} {v:Value} {r:PV} {N:NM} {b:Bool} (h1:bF c w v r) (h2:PVR N r (.c (.d true (.bool b)))):v= .bool b:=by
  cases h2 with
  | one h=>
    cases h with
    | c h=>
      cases h with
      | d h3 _=>
        subst h3
        cases h1 with
        | c _ _ h4=>cases h4 with
          | d _ _ _ h5=>cases h5;rfl
    | agg h=>cases h
theorem am1 {E:Tab} {f:FuncId} {c:Ct ak am0} (hc:cu E f (bZ c)) {xs:List Int} {W:World} {v:Value} (hv:dA (fun b=>b<W.heap.size) W v (.rows 1 (aM .u8 xs)))
    (hg:qK E (entry W) W) (hp:c.pre (xs,())=true):Go.Calls E.P f #[v] W fun e W'=>e= .returned (.bool (c.fn (xs,())).1)∧RowKit.Below W.heap.size W W':=by
  refine(hc.calls [.c (.d true (.rows 1 (aM .u8 xs)))] [] 0 (fun r _ _=>PVR (nmh []) r (.c (.d true (.bool (c.fn (xs,())).1)))) ?_ (entry W) W [v] rfl (.cons (.c _ _ (.d true _ _ hv)) .nil) (Px W) hg).mono ?_
  · refine⟨0,[.c (.d true (.rows .u8 xs))],[],.cons (.one (.c (.d rfl fun _=> .inl rfl))) .nil,⟨fun l o h=>(by cases h),fun _ _=>rfl⟩,rfl,_,rfl,?_,_,_,rfl,?_⟩
    · intro b hb
      rcases List.mem_append.1 hb with h | h
      · cases h
      · rw [List.mem_singleton]at h;rw [h];exact hp
    · intro r _ _ h _ _ _;exact h
  · rintro e W' he
    cases e with
    | returned u=>
      obtain⟨c',r,h',j,g,_,_,h1,h2⟩:=he
      exact⟨by rw [abm h1 h2],NA g⟩
    | outgrown=>exact he.elim
    | panicked _=>exact he.elim
open Go.RowKit Go.ChangeShapes Go.WideShapes Go.ChangeAt in
theorem X9 {H:Type} {enc:TypeId×Value→H} {P:Program} {t e:TypeId} (ht:P.underlying t=some (.slice e)) (he:P.underlying e=some (.int .u8)) (hc:P.cellsOf e=1) {W:World} {base:Nat} {v:Value} {d:DataW H} {p:List MemPlace}
    (hval:Value.okWide P W .any base t v) (h:DataW.Trod enc P W 0 (fun _=>true) true t v d p) (hlt:∀x∈p,x.block<W.heap.size):
    ∃xs:List Int,dA (fun b=>b<W.heap.size) W v (.rows 1 (aM .u8 xs))∧∀z∈xs,0≤z∧z≤255:=by
  obtain⟨a0,len,cap,rfl⟩:=okWide_slice ht hval
  obtain⟨fuel,hf⟩:=h
  rcases open_ints ht he hc hf with⟨hcs,hx⟩ | ⟨a,len',cap',zs,hcs,_,hl,hm,hz,hx,hcell,hwz⟩
  · simp [Value.cells]at hcs
    obtain⟨rfl,rfl,rfl⟩:=hcs
    exact⟨[],.none _ _ _,fun _ h=>by cases h⟩
  · simp [Value.cells]at hcs
    obtain⟨rfl,rfl,rfl⟩:=hcs
    simp only [Prod.mk.injEq]at hx
    obtain⟨rfl,rfl⟩:=hx
    simp only [if_true]at hz
    have rng:∀z∈zs,0≤z∧z≤255:=fun z hz=>by
      obtain⟨i,hi,rfl⟩:=List.getElem_of_mem hz
      have:=range_u8 hwz i
      rwa [List.getElem?_eq_getElem hi]at this
    refine⟨zs.take len,?_,fun z h=>rng z (List.mem_of_mem_take h)⟩
    by_cases h0:len=0
    · subst h0;exact .none _ _ _
    · obtain⟨b,off,spot⟩:=a
      have hspot:spot=none:=by simpa [Addr.add]using World.cell?_spot (hcell 0 (by omega))
      subst hspot
      have hbW:b<W.heap.size:=hlt (.cell b off) (MemPlace.mem_row.2 ⟨0,by omega,by simp⟩)
      have hlen:(aM .u8 (zs.take len)).length=len:=by simp only [aM,List.length_map,List.length_take];omega
      have hget:∀i,i<len→(aM .u8 (zs.take len)).getD i []=[.int .u8 (zs.getD i 0)]:=fun i hi=>by
        simp only [aM,List.getD,List.getElem?_map,List.getElem?_take_of_lt hi,List.getElem?_eq_getElem (show i<zs.length by omega)]
        rfl
      refine .rows b off cap 1 len _ (fun i j=> .int .u8 (zs.getD i 0)) hbW hlen.symm hl (fun i j hi hj=> ?_) (fun i hi=> ?_) (fun i j hi hj=> ?_)
      · rw [hlen]at hi
        have:=hcell i (by omega)
        rw [add_plain]at this
        rw [show off+i*1+j=off+i by omega]
        exact this
      · rw [hlen]at hi;rw [hget i hi];rfl
      · rw [hlen]at hi
        have hj0:j=0:=by omega
        subst hj0
        unfold gd;rw [hget i hi];exact .int _ _
end Go.TX
namespace Go.TX.Seat
open Go Go.AE Go.TX Go.TX.F Go.Proofs
set_option maxRecDepth 100000
theorem am2:∀t n,E.ieq t=some n→∀(xs ys:List Int),xs.length=n→ys.length=n→∀w,
    (Op.equal t (.agg (xs.map (Value.int .i64)).toArray) (.agg (ys.map (Value.int .i64)).toArray)).run E.P w= .ok (xs==ys) w∧
    (eqGuard .eql t (.tmp 0) (.tmp 0) (.agg (xs.map (Value.int .i64)).toArray) (.agg (ys.map (Value.int .i64)).toArray)).run E.P w= .ok () w:=by
  intro t n h
  obtain⟨c,hc,rfl⟩:∃c,ieq t=some c∧c.size=n:=by
    have h':(ieq t).map (fun c=>c.size)=some n:=h
    cases hi:ieq t with
    | none=>rw [hi]at h';cases h'
    | some c=>rw [hi]at h';cases h';exact⟨c,rfl,rfl⟩
  unfold ieq at hc
  split at hc
  all_goals first | (cases hc;exact ahX (by kernel_rfl) (by kernel_rfl) (by kernel_rfl) (by kernel_rfl) (by kernel_rfl)) | cases hc
theorem hE:aJ E:=⟨amP,am2⟩
theorem am3:∀t c,X.ieq t=some c→(c= .ins∧E.ieq t=some 4)∨(c= .iop∧E.ieq t=some 5):=by
  intro t c h
  have h:ieq t=some c:=h
  have e:E.ieq t=(ieq t).map fun c=>c.size:=rfl
  rw [e,h]
  unfold ieq at h
  split at h
  all_goals first | (cases h;first | exact Or.inl ⟨rfl,rfl⟩ | exact Or.inr ⟨rfl,rfl⟩) | cases h
theorem xok:XOK X E:=⟨rfl,fun g c h=>(by cases h),am3⟩
theorem hm:E.P.follows .mixedOrders=true:=by kernel_rfl
theorem hlN:∀p∈([]:List (FuncId×Sigma (Ct ak))),cu E p.1 (bZ p.2.2):=fun _ h=>by cases h
theorem hlC {f:FuncId} {s:Sig} {c:Ct ak s} {l:List (FuncId×Sigma (Ct ak))} (h:cu E f (bZ c)) (r:∀p∈l,cu E p.1 (bZ p.2.2)):∀p∈(f,⟨s,c⟩)::l,cu E p.1 (bZ p.2.2):=fun p hp=>by
  rcases List.mem_cons.1 hp with rfl | hp
  · exact h
  · exact r p hp
theorem mk {lk:aH} {f:FuncId} {fn:Func} (hf:E.P.funcs[f]? =some fn) (hb:fn.body.isSome=true) (hn:(fn.name== "runtime.NumGoroutine")=false) {l:List (FuncId×Sigma (Ct ak))} (hl:∀p∈l,cu E p.1 (bZ p.2.2)) {ord:List (Nat×List dW)} {s:Sig} {an:Ann}
    {F:gU s.inp→(gU s.out→Prop)→Prop} (h:Ru X E (std 0) ord an s fn l F):Fn E f F (cn F):=ama hE xok hm hf hb (fun _=>enters_of hf hn) hl h
theorem Ya {E:Tab} {f:FuncId} {c:Ct ak {args:=[.c (.int .u64)],objs:=[],res:=[.c (.int .i64)],dD:=[]}} {g:Int→Int} (hent:Enters E.P f) (hg:(fun x:Int=>(c.fn (x,())).1)=g)
    (h:∀(x:Int) (w:World),c.pre (x,())=true→Go.Calls E.P f #[.int .u64 x] w fun e w'=>e= .returned (.int .i64 (g x))∧w'=w):cu E f (bZ c) where
  enters:=hent
  calls:=by
    rintro args hh n K ⟨m,qs,hs,hargs,HR,hlen,cr,hcall,aaR,v,kT,hvk,hK⟩ c1 w vs hcn qF Hh Gl
    have key:∀f0 (x:Int),qs=[.c (.d f0 (.int .u64 x))]→qX (std m) hs {args:=[.c (.int .u64)],objs:=[],res:=[.c (.int .i64)],dD:=[]} c qs=some {ck:=[c.pre (x,())],ts:=[.i],y:=c.fn (x,()),touched:=[],pure:=true,k:=fun y=>some (.c (.d true (.int .i64 y.1)),hs)}:=by
      intro f0 x e;subst e;rfl
    have hq:∃f0 x,qs=[.c (.d f0 (.int .u64 x))]:=by
      unfold qX at hcall
      cases qs with
      | nil=>simp [mU]at hcall
      | cons q r=>
        cases r with
        | cons q2 r2=>
          exfalso
          simp only [mU]at hcall
          cases hx:Gd (std m) hs (.c (.int .u64)) q (es0 (std m) 0 [])with
          | none=>rw [hx]at hcall;simp at hcall
          | some s=>rw [hx]at hcall;simp [mU]at hcall
        | nil=>
          simp only [mU]at hcall
          cases q with
          | c y=>
            simp only [Gd,extC]at hcall
            cases y with
            | d f0 y=>
              cases y with
              | int k x=>
                by_cases hk:IntKind.u64=k
                · subst hk;exact⟨f0,x,rfl⟩
                · simp [hk]at hcall
              | _=>simp at hcall
            | _=>simp at hcall
          | _=>simp [Gd]at hcall
    obtain⟨f0,x,rfl⟩:=hq
    rw [key f0 x rfl]at hcall
    simp only [Option.some.injEq]at hcall
    subst hcall
    simp only [Option.some.injEq,Prod.mk.injEq]at hvk
    obtain⟨rfl,rfl⟩:=hvk
    have hpre:=aaR _ (List.mem_singleton.2 rfl)
    have hv:vs=[.int .u64 x]:=by
      cases hargs with
      | cons h1 h2=>
        cases h2
        cases qF with
        | cons h3 h4=>
          cases h4
          cases h1 with
          | one h1=>
            cases h1 with
            | c h1=>
              cases h1 with
              | d h5 _=>
                subst h5
                cases h3 with
                | c _ _ h6=>cases h6 with
                  | d _ _ _ h7=>cases h7;rfl
            | agg h1=>cases h1
    subst hv
    refine(h x w hpre).mono ?_
    rintro e w' ⟨rfl,rfl⟩
    refine⟨c1,.c (.d true (.int .i64 (g x))),hh,0,.refl _ _ _,Hh,hcn,.c _ _ (.d _ _ _ (.int _ _)),hK _ _ _ ?_ HR (.refl _ _ _) hlen⟩
    rw [←hg]
    exact .one (.c (.d rfl fun _=> .inl rfl))
end Go.TX.Seat
namespace Go.TX.F
open Go Go.AE Go.TX Go.TX.Seat Go.Proofs
set_option maxRecDepth 100000
noncomputable def oU:Ct ak zI:=cn (D8 (std 0))
theorem Py:Fn E 59 (D8 (std 0)) oU:=mk Tryz.func59 rfl (by kernel_rfl) hlN (agp (std 0))
def Yb:=fun b hb hl=>(Py.cs (Xg b hb hl)).1
def Yc:=fun b hb hl=>(Py.cs (Xg b hb hl)).2
noncomputable def aG:Ct ak cO:=cn (D9 (std 0))
theorem mJ:Fn E 61 (D9 (std 0)) aG:=mk Tryz.func61 rfl (by kernel_rfl) hlN (agq (std 0))
def gW:=fun n b p hb h1 h2=>(mJ.cs (Xh n b p hb h1 h2)).1
def gX:=fun n b p hb h1 h2=>(mJ.cs (Xh n b p hb h1 h2)).2
noncomputable def aO:Ct ak dU:=cn (Ea (std 0))
theorem rU:Fn E 89 (Ea (std 0)) aO:=mk Tryz.func89 rfl (by kernel_rfl) hlN (agr (std 0))
def kZ:=fun a b c=>(rU.cs (WY a b c)).1
def lg:=fun a b c=>(rU.cs (WY a b c)).2
noncomputable def oN:Ct ak zJ:=cn (Eb (std 0) aG.pre aG.fn)
theorem Pz:Fn E 158 (Eb (std 0) aG.pre aG.fn) oN:=mk Tryz.func158 rfl (by kernel_rfl) (hlC mJ.ok hlN) (ags (std 0) aG)
def Yd:=fun n b p hb h1 h2=>(Pz.cs (Xi gW gX n b p hb h1 h2)).1
def Ye:=fun n b p hb h1 h2=>(Pz.cs (Xi gW gX n b p hb h1 h2)).2
noncomputable def nP:Ct ak zK:=cn (Ec (std 0))
theorem PD:Fn E 170 (Ec (std 0)) nP:=mk Tryz.func170 rfl (by kernel_rfl) hlN (agt (std 0))
def Yf:=fun a=>(PD.cs (Xa a)).1
def Yg:=fun a=>(PD.cs (Xa a)).2
noncomputable def dx:Ct ak kV:=cn (Ed (std 0))
theorem F8:Fn E 156 (Ed (std 0)) dx:=mk Tryz.func156 rfl (by kernel_rfl) hlN (agu (std 0))
def Bc:=fun a=>(F8.cs (WZ a)).1
def Bd:=fun a=>(F8.cs (WZ a)).2
noncomputable def nM:Ct ak zL:=cn (Ee (std 0) aO.pre aO.fn)
theorem PE:Fn E 192 (Ee (std 0) aO.pre aO.fn) nM:=mk Tryz.func192 rfl (by kernel_rfl) (hlC rU.ok hlN) (agv (std 0) aO)
def Yh:=fun k=>(PE.cs (Xr kZ lg k)).1
def Yi:=fun k=>(PE.cs (Xr kZ lg k)).2
noncomputable def gq:Ct ak rz:=cn (Ef (std 0) nM.pre nM.fn)
theorem J2:Fn E 157 (Ef (std 0) nM.pre nM.fn) gq:=mk Tryz.func157 rfl (by kernel_rfl) (hlC PE.ok hlN) (agw (std 0) nM)
def J3:=fun ops x n h1=>(J2.cs (Xt Yh Yi ops x n h1)).1
def J4:=fun ops x n h1=>(J2.cs (Xt Yh Yi ops x n h1)).2
noncomputable def nO:Ct ak zN:=cn (Eh (std 0) dx.pre dx.fn aO.pre aO.fn gq.pre gq.fn)
theorem PG:Fn E 90 (Eh (std 0) dx.pre dx.fn aO.pre aO.fn gq.pre gq.fn) nO:=mk Tryz.func90 rfl (by kernel_rfl) (hlC F8.ok (hlC rU.ok (hlC J2.ok hlN))) (agx (std 0) dx aO gq)
def Yj:=fun ops i len h0 h1 h3=>(PG.cs (Xu Bc Bd kZ lg J3 J4 ops i len h0 h1 h3)).1
def Yk:=fun ops i len h0 h1 h3=>(PG.cs (Xu Bc Bd kZ lg J3 J4 ops i len h0 h1 h3)).2
noncomputable def nN:Ct ak zO:=cn (Ei (std 0) dx.pre dx.fn gq.pre gq.fn)
theorem PI:Fn E 91 (Ei (std 0) dx.pre dx.fn gq.pre gq.fn) nN:=mk Tryz.func91 rfl (by kernel_rfl) (hlC F8.ok (hlC J2.ok hlN)) (agy (std 0) dx gq)
def Yl:=fun b=>(PI.cs (Xv Bc Bd J3 J4 b)).1
def Ym:=fun b=>(PI.cs (Xv Bc Bd J3 J4 b)).2
noncomputable def aT:Ct ak eU:=cn (Ej (std 0) aO.pre aO.fn nN.pre nN.fn nO.pre nO.fn)
theorem uK:Fn E 30 (Ej (std 0) aO.pre aO.fn nN.pre nN.fn nO.pre nO.fn) aT:=mk Tryz.func30 rfl (by kernel_rfl) (hlC rU.ok (hlC PI.ok (hlC PG.ok hlN))) (agz (std 0) aO nN nO)
def lu:=fun b h2=>(uK.cs (Xw kZ lg Yl Ym Yj Yk b h2)).1
def lC:=fun b h2=>(uK.cs (Xw kZ lg Yl Ym Yj Yk b h2)).2
noncomputable def nS:Ct ak zP:=cn (El (std 0) nP.pre nP.fn dx.pre dx.fn)
theorem PK:Fn E 115 (El (std 0) nP.pre nP.fn dx.pre dx.fn) nS:=mk Tryz.func115 rfl (by kernel_rfl) (hlC PD.ok (hlC F8.ok hlN)) (agA (std 0) nP dx)
def Yn:=fun op a b=>(PK.cs (Xc Bc Bd Yf Yg op a b)).1
def Yo:=fun op a b=>(PK.cs (Xc Bc Bd Yf Yg op a b)).2
end Go.TX.F
namespace Go.TX.F
open Go Go.AE Go.TX Go.TX.Seat Go.Proofs
set_option maxRecDepth 100000
noncomputable def bM:Ct ak iT:=cn (Em (std 0))
theorem Bf:Fn E 113 (Em (std 0)) bM:=mk Tryz.func113 rfl (by kernel_rfl) hlN (agB (std 0))
def uL:=fun b hb=>(Bf.cs (XJ b hb)).1
def uM:=fun b hb=>(Bf.cs (XJ b hb)).2
noncomputable def gu:Ct ak rA:=cn (En (std 0) aO.pre aO.fn)
theorem J5:Fn E 125 (En (std 0) aO.pre aO.fn) gu:=mk Tryz.func125 rfl (by kernel_rfl) (hlC rU.ok hlN) (agC (std 0) aO)
def J6:=fun o al hx hy=>(J5.cs (XM kZ lg o al hx hy)).1
def J7:=fun o al hx hy=>(J5.cs (XM kZ lg o al hx hy)).2
noncomputable def dz:Ct ak kW:=cn (Eo (std 0) aT.pre aT.fn gu.pre gu.fn bM.pre bM.fn)
theorem F9:Fn E 54 (Eo (std 0) aT.pre aT.fn gu.pre gu.fn bM.pre bM.fn) dz:=mk Tryz.func54 rfl (by kernel_rfl) (hlC uK.ok (hlC J5.ok (hlC Bf.ok hlN))) (agD (std 0) aT gu bM)
def Bg:=fun b hb=>(F9.cs (XW lu lC J6 J7 uL uM b hb)).1
def Bh:=fun b hb=>(F9.cs (XW lu lC J6 J7 uL uM b hb)).2
noncomputable def gy:Ct ak rC:=cn (Ep (std 0))
theorem PL:Fn E 114 (Ep (std 0)) gy:=mk Tryz.func114 rfl (by kernel_rfl) hlN (agE (std 0))
def J8:=fun ops k=>(PL.cs (ahV ops k)).1
noncomputable def nQ:Ct ak zQ:=cn (Er (std 0))
theorem PN:Fn E 171 (Er (std 0)) nQ:=mk Tryz.func171 rfl (by kernel_rfl) hlN (agF (std 0))
def Yp:=fun b k=>(PN.cs (XK b k)).1
def Yq:=fun b k=>(PN.cs (XK b k)).2
noncomputable def nU:Ct ak zR:=cn (Es (std 0) nQ.pre nQ.fn gy.pre gy.fn)
theorem PO:Fn E 116 (Es (std 0) nQ.pre nQ.fn gy.pre gy.fn) nU:=mk Tryz.func116 rfl (by kernel_rfl) (hlC PN.ok (hlC PL.ok hlN)) (agG (std 0) nQ gy)
def Yr:=fun b=>(PO.cs (XL Yp Yq J8 b)).1
def Yt:=fun b=>(PO.cs (XL Yp Yq J8 b)).2
noncomputable def nY:Ct ak zS:=cn (Ey (std 0) aT.pre aT.fn nS.pre nS.fn nU.pre nU.fn gy.pre gy.fn bM.pre bM.fn)
theorem PS:Fn E 42 (Ey (std 0) aT.pre aT.fn nS.pre nS.fn nU.pre nU.fn gy.pre gy.fn bM.pre bM.fn) nY:=mk Tryz.func42 rfl (by kernel_rfl) (hlC uK.ok (hlC PK.ok (hlC PO.ok (hlC PL.ok (hlC Bf.ok hlN))))) (agH (std 0) aT nS nU gy bM)
def Yu:=fun b hb=>(PS.cs (XP lu lC Yn Yo Yr Yt J8 uL uM b hb)).1
def Yv:=fun b hb=>(PS.cs (XP lu lC Yn Yo Yr Yt J8 uL uM b hb)).2
noncomputable def nW:Ct ak zT:=cn (Ez (std 0))
theorem Yw:Fn E 118 (Ez (std 0)) nW:=mk Tryz.func118 rfl (by kernel_rfl) hlN (agI (std 0))
def Yx:=fun ops k h0 h1 h2=>(Yw.cs (ahW ops k h0 h1 h2)).1
noncomputable def gB:Ct ak rD:=cn (EA (std 0) gu.pre gu.fn)
theorem J9:Fn E 119 (EA (std 0) gu.pre gu.fn) gB:=mk Tryz.func119 rfl (by kernel_rfl) (hlC J5.ok hlN) (agJ (std 0) gu)
def Ka:=fun b kp ok hk=>(J9.cs (XR J6 J7 b kp ok hk)).1
def Kc:=fun b kp ok hk=>(J9.cs (XR J6 J7 b kp ok hk)).2
noncomputable def og:Ct ak zU:=cn (EB (std 0) aT.pre aT.fn gB.pre gB.fn nW.pre nW.fn)
theorem PU:Fn E 45 (EB (std 0) aT.pre aT.fn gB.pre gB.fn nW.pre nW.fn) og:=mk Tryz.func45 rfl (by kernel_rfl) (hlC uK.ok (hlC J9.ok (hlC Yw.ok hlN))) (agK (std 0) aT gB nW)
def Yy:=fun b hb=>(PU.cs (XV lu lC Ka Kc Yx b hb)).1
def Yz:=fun b hb=>(PU.cs (XV lu lC Ka Kc Yx b hb)).2
noncomputable def nX:Ct ak zV:=cn (EC (std 0) aT.pre aT.fn aO.pre aO.fn)
theorem PW:Fn E 50 (EC (std 0) aT.pre aT.fn aO.pre aO.fn) nX:=mk Tryz.func50 rfl (by kernel_rfl) (hlC uK.ok (hlC rU.ok hlN)) (agL (std 0) aT aO)
def YA:=fun b hb=>(PW.cs (XQ lu lC kZ lg b hb)).1
def YB:=fun b hb=>(PW.cs (XQ lu lC kZ lg b hb)).2
noncomputable def nZ:Ct ak zW:=cn (ED (std 0) aT.pre aT.fn nX.pre nX.fn gB.pre gB.fn)
theorem PX:Fn E 49 (ED (std 0) aT.pre aT.fn nX.pre nX.fn gB.pre gB.fn) nZ:=mk Tryz.func49 rfl (by kernel_rfl) (hlC uK.ok (hlC PW.ok (hlC J9.ok hlN))) (agM (std 0) aT nX gB)
def YC:=fun b hb=>(PX.cs (XU lu lC YA YB Ka Kc b hb)).1
def YD:=fun b hb=>(PX.cs (XU lu lC YA YB Ka Kc b hb)).2
noncomputable def gK:Ct ak rE:=cn (JF (std 0) nY.pre nY.fn dz.pre dz.fn nZ.pre nZ.fn og.pre og.fn)
theorem Ke:Fn E 57 (JF (std 0) nY.pre nY.fn dz.pre dz.fn nZ.pre nZ.fn og.pre og.fn) gK:=mk Tryz.func57 rfl (by kernel_rfl) (hlC PS.ok (hlC F9.ok (hlC PX.ok (hlC PU.ok hlN)))) (agN (std 0) nY dz nZ og)
def Kg:=fun b hb=>(Ke.cs (XO Yu Yv Bg Bh YC YD Yy Yz b hb)).1
def Kh:=fun b hb=>(Ke.cs (XO Yu Yv Bg Bh YC YD Yy Yz b hb)).2
noncomputable def om:Ct ak zY:=cn (EH (std 0) aG.pre aG.fn)
theorem PY:Fn E 204 (EH (std 0) aG.pre aG.fn) om:=mk Tryz.func204 rfl (by kernel_rfl) (hlC mJ.ok hlN) (agO (std 0) aG)
def YE:=fun b p hb h1 h2=>(PY.cs (XG gW gX b p hb h1 h2)).1
def YF:=fun b p hb h1 h2=>(PY.cs (XG gW gX b p hb h1 h2)).2
noncomputable def oh:Ct ak zZ:=cn (EI (std 0))
theorem YG:Fn E 222 (EI (std 0)) oh:=mk Tryz.func222 rfl (by kernel_rfl) hlN (agP (std 0))
def ahY:=fun i=>(YG.cs (ahO i)).1
noncomputable def gG:Ct ak rF:=cn (EJ (std 0) aO.pre aO.fn oh.pre oh.fn)
theorem PZ:Fn E 206 (EJ (std 0) aO.pre aO.fn oh.pre oh.fn) gG:=mk Tryz.func206 rfl (by kernel_rfl) (hlC rU.ok (hlC YG.ok hlN)) (agQ (std 0) aO oh)
def YH:=fun i=>(PZ.cs (ahP kZ lg ahY i)).1
noncomputable def gF:Ct ak rG:=cn (EK (std 0))
theorem P5:Fn E 207 (EK (std 0)) gF:=mk Tryz.func207 rfl (by kernel_rfl) hlN (agR (std 0))
def YI:=fun i=>(P5.cs (ahQ i)).1
noncomputable def gH:Ct ak rH:=cn (EL (std 0) gF.pre gF.fn gG.pre gG.fn)
theorem P6:Fn E 205 (EL (std 0) gF.pre gF.fn gG.pre gG.fn) gH:=mk Tryz.func205 rfl (by kernel_rfl) (hlC P5.ok (hlC PZ.ok hlN)) (agS (std 0) gF gG)
def P7:=fun i=>(P6.cs (ahR YI YH i)).1
noncomputable def oq:Ct ak z8:=cn (EM (std 0) om.pre om.fn aG.pre aG.fn gH.pre gH.fn)
theorem P8:Fn E 182 (EM (std 0) om.pre om.fn aG.pre aG.fn gH.pre gH.fn) oq:=mk Tryz.func182 rfl (by kernel_rfl) (hlC PY.ok (hlC mJ.ok (hlC P6.ok hlN))) (agT (std 0) om aG gH)
def YJ:=fun b p hb h1 h2=>(P8.cs (XH YE YF gW gX P7 b p hb h1 h2)).1
def YK:=fun b p hb h1 h2=>(P8.cs (XH YE YF gW gX P7 b p hb h1 h2)).2
noncomputable def oH:Ct ak Aa:=cn (EN (std 0) oq.pre oq.fn aG.pre aG.fn)
theorem P9:Fn E 139 (EN (std 0) oq.pre oq.fn aG.pre aG.fn) oH:=mk Tryz.func139 rfl (by kernel_rfl) (hlC P8.ok (hlC mJ.ok hlN)) (agU (std 0) oq aG)
def YL:=fun b p hb h1 h2=>(P9.cs (XI YJ YK gW gX b p hb h1 h2)).1
def YM:=fun b p hb h1 h2=>(P9.cs (XI YJ YK gW gX b p hb h1 h2)).2
noncomputable def oD:Ct ak Ab:=cn (EO (std 0) gF.pre gF.fn gG.pre gG.fn aO.pre aO.fn gH.pre gH.fn)
theorem YN:Fn E 183 (EO (std 0) gF.pre gF.fn gG.pre gG.fn aO.pre aO.fn gH.pre gH.fn) oD:=mk Tryz.func183 rfl (by kernel_rfl) (hlC P5.ok (hlC PZ.ok (hlC rU.ok (hlC P6.ok hlN)))) (agV (std 0) gF gG aO gH)
def YO:=fun pc l hl=>(YN.cs (ahS YI YH kZ lg P7 pc l hl)).1
noncomputable def bA:Ct ak gV:=cn (EP (std 0))
theorem xE:Fn E 208 (EP (std 0)) bA:=mk Tryz.func208 rfl (by kernel_rfl) hlN (agW (std 0))
def qb:=fun a1 a2 a3 a4 a5 a6 o ops hl=>(xE.cs (Xy a1 a2 a3 a4 a5 a6 o ops hl)).1
def qc:=fun a1 a2 a3 a4 a5 a6 o ops hl=>(xE.cs (Xy a1 a2 a3 a4 a5 a6 o ops hl)).2
noncomputable def gJ:Ct ak rJ:=cn (ER (std 0) bA.pre bA.fn)
theorem Ki:Fn E 209 (ER (std 0) bA.pre bA.fn) gJ:=mk Tryz.func209 rfl (by kernel_rfl) (hlC xE.ok hlN) (agX (std 0) bA)
def Kj:=fun a1 a2 a3 a4 a5 a6 k x ops hl=>(Ki.cs (XA qb qc a1 a2 a3 a4 a5 a6 k x ops hl)).1
def Kk:=fun a1 a2 a3 a4 a5 a6 k x ops hl=>(Ki.cs (XA qb qc a1 a2 a3 a4 a5 a6 k x ops hl)).2
noncomputable def bN:Ct ak iU:=cn (ET (std 0) bA.pre bA.fn)
theorem Bj:Fn E 210 (ET (std 0) bA.pre bA.fn) bN:=mk Tryz.func210 rfl (by kernel_rfl) (hlC xE.ok hlN) (agY (std 0) bA)
def uN:=fun a1 a2 a3 a4 a5 a6 k ops hl=>(Bj.cs (Xz qb qc a1 a2 a3 a4 a5 a6 k ops hl)).1
def uO:=fun a1 a2 a3 a4 a5 a6 k ops hl=>(Bj.cs (Xz qb qc a1 a2 a3 a4 a5 a6 k ops hl)).2
noncomputable def gI:Ct ak rM:=cn (EU (std 0) bN.pre bN.fn bA.pre bA.fn)
theorem Kl:Fn E 211 (EU (std 0) bN.pre bN.fn bA.pre bA.fn) gI:=mk Tryz.func211 rfl (by kernel_rfl) (hlC Bj.ok (hlC xE.ok hlN)) (agZ (std 0) bN bA)
def Km:=fun a1 a2 a3 a4 a5 a6 k a o ops hl=>(Kl.cs (XB uN uO qb qc a1 a2 a3 a4 a5 a6 k a o ops hl)).1
def Kn:=fun a1 a2 a3 a4 a5 a6 k a o ops hl=>(Kl.cs (XB uN uO qb qc a1 a2 a3 a4 a5 a6 k a o ops hl)).2
noncomputable def oC:Ct ak Ac:=cn (EW (std 0))
theorem YP:Fn E 212 (EW (std 0)) oC:=mk Tryz.func212 rfl (by kernel_rfl) hlN (ag0 (std 0))
def YQ:=fun k hk=>(YP.cs (ahT k hk)).1
noncomputable def ow:Ct ak Ad:=cn (EX (std 0) bN.pre bN.fn bA.pre bA.fn gI.pre gI.fn gJ.pre gJ.fn)
theorem Qa:Fn E 213 (EX (std 0) bN.pre bN.fn bA.pre bA.fn gI.pre gI.fn gJ.pre gJ.fn) ow:=mk Tryz.func213 rfl (by kernel_rfl) (hlC Bj.ok (hlC xE.ok (hlC Kl.ok (hlC Ki.ok hlN)))) (ag1 (std 0) bN bA gI gJ)
def YR:=fun a1 a2 a3 a4 a5 a6 i k ops hl=>(Qa.cs (XC uN uO qb qc Km Kn Kj Kk a1 a2 a3 a4 a5 a6 i k ops hl)).1
def YS:=fun a1 a2 a3 a4 a5 a6 i k ops hl=>(Qa.cs (XC uN uO qb qc Km Kn Kj Kk a1 a2 a3 a4 a5 a6 i k ops hl)).2
noncomputable def ou:Ct ak Ae:=cn (EY (std 0) bN.pre bN.fn)
theorem Qb:Fn E 214 (EY (std 0) bN.pre bN.fn) ou:=mk Tryz.func214 rfl (by kernel_rfl) (hlC Bj.ok hlN) (ag2 (std 0) bN)
def YT:=fun a1 a2 a3 a4 a5 a6 i ops hl=>(Qb.cs (XD uN uO a1 a2 a3 a4 a5 a6 i ops hl)).1
def YU:=fun a1 a2 a3 a4 a5 a6 i ops hl=>(Qb.cs (XD uN uO a1 a2 a3 a4 a5 a6 i ops hl)).2
noncomputable def oF:Ct ak Af:=cn (EZ (std 0) bN.pre bN.fn ou.pre ou.fn bA.pre bA.fn ow.pre ow.fn gI.pre gI.fn gJ.pre gJ.fn oC.pre oC.fn)
theorem Qc:Fn E 184 (EZ (std 0) bN.pre bN.fn ou.pre ou.fn bA.pre bA.fn ow.pre ow.fn gI.pre gI.fn gJ.pre gJ.fn oC.pre oC.fn) oF:=mk Tryz.func184 rfl (by kernel_rfl) (hlC Bj.ok (hlC Qb.ok (hlC xE.ok (hlC Qa.ok (hlC Kl.ok (hlC Ki.ok (hlC YP.ok hlN))))))) (ag3 (std 0) bN ou bA ow gI gJ oC)
def YV:=fun a1 a2 a3 a4 a5 a6 i k ops hk hl=>(Qc.cs (XE uN uO YT YU qb qc YR YS Km Kn Kj Kk YQ a1 a2 a3 a4 a5 a6 i k ops hk hl)).1
def YW:=fun a1 a2 a3 a4 a5 a6 i k ops hk hl=>(Qc.cs (XE uN uO YT YU qb qc YR YS Km Kn Kj Kk YQ a1 a2 a3 a4 a5 a6 i k ops hk hl)).2
noncomputable def oG:Ct ak Ag:=cn (E5 (std 0) oD.pre oD.fn oF.pre oF.fn)
theorem Qd:Fn E 140 (E5 (std 0) oD.pre oD.fn oF.pre oF.fn) oG:=mk Tryz.func140 rfl (by kernel_rfl) (hlC YN.ok (hlC Qc.ok hlN)) (ag4 (std 0) oD oF)
def YX:=fun pc l hl hk=>(Qd.cs (XF YO YV YW pc l hl hk)).1
def YZ:=fun pc l hl hk=>(Qd.cs (XF YO YV YW pc l hl hk)).2
noncomputable def oO:Ct ak Ah:=cn (E8 (std 0) oG.pre oG.fn gK.pre gK.fn dz.pre dz.fn aG.pre aG.fn oH.pre oH.fn)
theorem Qe:Fn E 66 (E8 (std 0) oG.pre oG.fn gK.pre gK.fn dz.pre dz.fn aG.pre aG.fn oH.pre oH.fn) oO:=mk Tryz.func66 rfl (by kernel_rfl) (hlC Qd.ok (hlC Ke.ok (hlC F9.ok (hlC mJ.ok (hlC P9.ok hlN))))) (ag5 (std 0) oG gK dz aG oH)
def Y0:=fun b p hb h1 h2=>(Qe.cs (XY YX YZ Kg Kh Bg Bh gW gX YL YM b p hb h1 h2)).1
def Y1:=fun b p hb h1 h2=>(Qe.cs (XY YX YZ Kg Kh Bg Bh gW gX YL YM b p hb h1 h2)).2
end Go.TX.F
namespace Go.TX.F
open Go Go.AE Go.TX Go.TX.Seat Go.Proofs
set_option maxRecDepth 100000
noncomputable def rP:Ct ak JD:=cn (VB (std 0))
theorem abn:Fn E 148 (VB (std 0)) rP:=mk Tryz.func148 rfl (by kernel_rfl) hlN (amQ (std 0))
def abo:=fun a=>(abn.cs (alk a)).1
def abp:=fun a=>(abn.cs (alk a)).2
noncomputable def jS:Ct ak BS:=cn (VD (std 0) rP.pre rP.fn)
theorem Y2:Fn E 80 (VD (std 0) rP.pre rP.fn) jS:=mk Tryz.func80 rfl (by kernel_rfl) (hlC abn.ok hlN) (amR (std 0) rP)
def Ur:=fun a b=>(Y2.cs (alm abo abp a b)).1
def Us:=fun a b=>(Y2.cs (alm abo abp a b)).2
noncomputable def rQ:Ct ak JE:=cn (VG (std 0))
theorem abq:Fn E 81 (VG (std 0)) rQ:=mk Tryz.func81 rfl (by kernel_rfl) hlN (amS (std 0))
def abr:=fun a b=>(abq.cs (alo a b)).1
def abt:=fun a b=>(abq.cs (alo a b)).2
noncomputable def vM:Ct ak GX:=cn (LG (std 0) jS.pre jS.fn)
theorem Y3:Fn E 149 (LG (std 0) jS.pre jS.fn) vM:=mk Tryz.func149 rfl (by kernel_rfl) (hlC Y2.ok hlN) (akj (std 0) jS)
def ac6:=fun a b ha=>(Y3.cs (ab1 Ur Us a b ha)).1
def ac7:=fun a b ha=>(Y3.cs (ab1 Ur Us a b ha)).2
noncomputable def dG:Ct ak mh:=cn (LH (std 0) rQ.pre rQ.fn jS.pre jS.fn vM.pre vM.fn)
theorem II:Fn E 82 (LH (std 0) rQ.pre rQ.fn jS.pre jS.fn vM.pre vM.fn) dG:=mk Tryz.func82 rfl (by kernel_rfl) (hlC abq.ok (hlC Y2.ok (hlC Y3.ok hlN))) (akk (std 0) rQ jS vM)
def BI:=fun a b ha=>(II.cs (ab2 Ur Us ac6 ac7 abr abt a b ha)).1
def BJ:=fun a b ha=>(II.cs (ab2 Ur Us ac6 ac7 abr abt a b ha)).2
noncomputable def aC:Ct ak bW:=cn (LJ (std 0))
theorem lI:Fn E 121 (LJ (std 0)) aC:=mk Tryz.func121 rfl (by kernel_rfl) hlN (akl (std 0))
def fG:=fun a b c=>(lI.cs (abX a b c)).1
def fH:=fun a b c=>(lI.cs (abX a b c)).2
noncomputable def jT:Ct ak BU:=cn (VH (std 0) rP.pre rP.fn)
theorem Y4:Fn E 185 (VH (std 0) rP.pre rP.fn) jT:=mk Tryz.func185 rfl (by kernel_rfl) (hlC abn.ok hlN) (amT (std 0) rP)
def abu:=fun a b=>(Y4.cs (aln abo abp a b)).1
def abv:=fun a b=>(Y4.cs (aln abo abp a b)).2
noncomputable def oL:Ct ak Ai:=cn (E9 (std 0) jT.pre jT.fn)
theorem Qf:Fn E 141 (E9 (std 0) jT.pre jT.fn) oL:=mk Tryz.func141 rfl (by kernel_rfl) (hlC Y4.ok hlN) (ag6 (std 0) jT)
def Y5:=fun a ha=>(Qf.cs (WB abu abv a ha)).1
def Y6:=fun a ha=>(Qf.cs (WB abu abv a ha)).2
noncomputable def vN:Ct ak GY:=cn (LK (std 0))
theorem Y7:Fn E 187 (LK (std 0)) vN:=mk Tryz.func187 rfl (by kernel_rfl) hlN (akm (std 0))
def ac8:=fun a n=>(Y7.cs (ab3 a n)).1
def ac9:=fun a n=>(Y7.cs (ab3 a n)).2
noncomputable def oI:Ct ak Aj:=cn (Fa (std 0) vN.pre vN.fn)
theorem Qg:Fn E 215 (Fa (std 0) vN.pre vN.fn) oI:=mk Tryz.func215 rfl (by kernel_rfl) (hlC Y7.ok hlN) (ag7 (std 0) vN)
def Y8:=fun a n ha=>(Qg.cs (WE ac8 ac9 a n ha)).1
def Y9:=fun a n ha=>(Qg.cs (WE ac8 ac9 a n ha)).2
noncomputable def oJ:Ct ak Ak:=cn (Fb (std 0) oI.pre oI.fn)
theorem Qh:Fn E 186 (Fb (std 0) oI.pre oI.fn) oJ:=mk Tryz.func186 rfl (by kernel_rfl) (hlC Qg.ok hlN) (ag8 (std 0) oI)
def Za:=fun a n ha=>(Qh.cs (WG Y8 Y9 a n ha)).1
def Zb:=fun a n ha=>(Qh.cs (WG Y8 Y9 a n ha)).2
noncomputable def jq:Ct ak yA:=cn (LM (std 0) oJ.pre oJ.fn)
theorem RO:Fn E 142 (LM (std 0) oJ.pre oJ.fn) jq:=mk Tryz.func142 rfl (by kernel_rfl) (hlC Qh.ok hlN) (akn (std 0) oJ)
def RP:=fun a n ha=>(RO.cs (ab4 Za Zb a n ha)).1
def RQ:=fun a n ha=>(RO.cs (ab4 Za Zb a n ha)).2
noncomputable def vO:Ct ak GZ:=cn (LP (std 0))
theorem Zc:Fn E 144 (LP (std 0)) vO:=mk Tryz.func144 rfl (by kernel_rfl) hlN (ako (std 0))
def ada:=fun m=>(Zc.cs (ab5 m)).1
def adb:=fun m=>(Zc.cs (ab5 m)).2
noncomputable def oK:Ct ak Al:=cn (Fe (std 0) vO.pre vO.fn)
theorem Qi:Fn E 188 (Fe (std 0) vO.pre vO.fn) oK:=mk Tryz.func188 rfl (by kernel_rfl) (hlC Zc.ok hlN) (ag9 (std 0) vO)
def Zd:=fun a ha=>(Qi.cs (WH (G:=(fun m:aj=>0<m.atoms.length∧m.atoms.getD 0 default<0)) ada adb a ha)).1
def Ze:=fun a ha=>(Qi.cs (WH (G:=(fun m:aj=>0<m.atoms.length∧m.atoms.getD 0 default<0)) ada adb a ha)).2
noncomputable def oM:Ct ak Am:=cn (Fg (std 0) oK.pre oK.fn)
theorem Qj:Fn E 143 (Fg (std 0) oK.pre oK.fn) oM:=mk Tryz.func143 rfl (by kernel_rfl) (hlC Qi.ok hlN) (aha (std 0) oK)
def Zf:=fun a ha=>(Qj.cs (WI (G:=(fun m:aj=>0<m.atoms.length∧m.atoms.getD 0 default<0)) Zd Ze a ha)).1
def Zg:=fun a ha=>(Qj.cs (WI (G:=(fun m:aj=>0<m.atoms.length∧m.atoms.getD 0 default<0)) Zd Ze a ha)).2
noncomputable def bq:Ct ak ig:=cn (LQ (std 0) aC.pre aC.fn jq.pre jq.fn oL.pre oL.fn dG.pre dG.fn oM.pre oM.fn)
theorem y8:Fn E 67 (LQ (std 0) aC.pre aC.fn jq.pre jq.fn oL.pre oL.fn dG.pre dG.fn oM.pre oM.fn) bq:=mk Tryz.func67 rfl (by kernel_rfl) (hlC lI.ok (hlC RO.ok (hlC Qf.ok (hlC II.ok (hlC Qj.ok hlN))))) (akp (std 0) aC jq oL dG oM)
def mY:=fun a ha=>(y8.cs (ab6 fG fH RP RQ Y5 Y6 BI BJ Zf Zg a ha)).1
def mZ:=fun a ha=>(y8.cs (ab6 fG fH RP RQ Y5 Y6 BI BJ Zf Zg a ha)).2
noncomputable def jv:Ct ak yB:=cn (LU (std 0) bq.pre bq.fn)
theorem RS:Fn E 22 (LU (std 0) bq.pre bq.fn) jv:=mk Tryz.func22 rfl (by kernel_rfl) (hlC y8.ok hlN) (akq (std 0) bq)
def RU:=fun a ha=>(RS.cs (acg mY mZ a ha)).1
def RV:=fun a ha=>(RS.cs (acg mY mZ a ha)).2
noncomputable def fD:Ct ak sD:=cn (LW (std 0) rQ.pre rQ.fn jS.pre jS.fn dG.pre dG.fn)
theorem NC:Fn E 24 (LW (std 0) rQ.pre rQ.fn jS.pre jS.fn dG.pre dG.fn) fD:=mk Tryz.func24 rfl (by kernel_rfl) (hlC abq.ok (hlC Y2.ok (hlC II.ok hlN))) (akr (std 0) rQ jS dG)
def IJ:=fun a b ha=>(NC.cs (ab7 abr abt Ur Us BI BJ a b ha)).1
def IK:=fun a b ha=>(NC.cs (ab7 abr abt Ur Us BI BJ a b ha)).2
noncomputable def jr:Ct ak yC:=cn (LY (std 0))
theorem RX:Fn E 189 (LY (std 0)) jr:=mk Tryz.func189 rfl (by kernel_rfl) hlN (aks (std 0))
def RY:=fun a ha=>(RX.cs (ach a ha)).1
def RZ:=fun a ha=>(RX.cs (ach a ha)).2
noncomputable def fC:Ct ak sF:=cn (LZ (std 0) jr.pre jr.fn)
theorem ND:Fn E 146 (LZ (std 0) jr.pre jr.fn) fC:=mk Tryz.func146 rfl (by kernel_rfl) (hlC RX.ok hlN) (akt (std 0) jr)
def IL:=fun a ha=>(ND.cs (aci RY RZ a ha)).1
def IQ:=fun a ha=>(ND.cs (aci RY RZ a ha)).2
noncomputable def vP:Ct ak G5:=cn (L6 (std 0) fC.pre fC.fn)
theorem Zh:Fn E 145 (L6 (std 0) fC.pre fC.fn) vP:=mk Tryz.func145 rfl (by kernel_rfl) (hlC ND.ok hlN) (aku (std 0) fC)
def ade:=fun a ha=>(Zh.cs (acR IL IQ a ha)).1
def adf:=fun a ha=>(Zh.cs (acR IL IQ a ha)).2
noncomputable def vQ:Ct ak G6:=cn (L8 (std 0) fC.pre fC.fn vP.pre vP.fn)
theorem Zi:Fn E 68 (L8 (std 0) fC.pre fC.fn vP.pre vP.fn) vQ:=mk Tryz.func68 rfl (by kernel_rfl) (hlC ND.ok (hlC Zh.ok hlN)) (akv (std 0) fC vP)
def adg:=fun s hs=>(Zi.cs (acS IL IQ ade adf s hs)).1
def adh:=fun s hs=>(Zi.cs (acS IL IQ ade adf s hs)).2
noncomputable def bJ:Ct ak iJ:=cn (L9 (std 0) fD.pre fD.fn)
theorem BK:Fn E 69 (L9 (std 0) fD.pre fD.fn) bJ:=mk Tryz.func69 rfl (by kernel_rfl) (hlC NC.ok hlN) (akw (std 0) fD)
def sI:=fun a b ha=>(BK.cs (ab8 IJ IK a b ha)).1
def sJ:=fun a b ha=>(BK.cs (ab8 IJ IK a b ha)).2
noncomputable def bI:Ct ak iK:=cn (Md (std 0) aC.pre aC.fn)
theorem BL:Fn E 78 (Md (std 0) aC.pre aC.fn) bI:=mk Tryz.func78 rfl (by kernel_rfl) (hlC lI.ok hlN) (akx (std 0) aC)
def sK:=fun a=>(BL.cs (abY fG fH a)).1
def sM:=fun a=>(BL.cs (abY fG fH a)).2
noncomputable def vR:Ct ak G7:=cn (Me (std 0) bI.pre bI.fn)
theorem Zj:Fn E 70 (Me (std 0) bI.pre bI.fn) vR:=mk Tryz.func70 rfl (by kernel_rfl) (hlC BL.ok hlN) (aky (std 0) bI)
def adi:=fun r a b=>(Zj.cs (acQ sK sM r a b)).1
def adk:=fun r a b=>(Zj.cs (acQ sK sM r a b)).2
noncomputable def wB:Ct ak G8:=cn (Mf (std 0) jv.pre jv.fn bq.pre bq.fn fD.pre fD.fn vQ.pre vQ.fn bJ.pre bJ.fn vR.pre vR.fn)
theorem Zk:Fn E 16 (Mf (std 0) jv.pre jv.fn bq.pre bq.fn fD.pre fD.fn vQ.pre vQ.fn bJ.pre bJ.fn vR.pre vR.fn) wB:=mk Tryz.func16 rfl (by kernel_rfl) (hlC RS.ok (hlC y8.ok (hlC NC.ok (hlC Zi.ok (hlC BK.ok (hlC Zj.ok hlN)))))) (akz (std 0) jv bq fD vQ bJ vR)
def adl:=fun s n hs h0 h1=>(Zk.cs (acX RU RV mY mZ IJ IK adg adh sI sJ adi adk s n hs h0 h1)).1
def adn:=fun s n hs h0 h1=>(Zk.cs (acX RU RV mY mZ IJ IK adg adh sI sJ adi adk s n hs h0 h1)).2
noncomputable def wM:Ct ak G9:=cn (Mi (std 0) bI.pre bI.fn)
theorem Zl:Fn E 20 (Mi (std 0) bI.pre bI.fn) wM:=mk Tryz.func20 rfl (by kernel_rfl) (hlC BL.ok hlN) (akA (std 0) bI)
def ado:=(Zl.cs (acG sK sM)).1
def adp:=(Zl.cs (acG sK sM)).2
noncomputable def gL:Ct ak rO:=cn (AY (std 0) aG.pre aG.fn bM.pre bM.fn)
theorem Ko:Fn E 151 (AY (std 0) aG.pre aG.fn bM.pre bM.fn) gL:=mk Tryz.func151 rfl (by kernel_rfl) (hlC mJ.ok (hlC Bf.ok hlN)) (ahb (std 0) aG bM)
def Kq:=fun c b p hc hb h1 h2=>(Ko.cs (X0 gW gX uL uM c b p hc hb h1 h2)).1
def Kr:=fun c b p hc hb h1 h2=>(Ko.cs (X0 gW gX uL uM c b p hc hb h1 h2)).2
noncomputable def oP:Ct ak Ao:=cn (Fp (std 0) oN.pre oN.fn aG.pre aG.fn gL.pre gL.fn oO.pre oO.fn)
theorem Qk:Fn E 98 (Fp (std 0) oN.pre oN.fn aG.pre aG.fn gL.pre gL.fn oO.pre oO.fn) oP:=mk Tryz.func98 rfl (by kernel_rfl) (hlC Pz.ok (hlC mJ.ok (hlC Ko.ok (hlC Qe.ok hlN)))) (ahc (std 0) oN aG gL oO)
def Zm:=fun n b p hb h1 h2=>(Qk.cs (X3 Yd Ye gW gX Kq Kr Y0 Y1 n b p hb h1 h2)).1
def Zn:=fun n b p hb h1 h2=>(Qk.cs (X3 Yd Ye gW gX Kq Kr Y0 Y1 n b p hb h1 h2)).2
noncomputable def oQ:Ct ak Ap:=cn (Fq (std 0) aG.pre aG.fn bM.pre bM.fn)
theorem Ql:Fn E 150 (Fq (std 0) aG.pre aG.fn bM.pre bM.fn) oQ:=mk Tryz.func150 rfl (by kernel_rfl) (hlC mJ.ok (hlC Bf.ok hlN)) (ahd (std 0) aG bM)
def Zo:=fun c b p ok hc hb h1 h2=>(Ql.cs (XZ gW gX uL uM c b p ok hc hb h1 h2)).1
def Zp:=fun c b p ok hc hb h1 h2=>(Ql.cs (XZ gW gX uL uM c b p ok hc hb h1 h2)).2
end Go.TX.F
namespace Go.TX.F
open Go Go.AE Go.TX Go.TX.Seat Go.Proofs
set_option maxRecDepth 100000
noncomputable def oV:Ct ak Aq:=cn (Fu (std 0) aT.pre aT.fn gK.pre gK.fn dz.pre dz.fn aG.pre aG.fn gL.pre gL.fn oP.pre oP.fn oQ.pre oQ.fn)
theorem Qm:Fn E 83 (Fu (std 0) aT.pre aT.fn gK.pre gK.fn dz.pre dz.fn aG.pre aG.fn gL.pre gL.fn oP.pre oP.fn oQ.pre oQ.fn) oV:=mk Tryz.func83 rfl (by kernel_rfl) (hlC uK.ok (hlC Ke.ok (hlC F9.ok (hlC mJ.ok (hlC Ko.ok (hlC Qk.ok (hlC Ql.ok hlN))))))) (ahe (std 0) aT gK dz aG gL oP oQ)
def Zq:=fun n b p hb h1 h2=>(Qm.cs (X4 lu lC Kg Kh Bg Bh gW gX Kq Kr Zm Zn Zo Zp n b p hb h1 h2)).1
def Zr:=fun n b p hb h1 h2=>(Qm.cs (X4 lu lC Kg Kh Bg Bh gW gX Kq Kr Zm Zn Zo Zp n b p hb h1 h2)).2
noncomputable def pY:Ct ak Ar:=cn (Fv (std 0) oU.pre oU.fn oV.pre oV.fn)
theorem Qn:Fn E 25 (Fv (std 0) oU.pre oU.fn oV.pre oV.fn) pY:=mk Tryz.func25 rfl (by kernel_rfl) (hlC Py.ok (hlC Qm.ok hlN)) (ahf (std 0) oU oV)
def Zt:=fun c hc hl=>(Qn.cs (X5 Yb Yc Zq Zr c hc hl)).1
def Zu:=fun c hc hl=>(Qn.cs (X5 Yb Yc Zq Zr c hc hl)).2
noncomputable def jw:Ct ak yD:=cn (Mj (std 0) aC.pre aC.fn)
theorem R3:Fn E 164 (Mj (std 0) aC.pre aC.fn) jw:=mk Tryz.func164 rfl (by kernel_rfl) (hlC lI.ok hlN) (akB (std 0) aC)
def R4:=fun a=>(R3.cs (abZ fG fH a)).1
def R5:=fun a=>(R3.cs (abZ fG fH a)).2
noncomputable def jy:Ct ak yE:=cn (Mk (std 0) aC.pre aC.fn)
theorem R6:Fn E 165 (Mk (std 0) aC.pre aC.fn) jy:=mk Tryz.func165 rfl (by kernel_rfl) (hlC lI.ok hlN) (akC (std 0) aC)
def R7:=fun a=>(R6.cs (ab0 fG fH a)).1
def R8:=fun a=>(R6.cs (ab0 fG fH a)).2
noncomputable def jA:Ct ak yF:=cn (Ml (std 0) aC.pre aC.fn jw.pre jw.fn jq.pre jq.fn bq.pre bq.fn jy.pre jy.fn)
theorem R9:Fn E 108 (Ml (std 0) aC.pre aC.fn jw.pre jw.fn jq.pre jq.fn bq.pre bq.fn jy.pre jy.fn) jA:=mk Tryz.func108 rfl (by kernel_rfl) (hlC lI.ok (hlC R3.ok (hlC RO.ok (hlC y8.ok (hlC R6.ok hlN))))) (akD (std 0) aC jw jq bq jy)
def Sb:=fun a n ha=>(R9.cs (acu fG fH R4 R5 RP RQ mY mZ R7 R8 a n ha)).1
def Sc:=fun a n ha=>(R9.cs (acu fG fH R4 R5 RP RQ mY mZ R7 R8 a n ha)).2
noncomputable def vS:Ct ak Hg:=cn (Mq (std 0) bJ.pre bJ.fn)
theorem Zv:Fn E 168 (Mq (std 0) bJ.pre bJ.fn) vS:=mk Tryz.func168 rfl (by kernel_rfl) (hlC BK.ok hlN) (akE (std 0) bJ)
def adq:=fun a b ha=>(Zv.cs (acp sI sJ a b ha)).1
def adr:=fun a b ha=>(Zv.cs (acp sI sJ a b ha)).2
noncomputable def vT:Ct ak Hl:=cn (Mr (std 0) vS.pre vS.fn)
theorem Zw:Fn E 167 (Mr (std 0) vS.pre vS.fn) vT:=mk Tryz.func167 rfl (by kernel_rfl) (hlC Zv.ok hlN) (akF (std 0) vS)
def ads:=fun a b hb=>(Zw.cs (acr adq adr a b hb)).1
def adt:=fun a b hb=>(Zw.cs (acr adq adr a b hb)).2
noncomputable def oW:Ct ak Au:=cn (Fw (std 0) vT.pre vT.fn)
theorem Qo:Fn E 166 (Fw (std 0) vT.pre vT.fn) oW:=mk Tryz.func166 rfl (by kernel_rfl) (hlC Zw.ok hlN) (ahg (std 0) vT)
def Zx:=fun a b ha hb=>(Qo.cs (WK ads adt a b ha hb)).1
def Zy:=fun a b ha hb=>(Qo.cs (WK ads adt a b ha hb)).2
noncomputable def jB:Ct ak yG:=cn (Ms (std 0) oW.pre oW.fn)
theorem Sd:Fn E 109 (Ms (std 0) oW.pre oW.fn) jB:=mk Tryz.func109 rfl (by kernel_rfl) (hlC Qo.ok hlN) (akG (std 0) oW)
def Sg:=fun a b ha hb=>(Sd.cs (acs Zx Zy a b ha hb)).1
def Si:=fun a b ha hb=>(Sd.cs (acs Zx Zy a b ha hb)).2
noncomputable def wC:Ct ak Ho:=cn (Mt (std 0) jA.pre jA.fn jB.pre jB.fn)
theorem Zz:Fn E 38 (Mt (std 0) jA.pre jA.fn jB.pre jB.fn) wC:=mk Tryz.func38 rfl (by kernel_rfl) (hlC R9.ok (hlC Sd.ok hlN)) (akH (std 0) jA jB)
def adu:=fun a ha=>(Zz.cs (acv Sb Sc Sg Si a ha)).1
def adw:=fun a ha=>(Zz.cs (acv Sb Sc Sg Si a ha)).2
noncomputable def jD:Ct ak yH:=cn (Mv (std 0) aC.pre aC.fn)
theorem Sj:Fn E 100 (Mv (std 0) aC.pre aC.fn) jD:=mk Tryz.func100 rfl (by kernel_rfl) (hlC lI.ok hlN) (akI (std 0) aC)
def Sk:=fun o=>(Sj.cs (acI fG fH o)).1
def Sl:=fun o=>(Sj.cs (acI fG fH o)).2
noncomputable def vU:Ct ak Hq:=cn (Mw (std 0) aC.pre aC.fn)
theorem ZA:Fn E 199 (Mw (std 0) aC.pre aC.fn) vU:=mk Tryz.func199 rfl (by kernel_rfl) (hlC lI.ok hlN) (akJ (std 0) aC)
def adx:=fun o=>(ZA.cs (acJ fG fH o)).1
def ady:=fun o=>(ZA.cs (acJ fG fH o)).2
noncomputable def jC:Ct ak yI:=cn (Mx (std 0) vU.pre vU.fn aC.pre aC.fn)
theorem Sn:Fn E 172 (Mx (std 0) vU.pre vU.fn aC.pre aC.fn) jC:=mk Tryz.func172 rfl (by kernel_rfl) (hlC ZA.ok (hlC lI.ok hlN)) (akK (std 0) vU aC)
def Sq:=fun b x n h0 h1 h2=>(Sn.cs (acL adx ady fG fH b x n h0 h1 h2)).1
def Sr:=fun b x n h0 h1 h2=>(Sn.cs (acL adx ady fG fH b x n h0 h1 h2)).2
noncomputable def vW:Ct ak Hr:=cn (MB (std 0) jC.pre jC.fn jD.pre jD.fn bI.pre bI.fn aC.pre aC.fn jw.pre jw.fn jy.pre jy.fn)
theorem ZB:Fn E 122 (MB (std 0) jC.pre jC.fn jD.pre jD.fn bI.pre bI.fn aC.pre aC.fn jw.pre jw.fn jy.pre jy.fn) vW:=mk Tryz.func122 rfl (by kernel_rfl) (hlC Sn.ok (hlC Sj.ok (hlC BL.ok (hlC lI.ok (hlC R3.ok (hlC R6.ok hlN)))))) (akL (std 0) jC jD bI aC jw jy)
def adz:=fun b i h0 h1 h2 h3=>(ZB.cs (acM Sq Sr Sk Sl sK sM fG fH R4 R5 R7 R8 b i h0 h1 h2 h3)).1
def adA:=fun b i h0 h1 h2 h3=>(ZB.cs (acM Sq Sr Sk Sl sK sM fG fH R4 R5 R7 R8 b i h0 h1 h2 h3)).2
noncomputable def jE:Ct ak yJ:=cn (MF (std 0))
theorem Sv:Fn E 106 (MF (std 0)) jE:=mk Tryz.func106 rfl (by kernel_rfl) hlN (akM (std 0))
def Sw:=fun b=>(Sv.cs (acN b)).1
def Sy:=fun b=>(Sv.cs (acN b)).2
noncomputable def vV:Ct ak Ht:=cn (MG (std 0) jE.pre jE.fn jC.pre jC.fn bI.pre bI.fn aC.pre aC.fn)
theorem ZE:Fn E 123 (MG (std 0) jE.pre jE.fn jC.pre jC.fn bI.pre bI.fn aC.pre aC.fn) vV:=mk Tryz.func123 rfl (by kernel_rfl) (hlC Sv.ok (hlC Sn.ok (hlC BL.ok (hlC lI.ok hlN)))) (akN (std 0) jE jC bI aC)
def adB:=fun b h2=>(ZE.cs (acO Sw Sy Sq Sr sK sM fG fH b h2)).1
def adC:=fun b h2=>(ZE.cs (acO Sw Sy Sq Sr sK sM fG fH b h2)).2
noncomputable def jN:Ct ak yK:=cn (MH (std 0) vV.pre vV.fn vW.pre vW.fn aC.pre aC.fn)
theorem Sz:Fn E 51 (MH (std 0) vV.pre vV.fn vW.pre vW.fn aC.pre aC.fn) jN:=mk Tryz.func51 rfl (by kernel_rfl) (hlC ZE.ok (hlC ZB.ok (hlC lI.ok hlN))) (akO (std 0) vV vW aC)
def SA:=fun b h2=>(Sz.cs (acP adB adC adz adA fG fH b h2)).1
def SB:=fun b h2=>(Sz.cs (acP adB adC adz adA fG fH b h2)).2
noncomputable def vX:Ct ak Hu:=cn (MI (std 0))
theorem ZF:Fn E 198 (MI (std 0)) vX:=mk Tryz.func198 rfl (by kernel_rfl) hlN (akP (std 0))
def adD:=fun a=>(ZF.cs (aco a)).1
def adE:=fun a=>(ZF.cs (aco a)).2
noncomputable def jG:Ct ak yL:=cn (MJ (std 0) jA.pre jA.fn jB.pre jB.fn vX.pre vX.fn)
theorem SE:Fn E 162 (MJ (std 0) jA.pre jA.fn jB.pre jB.fn vX.pre vX.fn) jG:=mk Tryz.func162 rfl (by kernel_rfl) (hlC R9.ok (hlC Sd.ok (hlC ZF.ok hlN))) (akQ (std 0) jA jB vX)
def SF:=fun t a ht ha=>(SE.cs (acw Sb Sc Sg Si adD adE t a ht ha)).1
def SG:=fun t a ht ha=>(SE.cs (acw Sb Sc Sg Si adD adE t a ht ha)).2
noncomputable def jF:Ct ak yM:=cn (MK (std 0) aC.pre aC.fn)
theorem SH:Fn E 163 (MK (std 0) aC.pre aC.fn) jF:=mk Tryz.func163 rfl (by kernel_rfl) (hlC lI.ok hlN) (akR (std 0) aC)
def SK:=fun a=>(SH.cs (acf fG fH a)).1
def SL:=fun a=>(SH.cs (acf fG fH a)).2
noncomputable def jH:Ct ak yN:=cn (ML (std 0) jF.pre jF.fn jG.pre jG.fn)
theorem SN:Fn E 105 (ML (std 0) jF.pre jF.fn jG.pre jG.fn) jH:=mk Tryz.func105 rfl (by kernel_rfl) (hlC SH.ok (hlC SE.ok hlN)) (akS (std 0) jF jG)
def SQ:=fun kd k t fl ht=>(SN.cs (acT SK SL SF SG kd k t fl ht)).1
def SX:=fun kd k t fl ht=>(SN.cs (acT SK SL SF SG kd k t fl ht)).2
noncomputable def jP:Ct ak yO:=cn (MN (std 0) jH.pre jH.fn)
theorem SY:Fn E 99 (MN (std 0) jH.pre jH.fn) jP:=mk Tryz.func99 rfl (by kernel_rfl) (hlC SN.ok hlN) (akT (std 0) jH)
def S9:=fun t fl ht hl=>(SY.cs (acU SQ SX t fl ht hl)).1
def Ta:=fun t fl ht hl=>(SY.cs (acU SQ SX t fl ht hl)).2
noncomputable def wz:Ct ak Hw:=cn (MO (std 0) aC.pre aC.fn)
theorem ZG:Fn E 101 (MO (std 0) aC.pre aC.fn) wz:=mk Tryz.func101 rfl (by kernel_rfl) (hlC lI.ok hlN) (akU (std 0) aC)
def adF:=fun o=>(ZG.cs (acK fG fH o)).1
def adG:=fun o=>(ZG.cs (acK fG fH o)).2
noncomputable def wE:Ct ak Hy:=cn (MQ (std 0))
theorem ZH:Fn E 102 (MQ (std 0)) wE:=mk Tryz.func102 rfl (by kernel_rfl) hlN (akV (std 0))
def adH:=fun a h0 h1=>(ZH.cs (acV a h0 h1)).1
def adI:=fun a h0 h1=>(ZH.cs (acV a h0 h1)).2
noncomputable def fF:Ct ak sG:=cn (MR (std 0) aC.pre aC.fn)
theorem NG:Fn E 103 (MR (std 0) aC.pre aC.fn) fF:=mk Tryz.func103 rfl (by kernel_rfl) (hlC lI.ok hlN) (akW (std 0) aC)
def IU:=fun a=>(NG.cs (ace fG fH a)).1
def IV:=fun a=>(NG.cs (ace fG fH a)).2
noncomputable def fE:Ct ak sH:=cn (MS (std 0))
theorem NH:Fn E 169 (MS (std 0)) fE:=mk Tryz.func169 rfl (by kernel_rfl) hlN (akX (std 0))
def IW:=fun a=>(NH.cs (ab9 a)).1
def IX:=fun a=>(NH.cs (ab9 a)).2
noncomputable def wh:Ct ak Hz:=cn (MU (std 0) bI.pre bI.fn fE.pre fE.fn)
theorem ZI:Fn E 112 (MU (std 0) bI.pre bI.fn fE.pre fE.fn) wh:=mk Tryz.func112 rfl (by kernel_rfl) (hlC BL.ok (hlC NH.ok hlN)) (akY (std 0) bI fE)
def adJ:=fun op a b=>(ZI.cs (acd sK sM IW IX op a b)).1
def adK:=fun op a b=>(ZI.cs (acd sK sM IW IX op a b)).2
noncomputable def jI:Ct ak yP:=cn (MV (std 0) dG.pre dG.fn)
theorem Tc:Fn E 224 (MV (std 0) dG.pre dG.fn) jI:=mk Tryz.func224 rfl (by kernel_rfl) (hlC II.ok hlN) (akZ (std 0) dG)
def ZJ:=fun a b ha=>(Tc.cs (acn BI BJ a b ha)).1
def ZK:=fun a b ha=>(Tc.cs (acn BI BJ a b ha)).2
noncomputable def o8:Ct ak Av:=cn (Fz (std 0) jI.pre jI.fn)
theorem Qp:Fn E 240 (Fz (std 0) jI.pre jI.fn) o8:=mk Tryz.func240 rfl (by kernel_rfl) (hlC Tc.ok hlN) (ahh (std 0) jI)
def ZL:=fun a b d hd h1 h2 h3=>(Qp.cs (WO ZJ ZK a b d hd h1 h2 h3)).1
def ZM:=fun a b d hd h1 h2 h3=>(Qp.cs (WO ZJ ZK a b d hd h1 h2 h3)).2
noncomputable def oZ:Ct ak Aw:=cn (FB (std 0))
theorem Qq:Fn E 249 (FB (std 0)) oZ:=mk Tryz.func249 rfl (by kernel_rfl) hlN (ahi (std 0))
def ZN:=fun a b n d hl h1 h2 h3 h4=>(Qq.cs (WL a b n d hl h1 h2 h3 h4)).1
def ZO:=fun a b n d hl h1 h2 h3 h4=>(Qq.cs (WL a b n d hl h1 h2 h3 h4)).2
noncomputable def o7:Ct ak Ay:=cn (FC (std 0) oZ.pre oZ.fn)
theorem Qr:Fn E 247 (FC (std 0) oZ.pre oZ.fn) o7:=mk Tryz.func247 rfl (by kernel_rfl) (hlC Qq.ok hlN) (ahj (std 0) oZ)
def ahZ:=fun a m b d hl h1 h2 h3 h4=>(Qr.cs (WM ZN ZO a m b d hl h1 h2 h3 h4)).1
def ah0:=fun a m b d hl h1 h2 h3 h4=>(Qr.cs (WM ZN ZO a m b d hl h1 h2 h3 h4)).2
end Go.TX.F
namespace Go.TX.F
open Go Go.AE Go.TX Go.TX.Seat Go.Proofs
set_option maxRecDepth 100000
noncomputable def cK:Nat→Ct ak mq
  | 0=>never mq
  | k+1=>cn (FD (std 0) jI.pre jI.fn o7.pre o7.fn (cK k).pre (cK k).fn)
theorem kK:∀k:Nat,cu E 241 (bZ (cK k))∧∀(a m b:Int) (d:List aj),AZ a m b d→b-a<k→(cK k).pre (a,m,b,d,())=true∧Mrg d ((cK k).fn (a,m,b,d,())).1 a b
  | 0=>⟨jR (enters_of Tryz.func241 (by kernel_rfl) rfl),fun a m b d h1 h2=>(by have g1:=h1.h2;have g2:=h1.h3;omega)⟩
  | k+1=>by
    have ih:=kK k
    have t:Fn E 241 (FD (std 0) jI.pre jI.fn o7.pre o7.fn (cK k).pre (cK k).fn) (cK (k+1)):=mk Tryz.func241 rfl (by kernel_rfl) (hlC Tc.ok (hlC Qr.ok (hlC ih.1 hlN))) (ahk (std 0) jI o7 (cK k))
    exact⟨t.ok,fun a m b d h1 h2=>t.cs (ahI ZJ ZK ahZ ah0 (k:Int) (fun a m b d h1 h2=>(ih.2 a m b d h1 h2).1) (fun a m b d h1 h2=>(ih.2 a m b d h1 h2).2) a m b d h1 (by omega))⟩
noncomputable def jJ:Ct ak mq:=cK 1000000000
theorem ah1:cu E 241 (bZ jJ):=(kK 1000000000).1
theorem adL {a m b:Int} {d:List aj} (h:AZ a m b d):b-a< ((1000000000:Nat):Int):=by have g0:=h.sh.1;have g1:=h.h1;have g2:=h.h4;omega
def ZP:=fun a m b d h=>((kK 1000000000).2 a m b d h (adL h)).1
def ZQ:=fun a m b d h=>((kK 1000000000).2 a m b d h (adL h)).2
noncomputable def o9:Ct ak Az:=cn (FJ (std 0) o8.pre o8.fn jJ.pre jJ.fn)
theorem Qs:Fn E 229 (FJ (std 0) o8.pre o8.fn jJ.pre jJ.fn) o9:=mk Tryz.func229 rfl (by kernel_rfl) (hlC Qp.ok (hlC ah1 hlN)) (ahl (std 0) o8 jJ)
def ZR:=fun n d hd hn=>(Qs.cs (WQ ZL ZM ZP ZQ n d hd hn)).1
def ZT:=fun n d hd hn=>(Qs.cs (WQ ZL ZM ZP ZQ n d hd hn)).2
noncomputable def pq:Ct ak AA:=cn (FK (std 0) o9.pre o9.fn)
theorem Qt:Fn E 223 (FK (std 0) o9.pre o9.fn) pq:=mk Tryz.func223 rfl (by kernel_rfl) (hlC Qs.ok hlN) (ahm (std 0) o9)
def ZU:=fun d hd=>(Qt.cs (WR ZR ZT d hd)).1
def ZV:=fun d hd=>(Qt.cs (WR ZR ZT d hd)).2
noncomputable def jK:Ct ak yQ:=cn (MZ (std 0) dG.pre dG.fn bq.pre bq.fn fE.pre fE.fn jr.pre jr.fn pq.pre pq.fn)
theorem Td:Fn E 217 (MZ (std 0) dG.pre dG.fn bq.pre bq.fn fE.pre fE.fn jr.pre jr.fn pq.pre pq.fn) jK:=mk Tryz.func217 rfl (by kernel_rfl) (hlC II.ok (hlC y8.ok (hlC NH.ok (hlC RX.ok (hlC Qt.ok hlN))))) (ak0 (std 0) dG bq fE jr pq)
def Te:=fun l hl hc=>(Td.cs (acy BI BJ mY mZ IW IX RY RZ ZU ZV l hl hc)).1
def Tf:=fun l hl hc=>(Td.cs (acy BI BJ mY mZ IW IX RY RZ ZU ZV l hl hc)).2
noncomputable def pz:Ct ak AB:=cn (FL (std 0))
theorem Qu:Fn E 225 (FL (std 0)) pz:=mk Tryz.func225 rfl (by kernel_rfl) hlN (ahn (std 0))
def ZW:=fun n h1 h2=>(Qu.cs (WT n h1 h2)).1
def ZX:=fun n h1 h2=>(Qu.cs (WT n h1 h2)).2
noncomputable def vY:Ct ak HV:=cn (M0 (std 0) pz.pre pz.fn)
theorem ZY:Fn E 218 (M0 (std 0) pz.pre pz.fn) vY:=mk Tryz.func218 rfl (by kernel_rfl) (hlC Qu.ok hlN) (ak1 (std 0) pz)
def adM:=fun a b ha hb=>(ZY.cs (acz ZW ZX a b ha hb)).1
def adN:=fun a b ha hb=>(ZY.cs (acz ZW ZX a b ha hb)).2
noncomputable def wm:Ct ak HY:=cn (M4 (std 0) bq.pre bq.fn jK.pre jK.fn vY.pre vY.fn)
theorem Z0:Fn E 195 (M4 (std 0) bq.pre bq.fn jK.pre jK.fn vY.pre vY.fn) wm:=mk Tryz.func195 rfl (by kernel_rfl) (hlC y8.ok (hlC Td.ok (hlC ZY.ok hlN))) (ak2 (std 0) bq jK vY)
def adO:=fun a b ha hb=>(Z0.cs (acB mY mZ Te Tf adM adN a b ha hb)).1
def adP:=fun a b ha hb=>(Z0.cs (acB mY mZ Te Tf adM adN a b ha hb)).2
noncomputable def pE:Ct ak AJ:=cn (FN (std 0))
theorem Qv:Fn E 226 (FN (std 0)) pE:=mk Tryz.func226 rfl (by kernel_rfl) hlN (aho (std 0))
def Z4:=fun n h1 h2=>(Qv.cs (WU n h1 h2)).1
def Z5:=fun n h1 h2=>(Qv.cs (WU n h1 h2)).2
noncomputable def vZ:Ct ak HZ:=cn (M5 (std 0) pE.pre pE.fn)
theorem Z6:Fn E 219 (M5 (std 0) pE.pre pE.fn) vZ:=mk Tryz.func219 rfl (by kernel_rfl) (hlC Qv.ok hlN) (ak3 (std 0) pE)
def adQ:=fun a b ha hb=>(Z6.cs (acA Z4 Z5 a b ha hb)).1
def adR:=fun a b ha hb=>(Z6.cs (acA Z4 Z5 a b ha hb)).2
noncomputable def pF:Ct ak AL:=cn (FP (std 0) jT.pre jT.fn)
theorem Qw:Fn E 230 (FP (std 0) jT.pre jT.fn) pF:=mk Tryz.func230 rfl (by kernel_rfl) (hlC Y4.ok hlN) (ahp (std 0) jT)
def Z7:=fun a b d hd h1 h2=>(Qw.cs (Xj abu abv a b d hd h1 h2)).1
def Z8:=fun a b d hd h1 h2=>(Qw.cs (Xj abu abv a b d hd h1 h2)).2
noncomputable def pG:Ct ak DW:=never DW
theorem ah2:cu E 231 (bZ pG):=jR (enters_of Tryz.func231 (by kernel_rfl) rfl)
noncomputable def pI:Ct ak DX:=never DX
theorem ah3:cu E 232 (bZ pI):=jR (enters_of Tryz.func232 (by kernel_rfl) rfl)
noncomputable def pJ:Ct ak DY:=never DY
theorem ah4:cu E 233 (bZ pJ):=jR (enters_of Tryz.func233 (by kernel_rfl) rfl)
noncomputable def pK:Ct ak DZ:=never DZ
theorem ah5:cu E 234 (bZ pK):=jR (enters_of Tryz.func234 (by kernel_rfl) rfl)
noncomputable def pO:Ct ak D5:=never D5
theorem ah6:cu E 235 (bZ pO):=jR (enters_of Tryz.func235 (by kernel_rfl) rfl)
noncomputable def pQ:Ct ak D6:=never D6
theorem ah7:cu E 236 (bZ pQ):=jR (enters_of Tryz.func236 (by kernel_rfl) rfl)
noncomputable def pR:Ct ak D7:=never D7
theorem ah8:cu E 237 (bZ pR):=jR (enters_of Tryz.func237 (by kernel_rfl) rfl)
noncomputable def bB:Ct ak mD:=never mD
theorem lD:cu E 227 (bZ bB):=jR (enters_of Tryz.func227 (by kernel_rfl) rfl)
noncomputable def jL:Ct ak mD:=cn (FQ (std 0) jT.pre jT.fn pF.pre pF.fn pG.pre pG.fn pI.pre pI.fn pJ.pre pJ.fn pK.pre pK.fn pO.pre pO.fn pQ.pre pQ.fn pR.pre pR.fn bB.pre bB.fn)
theorem Qx:Fn E 227 (FQ (std 0) jT.pre jT.fn pF.pre pF.fn pG.pre pG.fn pI.pre pI.fn pJ.pre pJ.fn pK.pre pK.fn pO.pre pO.fn pQ.pre pQ.fn pR.pre pR.fn bB.pre bB.fn) jL:=mk Tryz.func227 rfl (by kernel_rfl) (hlC Y4.ok (hlC Qw.ok (hlC ah2 (hlC ah3 (hlC ah4 (hlC ah5 (hlC ah6 (hlC ah7 (hlC ah8 (hlC lD hlN)))))))))) (ahq (std 0) jT pF pG pI pJ pK pO pQ pR bB)
def Z9:=fun a b k d hd h1 h2=>(Qx.cs (Xk Z7 Z8 _ _ _ _ _ _ _ _ _ _ _ _ _ _ _ _ a b k d hd h1 h2)).1
def aac:=fun a b k d hd h1 h2=>(Qx.cs (Xk Z7 Z8 _ _ _ _ _ _ _ _ _ _ _ _ _ _ _ _ a b k d hd h1 h2)).2
noncomputable def uh:Ct ak Ri:={pre:=fun x=>decide ((0:Int)≤x.1)&&decide ((x.1:Int)≤18446744073709551615),fn:=fun x=>((Lib.bitLen (x.1:Int).toNat:Int),())}
theorem adS (n:Int) (h1:0≤n) (h2:n≤18446744073709551615):uh.pre (n,())=true:=by
  show(decide _&&decide _)=true;simp only [Bool.and_eq_true,decide_eq_true_eq];exact⟨h1,h2⟩
theorem aly:cu E 228 (bZ uh):=
  Ya (enters_of Tryz.func228 (by kernel_rfl) rfl) rfl fun x w h=>by
      have h':(decide ((0:Int)≤x)&&decide (x≤18446744073709551615))=true:=h
      simp only [Bool.and_eq_true,decide_eq_true_eq]at h'
      exact bits_Len x w h'.1 h'.2
noncomputable def pU:Ct ak AO:=cn (FR (std 0) jL.pre jL.fn uh.pre uh.fn)
theorem Qy:Fn E 220 (FR (std 0) jL.pre jL.fn uh.pre uh.fn) pU:=mk Tryz.func220 rfl (by kernel_rfl) (hlC Qx.ok (hlC aly hlN)) (ahr (std 0) jL uh)
def aad:=fun a ha=>(Qy.cs (Xl Z9 aac adS a ha)).1
def aae:=fun a ha=>(Qy.cs (Xl Z9 aac adS a ha)).2
noncomputable def jM:Ct ak yR:=cn (M6 (std 0) bq.pre bq.fn fE.pre fE.fn jK.pre jK.fn vZ.pre vZ.fn pU.pre pU.fn)
theorem Tg:Fn E 197 (M6 (std 0) bq.pre bq.fn fE.pre fE.fn jK.pre jK.fn vZ.pre vZ.fn pU.pre pU.fn) jM:=mk Tryz.func197 rfl (by kernel_rfl) (hlC y8.ok (hlC NH.ok (hlC Td.ok (hlC Z6.ok (hlC Qy.ok hlN))))) (ak4 (std 0) bq fE jK vZ pU)
def Ti:=fun a b ha hb=>(Tg.cs (acC mY mZ IW IX Te Tf adQ adR aad aae a b ha hb)).1
def Tj:=fun a b ha hb=>(Tg.cs (acC mY mZ IW IX Te Tf adQ adR aad aae a b ha hb)).2
noncomputable def wo:Ct ak H6:=cn (M7 (std 0) bq.pre bq.fn fF.pre fF.fn bI.pre bI.fn jM.pre jM.fn)
theorem aaf:Fn E 196 (M7 (std 0) bq.pre bq.fn fF.pre fF.fn bI.pre bI.fn jM.pre jM.fn) wo:=mk Tryz.func196 rfl (by kernel_rfl) (hlC y8.ok (hlC NG.ok (hlC BL.ok (hlC Tg.ok hlN)))) (ak5 (std 0) bq fF bI jM)
def adT:=fun a n ha=>(aaf.cs (acD mY mZ IU IV sK sM Ti Tj a n ha)).1
def adU:=fun a n ha=>(aaf.cs (acD mY mZ IU IV sK sM Ti Tj a n ha)).2
noncomputable def wu:Ct ak H7:=cn (Na (std 0) bJ.pre bJ.fn fF.pre fF.fn wh.pre wh.fn wm.pre wm.fn jM.pre jM.fn wo.pre wo.fn jv.pre jv.fn)
theorem aag:Fn E 161 (Na (std 0) bJ.pre bJ.fn fF.pre fF.fn wh.pre wh.fn wm.pre wm.fn jM.pre jM.fn wo.pre wo.fn jv.pre jv.fn) wu:=mk Tryz.func161 rfl (by kernel_rfl) (hlC BK.ok (hlC NG.ok (hlC ZI.ok (hlC Z0.ok (hlC Tg.ok (hlC aaf.ok (hlC RS.ok hlN))))))) (ak6 (std 0) bJ fF wh wm jM wo jv)
def adV:=fun op x y hx hy=>(aag.cs (acE sI sJ IU IV adJ adK adO adP Ti Tj adT adU RU RV op x y hx hy)).1
def adW:=fun op x y hx hy=>(aag.cs (acE sI sJ IU IV adJ adK adO adP Ti Tj adT adU RU RV op x y hx hy)).2
noncomputable def wD:Ct ak H8:=cn (Nb (std 0) fD.pre fD.fn wu.pre wu.fn jG.pre jG.fn jF.pre jF.fn)
theorem aah:Fn E 104 (Nb (std 0) fD.pre fD.fn wu.pre wu.fn jG.pre jG.fn jF.pre jF.fn) wD:=mk Tryz.func104 rfl (by kernel_rfl) (hlC NC.ok (hlC aag.ok (hlC SE.ok (hlC SH.ok hlN)))) (ak7 (std 0) fD wu jG jF)
def adX:=fun t op x y ht hx hy=>(aah.cs (acF IJ IK adV adW SF SG SK SL t op x y ht hx hy)).1
def adY:=fun t op x y ht hx hy=>(aah.cs (acF IJ IK adV adW SF SG SK SL t op x y ht hx hy)).2
noncomputable def jO:Ct ak yS:=cn (Nc (std 0) fC.pre fC.fn)
theorem Tk:Fn E 107 (Nc (std 0) fC.pre fC.fn) jO:=mk Tryz.func107 rfl (by kernel_rfl) (hlC ND.ok hlN) (ak8 (std 0) fC)
def Tm:=fun a ha=>(Tk.cs (acj IL IQ a ha)).1
def Tn:=fun a ha=>(Tk.cs (acj IL IQ a ha)).2
noncomputable def wJ:Ct ak H9:=cn (Ng (std 0) jE.pre jE.fn jN.pre jN.fn wz.pre wz.fn jD.pre jD.fn fF.pre fF.fn wB.pre wB.fn wC.pre wC.fn jO.pre jO.fn wD.pre wD.fn jH.pre jH.fn jP.pre jP.fn wE.pre wE.fn)
theorem aai:Fn E 37 (Ng (std 0) jE.pre jE.fn jN.pre jN.fn wz.pre wz.fn jD.pre jD.fn fF.pre fF.fn wB.pre wB.fn wC.pre wC.fn jO.pre jO.fn wD.pre wD.fn jH.pre jH.fn jP.pre jP.fn wE.pre wE.fn) wJ:=mk Tryz.func37 rfl (by kernel_rfl) (hlC Sv.ok (hlC Sz.ok (hlC ZG.ok (hlC Sj.ok (hlC NG.ok (hlC Zk.ok (hlC Zz.ok (hlC Tk.ok (hlC aah.ok (hlC SN.ok (hlC SY.ok (hlC ZH.ok hlN)))))))))))) (ak9 (std 0) jE jN wz jD fF wB wC jO wD jH jP wE)
def adZ:=fun t b ht hb=>(aai.cs (acY Sw Sy SA SB adF adG Sk Sl IU IV adl adn adu adw Tm Tn adX adY SQ SX S9 Ta adH adI t b ht hb)).1
def ad1:=fun t b ht hb=>(aai.cs (acY Sw Sy SA SB adF adG Sk Sl IU IV adl adn adu adw Tm Tn adX adY SQ SX S9 Ta adH adI t b ht hb)).2
end Go.TX.F
namespace Go.TX.F
open Go Go.AE Go.TX Go.TX.Seat Go.Proofs
set_option maxRecDepth 100000
noncomputable def pV:Ct ak AP:=cn (FT (std 0))
theorem Qz:Fn E 152 (FT (std 0)) pV:=mk Tryz.func152 rfl (by kernel_rfl) hlN (ahs (std 0))
def aaj:=fun a b ha=>(Qz.cs (X6 a b ha)).1
def aak:=fun a b ha=>(Qz.cs (X6 a b ha)).2
noncomputable def wH:Ct ak Ia:=cn (Nh (std 0) pV.pre pV.fn)
theorem aal:Fn E 84 (Nh (std 0) pV.pre pV.fn) wH:=mk Tryz.func84 rfl (by kernel_rfl) (hlC Qz.ok hlN) (ala (std 0) pV)
def ad2:=fun a b ha=>(aal.cs (acZ aaj aak a b ha)).1
def ad3:=fun a b ha=>(aal.cs (acZ aaj aak a b ha)).2
noncomputable def wI:Ct ak Ib:=cn (Ni (std 0) jO.pre jO.fn jP.pre jP.fn)
theorem aam:Fn E 85 (Ni (std 0) jO.pre jO.fn jP.pre jP.fn) wI:=mk Tryz.func85 rfl (by kernel_rfl) (hlC Tk.ok (hlC SY.ok hlN)) (alb (std 0) jO jP)
def ad4:=(aam.cs (acW Tm Tn S9 Ta)).1
def ad5:=(aam.cs (acW Tm Tn S9 Ta)).2
noncomputable def wF:Ct ak Ic:=cn (Nj (std 0) bJ.pre bJ.fn)
theorem aan:Fn E 191 (Nj (std 0) bJ.pre bJ.fn) wF:=mk Tryz.func191 rfl (by kernel_rfl) (hlC BK.ok hlN) (alc (std 0) bJ)
def ad6:=fun a b ha=>(aan.cs (ac0 sI sJ a b ha)).1
def ad7:=fun a b ha=>(aan.cs (ac0 sI sJ a b ha)).2
noncomputable def pW:Ct ak AQ:=cn (FU (std 0) wF.pre wF.fn)
theorem QA:Fn E 190 (FU (std 0) wF.pre wF.fn) pW:=mk Tryz.func190 rfl (by kernel_rfl) (hlC aan.ok hlN) (aht (std 0) wF)
def aao:=fun a b ha=>(QA.cs (X7 ad6 ad7 a b ha)).1
def aap:=fun a b ha=>(QA.cs (X7 ad6 ad7 a b ha)).2
noncomputable def jQ:Ct ak yT:=cn (Nk (std 0) pW.pre pW.fn)
theorem Tp:Fn E 155 (Nk (std 0) pW.pre pW.fn) jQ:=mk Tryz.func155 rfl (by kernel_rfl) (hlC QA.ok hlN) (ald (std 0) pW)
def Tq:=fun a b ha=>(Tp.cs (ac1 aao aap a b ha)).1
def Tt:=fun a b ha=>(Tp.cs (ac1 aao aap a b ha)).2
noncomputable def wG:Ct ak Ie:=cn (Nl (std 0) bJ.pre bJ.fn jQ.pre jQ.fn)
theorem aaq:Fn E 154 (Nl (std 0) bJ.pre bJ.fn jQ.pre jQ.fn) wG:=mk Tryz.func154 rfl (by kernel_rfl) (hlC BK.ok (hlC Tp.ok hlN)) (ale (std 0) bJ jQ)
def ad8:=fun a b ha=>(aaq.cs (ac2 sI sJ Tq Tt a b ha)).1
def ad9:=fun a b ha=>(aaq.cs (ac2 sI sJ Tq Tt a b ha)).2
noncomputable def pX:Ct ak AU:=cn (FV (std 0) wG.pre wG.fn)
theorem QB:Fn E 153 (FV (std 0) wG.pre wG.fn) pX:=mk Tryz.func153 rfl (by kernel_rfl) (hlC aaq.ok hlN) (ahu (std 0) wG)
def aar:=fun a b ha=>(QB.cs (X8 ad8 ad9 a b ha)).1
def aas:=fun a b ha=>(QB.cs (X8 ad8 ad9 a b ha)).2
noncomputable def wK:Ct ak Ig:=cn (Nn (std 0) bJ.pre bJ.fn jQ.pre jQ.fn pX.pre pX.fn)
theorem aat:Fn E 86 (Nn (std 0) bJ.pre bJ.fn jQ.pre jQ.fn pX.pre pX.fn) wK:=mk Tryz.func86 rfl (by kernel_rfl) (hlC BK.ok (hlC Tp.ok (hlC QB.ok hlN))) (alf (std 0) bJ jQ pX)
def aea:=fun a b ha=>(aat.cs (ac3 sI sJ Tq Tt aar aas a b ha)).1
def aeb:=fun a b ha=>(aat.cs (ac3 sI sJ Tq Tt aar aas a b ha)).2
noncomputable def Gf:Ct ak Uh:=cn (Wv (std 0) jN.pre jN.fn wH.pre wH.fn wI.pre wI.fn wJ.pre wJ.fn wK.pre wK.fn)
theorem ah9:Fn E 26 (Wv (std 0) jN.pre jN.fn wH.pre wH.fn wI.pre wI.fn wJ.pre wJ.fn wK.pre wK.fn) Gf:=mk Tryz.func26 rfl (by kernel_rfl) (hlC Sz.ok (hlC aal.ok (hlC aam.ok (hlC aai.ok (hlC aat.ok hlN))))) (amU (std 0) jN wH wI wJ wK)
def alz:=fun b c hb hc=>(ah9.cs (alx SA SB ad2 ad3 ad4 ad5 adZ ad1 aea aeb b c hb hc)).1
def alA:=fun b c hb hc=>(ah9.cs (alx SA SB ad2 ad3 ad4 ad5 adZ ad1 aea aeb b c hb hc)).2
noncomputable def wL:Ct ak Ih:=cn (Np (std 0))
theorem aau:Fn E 27 (Np (std 0)) wL:=mk Tryz.func27 rfl (by kernel_rfl) hlN (alg (std 0))
def aec:=fun b k hb=>(aau.cs (ac4 b k hb)).1
def aed:=fun b k hb=>(aau.cs (ac4 b k hb)).2
noncomputable def aee:Ct ak Vw:=cn (Nq (std 0) Gf.pre Gf.fn wL.pre wL.fn wM.pre wM.fn pY.pre pY.fn)
theorem aav:Fn E 4 (Nq (std 0) Gf.pre Gf.fn wL.pre wL.fn wM.pre wM.fn pY.pre pY.fn) aee:=mk Tryz.func4 rfl (by kernel_rfl) (hlC ah9.ok (hlC aau.ok (hlC Zl.ok (hlC Qn.ok hlN)))) (alh (std 0) Gf wL wM pY)
def alB:=fun c hc=>(aav.cs (ac5 alz alA aec aed ado adp Zt Zu c hc)).1
def alC:=fun c hc=>(aav.cs (ac5 alz alA aec aed ado adp Zt Zu c hc)).2
end Go.TX.F
namespace Go.Proofs.YtnhlcljjjbjfeaaGreat
open Go.ChangeShapes Go.WideShapes Go.ChangeAt Go.RowKit
theorem am4:ownKnob Tryz.prog.godebug=Option.none:=by kernel_rfl
theorem alD:laidOutB Tryz.prog=true:=by kernel_rfl
theorem aia:Tryz.prog.cellsOf 5=1:=by kernel_rfl
set_option maxRecDepth 100000 in
theorem lifted (os:Os) (started:os.Started) (H:Type) (enc:TypeId×Value→H):
    ReturnsInHanded {} Tryz.checked os 4 .any (Rows.fnChkStoreSpec.pre6 enc Tryz.prog Tryz.f4 Rows.fnChkStoreRow.domain false) (Rows.fnChkStoreSpec.post enc Tryz.prog Tryz.f4 false true false false):=by
  refine returnsInHanded_of_change (C:=Tryz.checked) am4 started (by kernel_rfl) Tryz.func4
    (ChangeSpec.witness6 (enc:=enc) (C:=Tryz.checked) false ⟨#[], #[.slice none 0 0],[]⟩ 8 (by kernel_rfl) (by kernel_rfl) (by kernel_rfl) (by kernel_rfl)) ?_
  intro W base args ds gs before hval0 hW _ _
  have hval:∀(j:Nat) t v,Tryz.f4.params[j]? =some t→args[j]? =some v→Value.okWide Tryz.prog W .any base t v:=hval0
  have hW':=hW
  obtain⟨p,q,hA0,hV,rfl,_,_⟩:=hW
  have hA:DataW.TrodAll enc Tryz.prog W 0 (fun _=>true) true Tryz.f4.params.toList args.toList ds p:=hA0
  rw [Tryz.params4]at hA hval
  obtain⟨v0,d0,rfl,rfl,h0⟩:=trodAll_one hA
  obtain⟨rfl,rfl⟩:=trodVars_none hV
  clear hA0 hval0
  simp only [List.append_nil]at hW'
  have hlt:∀x∈p,x.block<W.heap.size:=fun x hx=>by simpa using hW'.lt x hx
  obtain⟨xs,hr,hb⟩:=Go.TX.X9 Tryz.underlying22 Tryz.underlying5 aia (hval 0 22 v0 rfl rfl) h0 hlt
  have hp:=Go.TX.F.alB xs hb
  have hq:=Go.TX.F.alC xs hb
  refine(Go.TX.am1 Go.TX.F.aav.ok hr (fun g d h=>by cases h) hp).mono fun e W' ⟨he,hw⟩=> ?_
  have he:e= .returned (.bool true):=by rw [he,show Go.TX.F.aee.fn (xs,())=(true,())from hq]
  refine⟨_,he,[d0],[],p,[],p,[],hW',trodAll_mk1 (shut_bool Tryz.underlying4 true),?_,rfl,hw.frame _,fun h=>by cases h⟩
  exact trodAll_mk1 (Below.trod alD (by kernel_rfl) (of_decide_eq_true (by kernel_rfl)) h0 hw hlt)
theorem y1:Tryz.pinned.checked.prog.funcNamed Rows.fnChkStoreRow.func=some 4:=by kernel_rfl
theorem aS {a b:Bool} (h:a=true) (k:b=true):(a&&b)=true:=by rw [h,k];rfl
set_option maxHeartbeats 4000000 in
theorem y2:joinedFacts Tryz.pinned.checked.prog 4 Tryz.f4 Rows.fnChkStoreSpec Rows.fnChkStoreRow=true:=by
  unfold joinedFacts
  repeat' with_reducible apply aS
  all_goals (as_aux_lemma=>kernel_rfl)
theorem y3:Func.isWrapper Tryz.prog Tryz.f4 Rows.fnChkStoreRow.wrapper Rows.fnChkStoreRow.mainSum:=(by unfold Func.isWrapper;first | (rw [if_pos (by decide+kernel)];kernel_rfl) | (rw [if_neg (by decide+kernel)];exact⟨rfl,rfl⟩))
theorem x_holds:Rows.FnChkStoreSaid:=
  OpenClaim.holds_of_wide 4 Tryz.f4 rfl rfl rfl rfl rfl rfl rfl ⟨rfl,rfl,rfl,rfl,rfl⟩ rfl rfl rfl rfl rfl y1 Tryz.func4 y2
    (of_decide_eq_true (by kernel_rfl)) y3
    (fun os started H enc _=>lifted os started H enc)
end Go.Proofs.YtnhlcljjjbjfeaaGreat
