/- For every input the law returns true, and the input reads as it did. No condition. -/
import Derived.Test.YtdmoejehiedihaaGreatZe
import Derived.Lib.Bytes
import Derived.ChangeSlices
import Derived.ChangeSame
import Derived.JoinedOf
import Derived.JoinedAt
import Derived.Handed
import Derived.Below
import Derived.Carry
import Derived.OpenShut
import Derived.ChangeKeysEq
import Derived.Test.YtdmoejehiedihaaGreatY
import Derived.Test.YtdmoejehiedihaaGreatRows
set_option linter.all false
set_option linter.unusedSectionVars false
set_option linter.unusedVariables false
set_option linter.unusedSimpArgs false
namespace Go.TX.F
open Go Go.AE Go.TX
noncomputable def SW (t:List Atom) (b:Blk) (i:Nat):SS:=(b.ops.take i).foldl stp (s0 t)
structure At (t:List Atom) (b:Blk) (i:Nat) (ld inn:Int) (tb:List Atom) (V:List (List aj)) (ev:List Ev) (rg:List (List aj)):Prop where
 ld:ld=(SW t b i).ld
 inn:inn=(SW t b i).inn
 tb:tb=(SW t b i).t
 V:V=(SW t b i).vals++List.replicate (b.ops.length-i) []
 ev:ev=(SW t b i).evs
 rg:rg=(SW t b i).regs
theorem At.aqt {t:List Atom} {b:Blk} {i:Nat} {ld inn:Int} {tb:List Atom} {V:List (List aj)} {ev:List Ev} {rg:List (List aj)} (h:At t b i ld inn tb V ev rg) (hv:(SW t b i).vals.length=i) (hi:i≤b.ops.length):V.length=b.ops.length:=by
 rw [h.V,List.length_append,List.length_replicate,hv];omega
theorem Tc (t:List Atom):∀(l:List IOp) (s:SS),(l.foldl stp s).evs.length≤s.evs.length+l.length
 | [],s=>Nat.le_refl _
 | o::r,s=>by
  rw [List.foldl_cons,List.length_cons]
  have h1:=Tc t r (stp s o)
  have h2:(stp s o).evs.length≤s.evs.length+1:=by
   show(nE s o).length≤_
   unfold nE;split
   ·rw [List.length_append];exact Nat.le_refl _
   ·omega
  omega
theorem afQ {t:List Atom} {b:Blk} (i:Nat) (hi:i≤b.ops.length):(SW t b i).evs.length≤i:=by
 have:=Tc t (b.ops.take i) (s0 t)
 rw [List.length_take,Nat.min_eq_left hi]at this
 show((b.ops.take i).foldl stp (s0 t)).evs.length≤i
 have e:(s0 t).evs.length=0:=rfl
 omega
theorem abq {t:List Atom} {b:Blk} {i:Nat} (hi:i<b.ops.length):SW t b (i+1)=stp (SW t b i) (b.ops.getD i default):=by
 unfold SW;rw [mV _ _ hi,getD_lt hi]
theorem At.next {t:List Atom} {b:Blk} {i:Nat} {ld inn:Int} {tb:List Atom} {V:List (List aj)} {ev:List Ev} {rg:List (List aj)} (h:At t b i ld inn tb V ev rg) (hv:(SW t b i).vals.length=i) (hi:i<b.ops.length) {o:IOp} (ho:b.ops.getD i default=o)
  {ld' YQ:Int} {tb':List Atom} {V':List (List aj)} {ev':List Ev} {rg':List (List aj)} (h1:ld'=if o.kind=4 then ld+1 else ld) (h2:YQ=if o.kind=6 then inn+1 else inn) (h3:tb'=nT (SW t b i) o) (h4:V'=V.set i (nV (SW t b i) o)) (h5:ev'=nE (SW t b i) o) (h6:rg'=nR (SW t b i) o):At t b (i+1) ld' YQ tb' V' ev' rg':=by
 have e:=abq (t:=t) hi
 rw [ho]at e
 refine⟨?_,?_,?_,?_,?_,?_⟩<;>rw [e]
 ·rw [h1,h.ld];rfl
 ·rw [h2,h.inn];rfl
 ·exact h3
 ·rw [h4,h.V]
  show _=((SW t b i).vals++ [nV (SW t b i) o])++_
  rw [List.set_append_right _ _ (by omega),hv,Nat.sub_self,show b.ops.length-i=(b.ops.length- (i+1))+1 by omega,List.replicate_succ,List.set_cons_zero,List.append_assoc];rfl
 ·exact h5
 ·exact h6
set_option maxHeartbeats 1000000 in
theorem amG {p1:Blk×Unit→Bool} {f1:Blk×Unit→Bool×Bool×Bool×Unit} (hp1:∀b,p1 (b,())=true) (hf1:∀b,f1 (b,())=(decide (b.fin≠1),decide (3≤b.fin),decide (b.fin≠2),()))
  {p2:Blk×Unit→Bool} {f2:Blk×Unit→Bool×Unit} (hp2:∀b,b.ops.length<1000000000→p2 (b,())=true) (hf2:∀b,b.ops.length<1000000000→f2 (b,())=(bp (bZ b),()))
  {p3:IOp×Unit→Bool} {f3:IOp×Unit→Bool×Unit} (hp3:∀o,p3 (o,())=true) (hf3:∀o,f3 (o,())=(decide (evO o),()))
  {p4:IOp×Unit→Bool} {f4:IOp×Unit→Bool×Bool×Bool×Bool×Unit} (hp4:∀o,p4 (o,())=true) (hf4:∀o,f4 (o,())=(decide (hX o),decide (hY o),decide (hK o),decide (evO o),()))
  {p5:Int×Unit→Bool} {f5:Int×Unit→List aj×Unit} (hp5:∀n,p5 (n,())=true) (hf5:∀n,f5 (n,())=(aX n,()))
  {p6:Sym×Int×Unit→Bool} {f6:Sym×Int×Unit→Sym×Unit} (hp6:∀s n,ShY s→0≤s.fin→s.fin≤4→p6 (s,n,())=true) (hf6:∀s n,ShY s→0≤s.fin→s.fin≤4→f6 (s,n,())=(symEnd s n,()))
  {p7:List Atom×Unit→Bool} {f7:List Atom×Unit→Bool×Unit} (hp7:∀a,ShT a→p7 (a,())=true) (hf7:∀a,ShT a→f7 (a,())=(bp (aI a),()))
  {p8:List Atom×Unit→Bool} {f8:List Atom×Unit→List Atom×Unit} (hp8:∀a,ShT a→p8 (a,())=true) (hf8:∀a,ShT a→f8 (a,())=(a,()))
  {p9:List Atom×Int×List aj×List aj×Unit→Bool} {f9:List Atom×Int×List aj×List aj×Unit→List Atom×List aj×Bool×Unit} (hp9:∀(t:List Atom) op x y,t.length<1000000000→Sh x→Sh y→p9 (t,op,x,y,())=true)
  (hf9:∀(t:List Atom) op x y,t.length<1000000000→Sh x→Sh y→(f9 (t,op,x,y,())).1=(tDo t op x y).1∧(f9 (t,op,x,y,())).2.1=(tDo t op x y).2∧(f9 (t,op,x,y,())).2.2.1=tOk t op x y)
  {p10:Int×Int×List Atom×Bool×Unit→Bool} {f10:Int×Int×List Atom×Bool×Unit→List aj×List Atom×Bool×Unit} (amH:∀kd k (t:List Atom) fl,t.length<1000000000→p10 (kd,k,t,fl,())=true)
  (aqu:∀kd k (t:List Atom) fl,t.length<1000000000→f10 (kd,k,t,fl,())=if(bI t ⟨kd,k,[],[]⟩).2<0 then([],t,true,())else(gX (bI t ⟨kd,k,[],[]⟩).2,(bI t ⟨kd,k,[],[]⟩).1,fl,()))
  {p11:List Atom×Bool×Unit→Bool} {f11:List Atom×Bool×Unit→List Atom×Bool×List (List aj)×Unit} (aqv:∀(t:List Atom) fl,aI t→t.length≤196→p11 (t,fl,())=true) (aqw:∀(t:List Atom) fl,aI t→t.length≤196→f11 (t,fl,())=((rN t 4).1,fl,(rN t 4).2,()))
  {p12:List (List aj)×Unit→Bool} {f12:List (List aj)×Unit→List (List aj)×List (List aj)×Unit} (amI:∀a:List (List aj),0<a.length→a.length<1000000000→p12 (a,())=true) (amJ:∀a:List (List aj),0<a.length→a.length<1000000000→f12 (a,())=(a,a,()))
  (t:List Atom) (b:Blk) (ht:ShT t) (hb:b.ops.length<1000000000):X9 (std 0) p1 f1 p2 f2 p3 f3 p4 f4 p5 f5 p6 f6 p7 f7 p8 f8 p9 f9 p10 f10 p11 f11 p12 f12 (t,b,()) (fun y=>y=((bH t b).1,(bH t b).2,())):=by
 have hlt:=ht.1
 dsimp only [X9,Alg.cl,Alg.cg,Alg.rb,Alg.bd,Alg.l1,Tup.q,Tup.o]
 simp (disch:=omega) only [RR,RB,hp7 t ht,hf7 t ht,hp2 b hb,hf2 b hb]
 by_cases c:aI t∧t.length≤100∧bZ b
 case neg=>
  refine⟨fun _=> ?_,fun h=> ?_⟩
  ·unfold bH;rw [gH c];rfl
  ·exact absurd ⟨bK.1 h.1.1,by omega,bK.1 h.2⟩ c
 obtain⟨c1,c2,c3⟩:=c
 simp (disch:=omega) only [RR,dB c1,dB c3,aqv t false c1 (by omega),aqw t false c1 (by omega)]
 have sz:=c3.sz
 have hop:=c3.op
 have hk3:=c3.k3
 have i0:=Fu c1 (by omega)
 have siw:∀j:Nat,j≤b.ops.length→SI (t.length+4) j (SW t b j):=fun j hj=>by
  have:=(z8 (b.ops.take j) 0 (s0 t) i0 (fun o ho=>hk3 o (List.mem_of_mem_take ho)) (by rw [List.length_take];omega) (by rw [List.length_take];omega)).1
  rw [List.length_take,Nat.min_eq_left hj,Nat.zero_add]at this;exact this
 refine⟨fun h=>absurd h (by omega),fun _=>⟨by omega,by omega,?_⟩⟩
 refine ay (fun(y:Int×Int×List IOp×Int×Int×Blk×Int×Int×List Atom×Bool×Int×Int×List (List aj)×List Ev×List (List aj)×Unit)=>y.2.2.2.2.2.1=b∧y.2.2.1=b.ops∧y.2.2.2.1=b.ops.length∧y.2.2.2.2.2.2.2.2.2.1=false∧y.2.2.2.2.2.2.2.2.2.2.1=b.fin∧y.2.2.2.2.2.2.2.2.2.2.2.1=b.k∧
   0≤y.2.2.2.2.1∧y.2.2.2.2.1≤b.ops.length∧At t b y.2.2.2.2.1.toNat y.1 y.2.1 y.2.2.2.2.2.2.2.2.1 y.2.2.2.2.2.2.2.2.2.2.2.2.1 y.2.2.2.2.2.2.2.2.2.2.2.2.2.1 y.2.2.2.2.2.2.2.2.2.2.2.2.2.2.1) (fun y=>(b.ops.length-y.2.2.2.2.1).toNat)
  ⟨rfl,rfl,rfl,rfl,rfl,rfl,by simp,by simp,⟨rfl,rfl,rfl,rfl,rfl,rfl⟩⟩ ?_
 rintro⟨(ld:Int),(inn:Int),(ops:List IOp),(n:Int),(i:Int),(b':Blk),(z1:Int),(z2:Int),(tb:List Atom),(fl:Bool),(fin:Int),(kk:Int),(V:List (List aj)),(ev:List Ev),(rg:List (List aj)),⟨⟩⟩ hI
 dsimp only at hI ⊢
 obtain⟨e1,e2,e3,e4,e5,e6,h1,h2,hA⟩:=hI
 subst e1 e2 e3 e4 e5 e6
 have hl:V.length=b'.ops.length:=hA.aqt (siw i.toNat (by omega)).vl (by omega)
 have si:=siw i.toNat (by omega)
 obtain⟨a1,a2,a3,a4,a5,a6⟩:=hA
 have tl:tb.length<1000000000:=by rw [a3];have:=si.tl;omega
 have r4:rg.length=4:=by rw [a6];exact si.r4
 have evl:ev.length≤i.toNat:=by rw [a5];exact afQ i.toNat (by omega)
 by_cases h7:i<b'.ops.length
 case neg=>
  have en:=c3.en
  have hf:=en.f
  have hpc:=c3.pc
  have hln:=c3.ln
  have ein:i.toNat=b'.ops.length:=by omega
  have eS:SW t b' i.toNat=gI t b':=by unfold SW gI;rw [ein,List.take_of_length_le (Nat.le_refl _)]
  rw [eS]at a1 a2 a3 a4 a5 a6 si
  have eV:V=(gI t b').vals:=by rw [a4,ein,Nat.sub_self];simp
  clear a4
  have pk:=Jh (b:=b') si
  have eR:=xS c1 c2 c3
  have sh:ShY (kW b' (gI t b')):=by
   have i0:=Fu c1 (by omega)
   have hs:=QI b'.ops 0 (s0 t) i0 hk3 (by omega) (by omega) ⟨by simp [s0],fun e he=>absurd he (by simp [s0])⟩
   exact⟨⟨by have:=hs.1;show(b'.ops.foldl stp (s0 t)).evs.length<_;omega,hs.2⟩,si.regs,pk.1.sh,pk.2.sh⟩
  have st:=si.tok.sh
  have q6:=hp6 (kW b' (gI t b')) (b'.pc+b'.len) sh (by show 0≤b'.fin;omega) hf.2
  have r6:=hf6 (kW b' (gI t b')) (b'.pc+b'.len) sh (by show 0≤b'.fin;omega) hf.2
  subst a1 a2 a3 a5 a6 eV
  have x1:=en.x1
  have y1:=en.y1
  have sl:=si.vl
  have E:kW b' (gI t b')=⟨(gI t b').evs,(gI t b').regs,b'.fin,if b'.fin=1 then []else(((gI t b').vals).getD (b'.x).toNat default),if 3≤b'.fin then(((gI t b').vals).getD (b'.y).toNat default)else [],b'.k⟩:=rfl
  rw [E]at q6 r6
  rcases(by omega:b'.fin=1∨b'.fin=2∨3≤b'.fin)with c | c | c
  ·have n2:¬3≤b'.fin:=by omega
   rw [if_pos c,if_neg n2]at q6 r6
   simp (disch:=omega) only [RR,RB,h7,hp1,hf1,decide_eq_false n2,c,ne_eq,not_true_eq_false,decide_false,hp8 _ st,hf8 _ st]
   rw [c]at q6 r6
   rw [eR,E,if_pos c,if_neg n2,c]
   exact⟨fun h=>absurd h (by omega),fun _=>⟨q6,by rw [r6]⟩⟩
  ·have n1:b'.fin≠1:=by omega
   have n2:¬3≤b'.fin:=by omega
   obtain⟨v1,v2,_⟩:=x1 n1
   rw [if_neg n1,if_neg n2]at q6 r6
   simp (disch:=omega) only [RR,RB,h7,hp1,hf1,decide_eq_true n1,decide_eq_false n2,hp8 _ st,hf8 _ st]
   rw [eR,E,if_neg n1,if_neg n2]
   exact⟨v1,by omega,v1,by omega,q6,by rw [r6]⟩
  ·have n1:b'.fin≠1:=by omega
   obtain⟨v1,v2,_⟩:=x1 n1
   obtain⟨w1,w2,_⟩:=y1 c
   rw [if_neg n1,if_pos c]at q6 r6
   simp (disch:=omega) only [RR,RB,h7,hp1,hf1,decide_eq_true n1,decide_eq_true c,hp8 _ st,hf8 _ st]
   rw [eR,E,if_neg n1,if_pos c]
   exact⟨v1,by omega,v1,by omega,w1,by omega,w1,by omega,q6,by rw [r6]⟩
 have hok:=hop i h1 h7
 have nxt:=fun {ld' YQ:Int} {tb':List Atom} {V':List (List aj)} {ev':List Ev} {rg':List (List aj)}=>At.next (t:=t) (b:=b') (i:=i.toNat) (o:=((b'.ops).getD (i).toNat default)) ⟨a1,a2,a3,a4,a5,a6⟩ si.vl (by omega) rfl (ld':=ld') (YQ:=YQ) (tb':=tb') (V':=V') (ev':=ev') (rg':=rg')
 have ei:(i+1).toNat=i.toNat+1:=by omega
 have vx:∀j:Int,0≤j→j<i→((V).getD (j).toNat default)=(((SW t b' i.toNat).vals).getD (j).toNat default):=fun j j1 j2=>by
  have:=si.vl
  rw [a4,getD_lt (by rw [List.length_append];omega),getD_lt (by omega),List.getElem_append_left]
 have ex:hX ((b'.ops).getD (i).toNat default)→((V).getD ((((b'.ops).getD (i).toNat default)).x).toNat default)=xOf (SW t b' i.toNat) ((b'.ops).getD (i).toNat default):=fun h=>by
  unfold xOf;rw [if_pos h];exact vx _ (hok.x1 h).1 (hok.x1 h).2.1
 have ey:hY ((b'.ops).getD (i).toNat default)→((V).getD ((((b'.ops).getD (i).toNat default)).y).toNat default)=yOf (SW t b' i.toNat) ((b'.ops).getD (i).toNat default):=fun h=>by
  unfold yOf;rw [if_pos h];exact vx _ (hok.y1 h).1 (hok.y1 h).2.1
 have v0:V.set i.toNat []=V:=by
  have:=si.vl
  rw [a4,List.set_append_right _ _ (by omega),this,Nat.sub_self,show b'.ops.length-i.toNat=(b'.ops.length- (i.toNat+1))+1 by omega,List.replicate_succ,List.set_cons_zero]
 obtain⟨sn,so⟩:=Jd (o:=((b'.ops).getD (i).toNat default)) si hok.k3 (by omega) (by omega)
 have gl:=si.ld
 have gi:=si.inn
 have shx:=(si.x ((b'.ops).getD (i).toNat default)).1.sh
 have shy:=(si.y ((b'.ops).getD (i).toNat default)).1.sh
 generalize hs:SW t b' i.toNat=s at*
 generalize ho:((b'.ops).getD (i).toNat default)=o at*
 have kd:=hok.kd
 subst a1 a2 a3 a5 a6
 have L0:o.kind≠4→s.ld=if o.kind=4 then s.ld+1 else s.ld:=fun h=>by rw [if_neg h]
 have I0:o.kind≠6→s.inn=if o.kind=6 then s.inn+1 else s.inn:=fun h=>by rw [if_neg h]
 have T0:o.kind≠3→o.kind≠4→o.kind≠6→s.t=nT s o:=fun h3 h4 h6=>by unfold nT;rw [if_neg h3,if_neg (by omega)]
 have R0:o.kind≠8→s.regs=nR s o:=fun h=>by unfold nR;rw [if_neg h]
 have E0:¬evO o→s.evs=nE s o:=fun h=>by unfold nE;rw [if_neg h]
 have V0:o.kind=5∨o.kind=7∨o.kind=8→V=V.set i.toNat (nV s o):=fun h=>by
  rw [show nV s o=[] by unfold nV;rw [if_neg (by omega),if_neg (by omega),if_neg (by omega),if_neg (by omega)],v0]
 have P0:∀kd k,0≤(bI s.t ⟨kd,k,[],[]⟩).2→f10 (kd,k,s.t,false,())=(gX (bI s.t ⟨kd,k,[],[]⟩).2,(bI s.t ⟨kd,k,[],[]⟩).1,false,()):=fun kd k h=>by
  rw [aqu _ _ _ _ tl,if_neg (by omega)]
 have y0:¬hY o→yOf s o=[]:=fun h=>by unfold yOf;rw [if_neg h]
 have x0:¬hX o→xOf s o=[]:=fun h=>by unfold xOf;rw [if_neg h]
 rcases(by omega:o.kind=1∨o.kind=2∨o.kind=3∨o.kind=4∨o.kind=5∨o.kind=6∨o.kind=7∨o.kind=8)with c | c | c | c | c | c | c | c
 ·have dX:decide (hX o)=false:=decide_eq_false (by unfold hX;omega)
  have dY:decide (hY o)=false:=decide_eq_false (by unfold hY;omega)
  have dE:decide (evO o)=false:=decide_eq_false (by unfold evO;omega)
  have N:At t b' (i.toNat+1) s.ld s.inn s.t (V.set i.toNat (aX o.k)) s.evs s.regs:=nxt (L0 (by omega)) (I0 (by omega)) (T0 (by omega) (by omega) (by omega)) (by unfold nV;rw [if_pos c]) (E0 (by unfold evO;omega)) (R0 (by omega))
  simp (disch:=omega) only [RR,RB,ho,h7,hp4,hf4,hp3,hf3,dX,dY,dE,c,Int.reduceEq,List.length_cons,List.length_nil,hp5,hf5]
  repeat' apply And.intro
  all_goals first | omega | (rw [ei];exact N)
 ·have dX:decide (hX o)=false:=decide_eq_false (by unfold hX;omega)
  have dY:decide (hY o)=false:=decide_eq_false (by unfold hY;omega)
  have dE:decide (evO o)=false:=decide_eq_false (by unfold evO;omega)
  have k2:=hok.k2 (Or.inl c)
  have N:At t b' (i.toNat+1) s.ld s.inn s.t (V.set i.toNat ((s.regs).getD (o.k).toNat default)) s.evs s.regs:=nxt (L0 (by omega)) (I0 (by omega)) (T0 (by omega) (by omega) (by omega)) (by unfold nV;rw [if_neg (by omega),if_pos c]) (E0 (by unfold evO;omega)) (R0 (by omega))
  simp (disch:=omega) only [RR,RB,ho,h7,hp4,hf4,hp3,hf3,dX,dY,dE,c,Int.reduceEq,List.length_cons,List.length_nil,r4]
  repeat' apply And.intro
  all_goals first | omega | (rw [ei];exact N)
 ·have dX:decide (hX o)=true:=decide_eq_true (by unfold hX;omega)
  have dY:decide (hY o)=true:=decide_eq_true (by unfold hY;omega)
  have dE:decide (evO o)=false:=decide_eq_false (by unfold evO;omega)
  have v1:=hok.x1 (by unfold hX;omega)
  have v2:=hok.y1 (by unfold hY;omega)
  have u1:=v1.2.1
  have u2:=v2.2.1
  have w1:=v1.1
  have w2:=v2.1
  obtain⟨d1,d2,d3⟩:=hf9 s.t o.k _ _ tl shx shy
  have d4:=(so.d c).ok
  have N:At t b' (i.toNat+1) s.ld s.inn (tDo s.t o.k (xOf s o) (yOf s o)).1 (V.set i.toNat (tDo s.t o.k (xOf s o) (yOf s o)).2) s.evs s.regs:=nxt (L0 (by omega)) (I0 (by omega)) (by unfold nT;rw [if_pos c]) (by unfold nV;rw [if_neg (by omega),if_neg (by omega),if_pos c]) (E0 (by unfold evO;omega)) (R0 (by omega))
  simp (disch:=omega) only [RR,RB,ho,h7,hp4,hf4,hp3,hf3,dX,dY,dE,c,Int.reduceEq,List.length_cons,List.length_nil,ex (by unfold hX;omega),ey (by unfold hY;omega),hp9 s.t o.k _ _ tl shx shy,d1,d2,d3,d4]
  repeat' apply And.intro
  all_goals first | omega | (rw [ei];exact N)
 ·have dX:decide (hX o)=true:=decide_eq_true (by unfold hX;omega)
  have dY:decide (hY o)=false:=decide_eq_false (by unfold hY;omega)
  have dE:decide (evO o)=true:=decide_eq_true (by unfold evO;omega)
  have v1:=hok.x1 (by unfold hX;omega)
  have u1:=v1.2.1
  have w1:=v1.1
  have ea:aOf s o=⟨2,s.ld,[],[]⟩:=by unfold aOf;rw [if_pos c]
  have pp:=so.p (Or.inl c)
  rw [ea]at pp
  have N:At t b' (i.toNat+1) (s.ld+1) s.inn (bI s.t ⟨2,s.ld,[],[]⟩).1 (V.set i.toNat (gX (bI s.t ⟨2,s.ld,[],[]⟩).2)) (s.evs++ [⟨4,o.at_,xOf s o,[],s.regs⟩]) s.regs:=nxt (by rw [if_pos c]) (I0 (by omega)) (by unfold nT;rw [if_neg (by omega),if_pos (Or.inl c),ea]) (by unfold nV;rw [if_neg (by omega),if_neg (by omega),if_neg (by omega),if_pos (Or.inl c),ea]) (by unfold nE;rw [if_pos (by unfold evO;omega),if_pos (Or.inl c),c,y0 (by unfold hY;omega)]) (R0 (by omega))
  simp (disch:=omega) only [RR,RB,ho,h7,hp4,hf4,hp3,hf3,dX,dY,dE,c,Int.reduceEq,List.length_cons,List.length_nil,ex (by unfold hX;omega),amI s.regs (by omega) (by omega),amJ s.regs (by omega) (by omega),amH 2 s.ld s.t false tl,P0 2 s.ld pp]
  repeat' apply And.intro
  all_goals first | omega | (rw [ei];exact N)
 ·have dX:decide (hX o)=true:=decide_eq_true (by unfold hX;omega)
  have dY:decide (hY o)=true:=decide_eq_true (by unfold hY;omega)
  have dE:decide (evO o)=true:=decide_eq_true (by unfold evO;omega)
  have v1:=hok.x1 (by unfold hX;omega)
  have v2:=hok.y1 (by unfold hY;omega)
  have u1:=v1.2.1
  have u2:=v2.2.1
  have w1:=v1.1
  have w2:=v2.1
  have N:At t b' (i.toNat+1) s.ld s.inn s.t V (s.evs++ [⟨5,o.at_,xOf s o,yOf s o,s.regs⟩]) s.regs:=nxt (L0 (by omega)) (I0 (by omega)) (T0 (by omega) (by omega) (by omega)) (V0 (by omega)) (by unfold nE;rw [if_pos (by unfold evO;omega),if_pos (Or.inr c),c]) (R0 (by omega))
  simp (disch:=omega) only [RR,RB,ho,h7,hp4,hf4,hp3,hf3,dX,dY,dE,c,Int.reduceEq,List.length_cons,List.length_nil,ex (by unfold hX;omega),ey (by unfold hY;omega),amI s.regs (by omega) (by omega),amJ s.regs (by omega) (by omega)]
  repeat' apply And.intro
  all_goals first | omega | (rw [ei];exact N)
 ·have dX:decide (hX o)=false:=decide_eq_false (by unfold hX;omega)
  have dY:decide (hY o)=false:=decide_eq_false (by unfold hY;omega)
  have dE:decide (evO o)=true:=decide_eq_true (by unfold evO;omega)
  have ea:aOf s o=⟨3,s.inn,[],[]⟩:=by unfold aOf;rw [if_neg (by omega)]
  have pp:=so.p (Or.inr c)
  rw [ea]at pp
  have N:At t b' (i.toNat+1) s.ld (s.inn+1) (bI s.t ⟨3,s.inn,[],[]⟩).1 (V.set i.toNat (gX (bI s.t ⟨3,s.inn,[],[]⟩).2)) (s.evs++ [⟨6,o.at_,[],[],[]⟩]) s.regs:=nxt (L0 (by omega)) (by rw [if_pos c]) (by unfold nT;rw [if_neg (by omega),if_pos (Or.inr c),ea]) (by unfold nV;rw [if_neg (by omega),if_neg (by omega),if_neg (by omega),if_pos (Or.inr c),ea]) (by unfold nE;rw [if_pos (by unfold evO;omega),if_neg (by omega),c,x0 (by unfold hX;omega),y0 (by unfold hY;omega)]) (R0 (by omega))
  simp (disch:=omega) only [RR,RB,ho,h7,hp4,hf4,hp3,hf3,dX,dY,dE,c,Int.reduceEq,List.length_cons,List.length_nil,amH 3 s.inn s.t false tl,P0 3 s.inn pp]
  repeat' apply And.intro
  all_goals first | omega | (rw [ei];exact N)
 ·have dX:decide (hX o)=true:=decide_eq_true (by unfold hX;omega)
  have dY:decide (hY o)=false:=decide_eq_false (by unfold hY;omega)
  have dE:decide (evO o)=true:=decide_eq_true (by unfold evO;omega)
  have v1:=hok.x1 (by unfold hX;omega)
  have u1:=v1.2.1
  have w1:=v1.1
  have N:At t b' (i.toNat+1) s.ld s.inn s.t V (s.evs++ [⟨7,o.at_,xOf s o,[],[]⟩]) s.regs:=nxt (L0 (by omega)) (I0 (by omega)) (T0 (by omega) (by omega) (by omega)) (V0 (by omega)) (by unfold nE;rw [if_pos (by unfold evO;omega),if_neg (by omega),c,y0 (by unfold hY;omega)]) (R0 (by omega))
  simp (disch:=omega) only [RR,RB,ho,h7,hp4,hf4,hp3,hf3,dX,dY,dE,c,Int.reduceEq,List.length_cons,List.length_nil,ex (by unfold hX;omega)]
  repeat' apply And.intro
  all_goals first | omega | (rw [ei];exact N)
 ·have dX:decide (hX o)=true:=decide_eq_true (by unfold hX;omega)
  have dY:decide (hY o)=false:=decide_eq_false (by unfold hY;omega)
  have dE:decide (evO o)=false:=decide_eq_false (by unfold evO;omega)
  have v1:=hok.x1 (by unfold hX;omega)
  have u1:=v1.2.1
  have w1:=v1.1
  have k2:=hok.k2 (Or.inr c)
  have N:At t b' (i.toNat+1) s.ld s.inn s.t V s.evs (s.regs.set o.k.toNat (xOf s o)):=nxt (L0 (by omega)) (I0 (by omega)) (T0 (by omega) (by omega) (by omega)) (V0 (by omega)) (E0 (by unfold evO;omega)) (by unfold nR;rw [if_pos c])
  simp (disch:=omega) only [RR,RB,ho,h7,hp4,hf4,hp3,hf3,dX,dY,dE,c,Int.reduceEq,List.length_cons,List.length_nil,ex (by unfold hX;omega),r4]
  repeat' apply And.intro
  all_goals first | omega | (rw [ei];exact N)
end Go.TX.F
namespace Go.TX.F
open Go Go.AE Go.TX
theorem afR (i:Ins):Px (std 0) (i,()) (fun _=>True):=by
 dsimp only [Px,Alg.cl,Alg.cg,Alg.rb,Alg.bd,Alg.l1,Tup.q,Tup.o]
 simp (disch:=omega) only [RR]
theorem afS {p1:Int×Int×Int×Unit→Bool} {f1:Int×Int×Int×Unit→Bool×Unit} (hp1:∀a b c,p1 (a,b,c,())=true) (hf1:∀a b c,f1 (a,b,c,())=(inB a b c,())) {p2:Ins×Unit→Bool} {f2:Ins×Unit→Bool×Unit} (hp2:∀i,p2 (i,())=true) (i:Ins):Py (std 0) p1 f1 p2 f2 (i,()) (fun _=>True):=by
 dsimp only [Py,Alg.cl,Alg.cg,Alg.rb,Alg.bd,Alg.l1,Tup.q,Tup.o]
 simp (disch:=omega) only [RR,hp1,hp2]
theorem afT (i:Int):Pz (std 0) (i,()) (fun _=>True):=by
 dsimp only [Pz,Alg.cl,Alg.cg,Alg.rb,Alg.bd,Alg.l1,Tup.q,Tup.o]
theorem afU {p1:Int×Unit→Bool} {f1:Int×Unit→Bool×Unit} (hp1:∀i,p1 (i,())=true) {p2:Ins×Unit→Bool} {f2:Ins×Unit→Bool×Unit} (hp2:∀i,p2 (i,())=true) (i:Ins):PD (std 0) p1 f1 p2 f2 (i,()) (fun _=>True):=by
 dsimp only [PD,Alg.cl,Alg.cg,Alg.rb,Alg.bd,Alg.l1,Tup.q,Tup.o]
 simp (disch:=omega) only [RR,hp1,hp2]
theorem afV {p1:Int×Unit→Bool} {f1:Int×Unit→Bool×Unit} (hp1:∀i,p1 (i,())=true) {p2:Ins×Unit→Bool} {f2:Ins×Unit→Bool×Unit} (hp2:∀i,p2 (i,())=true) {p3:Int×Int×Int×Unit→Bool} {f3:Int×Int×Int×Unit→Bool×Unit} (hp3:∀a b c,p3 (a,b,c,())=true) (hf3:∀a b c,f3 (a,b,c,())=(inB a b c,())) {p4:Ins×Unit→Bool} {f4:Ins×Unit→Bool×Unit} (hp4:∀i,p4 (i,())=true) (pc:Int) (l:List Ins) (hl:(l.length:Int)<1000):PU (std 0) p1 f1 p2 f2 p3 f3 p4 f4 (pc,l,()) (fun _=>True):=by
 dsimp only [PU,Alg.cl,Alg.cg,Alg.rb,Alg.bd,Alg.l1,Tup.q,Tup.o]
 simp (disch:=omega) only [RR,hp1,hp2,hp3,hp4]
 refine fun _=> ?_
 refine ay (fun(y:List Ins×Int×Unit)=>y.1=l∧0≤y.2.1) (fun y=>((l.length:Int)-y.2.1).toNat) ⟨rfl,by simp⟩ ?_
 rintro⟨(l':List Ins),(j:Int),⟨⟩⟩ hI
 dsimp only at hI ⊢
 obtain⟨rfl,h1⟩:=hI
 simp (disch:=omega) only [RR,hp1,hp2,hp3,hp4,or_true]
 refine fun h=>⟨h1,h,by omega,by omega,by omega,by omega,fun _=> ?_⟩
 rw [w64 (by omega) (by omega)];constructor<;>omega
theorem YR (a1 a2 a3 a4 a5 a6:Int) (o:IOp) (ops:List IOp) (hl:(ops.length:Int)<1000000):PW (std 0) (a1,a2,a3,a4,a5,a6,o,ops,()) (fun y=>(y.2.2.2.2.2.2.2.1.length:Int)=ops.length+1):=by
 dsimp only [PW,Alg.cl,Alg.cg,Alg.rb,Alg.bd,Alg.l1,Tup.q,Tup.o]
 simp (disch:=omega) only [RR,List.length_append,List.length_cons,List.length_nil]
 omega
theorem YS {p1:Int×Int×Int×Int×Int×Int×IOp×List IOp×Unit→Bool} {f1:Int×Int×Int×Int×Int×Int×IOp×List IOp×Unit→Int×Int×Int×Int×Int×Int×Int×List IOp×Unit} (hp1:∀a1 a2 a3 a4 a5 a6 o ops,(ops.length:Int)<1000000→p1 (a1,a2,a3,a4,a5,a6,o,ops,())=true) (hf1:∀a1 a2 a3 a4 a5 a6 o ops,(ops.length:Int)<1000000→((f1 (a1,a2,a3,a4,a5,a6,o,ops,())).2.2.2.2.2.2.2.1.length:Int)=ops.length+1) (a1 a2 a3 a4 a5 a6:Int) (k:Int) (ops:List IOp) (hl:(ops.length:Int)<1000000):PY (std 0) p1 f1 (a1,a2,a3,a4,a5,a6,k,ops,()) (fun y=>(y.2.2.2.2.2.2.2.1.length:Int)=ops.length+1):=by
 dsimp only [PY,Alg.cl,Alg.cg,Alg.rb,Alg.bd,Alg.l1,Tup.q,Tup.o]
 simp (disch:=omega) only [RR,hp1,hf1]
theorem YT {p1:Int×Int×Int×Int×Int×Int×IOp×List IOp×Unit→Bool} {f1:Int×Int×Int×Int×Int×Int×IOp×List IOp×Unit→Int×Int×Int×Int×Int×Int×Int×List IOp×Unit} (hp1:∀a1 a2 a3 a4 a5 a6 o ops,(ops.length:Int)<1000000→p1 (a1,a2,a3,a4,a5,a6,o,ops,())=true) (hf1:∀a1 a2 a3 a4 a5 a6 o ops,(ops.length:Int)<1000000→((f1 (a1,a2,a3,a4,a5,a6,o,ops,())).2.2.2.2.2.2.2.1.length:Int)=ops.length+1) (a1 a2 a3 a4 a5 a6:Int) (k x:Int) (ops:List IOp) (hl:(ops.length:Int)<1000000):PX (std 0) p1 f1 (a1,a2,a3,a4,a5,a6,k,x,ops,()) (fun y=>(y.2.2.2.2.2.2.1.length:Int)=ops.length+1):=by
 dsimp only [PX,Alg.cl,Alg.cg,Alg.rb,Alg.bd,Alg.l1,Tup.q,Tup.o]
 simp (disch:=omega) only [RR,hp1,hf1]
theorem afW {p1:Int×Int×Int×Int×Int×Int×Int×List IOp×Unit→Bool} {f1:Int×Int×Int×Int×Int×Int×Int×List IOp×Unit→Int×Int×Int×Int×Int×Int×Int×List IOp×Unit} (hp1:∀a1 a2 a3 a4 a5 a6 k ops,(ops.length:Int)<1000000→p1 (a1,a2,a3,a4,a5,a6,k,ops,())=true) (hf1:∀a1 a2 a3 a4 a5 a6 k ops,(ops.length:Int)<1000000→((f1 (a1,a2,a3,a4,a5,a6,k,ops,())).2.2.2.2.2.2.2.1.length:Int)=ops.length+1) {p2:Int×Int×Int×Int×Int×Int×IOp×List IOp×Unit→Bool} {f2:Int×Int×Int×Int×Int×Int×IOp×List IOp×Unit→Int×Int×Int×Int×Int×Int×Int×List IOp×Unit} (hp2:∀a1 a2 a3 a4 a5 a6 o ops,(ops.length:Int)<1000000→p2 (a1,a2,a3,a4,a5,a6,o,ops,())=true) (hf2:∀a1 a2 a3 a4 a5 a6 o ops,(ops.length:Int)<1000000→((f2 (a1,a2,a3,a4,a5,a6,o,ops,())).2.2.2.2.2.2.2.1.length:Int)=ops.length+1) (a1 a2 a3 a4 a5 a6:Int) (k a:Int) (o:IOp) (ops:List IOp) (hl:(ops.length:Int)<999000):PZ (std 0) p1 f1 p2 f2 (a1,a2,a3,a4,a5,a6,k,a,o,ops,()) (fun y=>(y.2.2.2.2.2.2.2.1.length:Int)=ops.length+3):=by
 dsimp only [PZ,Alg.cl,Alg.cg,Alg.rb,Alg.bd,Alg.l1,Tup.q,Tup.o]
 simp (disch:=(first | omega | (simp (disch:=(first | omega | (simp (disch:=(first | omega | (simp (disch:=omega) only [hf1,hf2];omega))) only [hf1,hf2];omega))) only [hf1,hf2];omega))) only [RR,hp1,hp2,hf1,hf2]
 omega
theorem afX {p1:Int×Int×Int×Int×Int×Int×Int×List IOp×Unit→Bool} {f1:Int×Int×Int×Int×Int×Int×Int×List IOp×Unit→Int×Int×Int×Int×Int×Int×Int×List IOp×Unit} (hp1:∀a1 a2 a3 a4 a5 a6 k ops,(ops.length:Int)<1000000→p1 (a1,a2,a3,a4,a5,a6,k,ops,())=true) (hf1:∀a1 a2 a3 a4 a5 a6 k ops,(ops.length:Int)<1000000→((f1 (a1,a2,a3,a4,a5,a6,k,ops,())).2.2.2.2.2.2.2.1.length:Int)=ops.length+1) {p2:Int×Int×Int×Int×Int×Int×IOp×List IOp×Unit→Bool} {f2:Int×Int×Int×Int×Int×Int×IOp×List IOp×Unit→Int×Int×Int×Int×Int×Int×Int×List IOp×Unit} (hp2:∀a1 a2 a3 a4 a5 a6 o ops,(ops.length:Int)<1000000→p2 (a1,a2,a3,a4,a5,a6,o,ops,())=true) (hf2:∀a1 a2 a3 a4 a5 a6 o ops,(ops.length:Int)<1000000→((f2 (a1,a2,a3,a4,a5,a6,o,ops,())).2.2.2.2.2.2.2.1.length:Int)=ops.length+1) {p3:Int×Int×Int×Int×Int×Int×Int×Int×IOp×List IOp×Unit→Bool} {f3:Int×Int×Int×Int×Int×Int×Int×Int×IOp×List IOp×Unit→Int×Int×Int×Int×Int×Int×Int×List IOp×Unit} (hp3:∀a1 a2 a3 a4 a5 a6 k a o ops,(ops.length:Int)<999000→p3 (a1,a2,a3,a4,a5,a6,k,a,o,ops,())=true) (hf3:∀a1 a2 a3 a4 a5 a6 k a o ops,(ops.length:Int)<999000→((f3 (a1,a2,a3,a4,a5,a6,k,a,o,ops,())).2.2.2.2.2.2.2.1.length:Int)=ops.length+3) {p4:Int×Int×Int×Int×Int×Int×Int×Int×List IOp×Unit→Bool} {f4:Int×Int×Int×Int×Int×Int×Int×Int×List IOp×Unit→Int×Int×Int×Int×Int×Int×List IOp×Unit} (hp4:∀a1 a2 a3 a4 a5 a6 k x ops,(ops.length:Int)<1000000→p4 (a1,a2,a3,a4,a5,a6,k,x,ops,())=true) (hf4:∀a1 a2 a3 a4 a5 a6 k x ops,(ops.length:Int)<1000000→((f4 (a1,a2,a3,a4,a5,a6,k,x,ops,())).2.2.2.2.2.2.1.length:Int)=ops.length+1) (a1 a2 a3 a4 a5 a6:Int) (i:Ins) (k:Int) (ops:List IOp) (hl:(ops.length:Int)<998000):P6 (std 0) p1 f1 p2 f2 p3 f3 p4 f4 (a1,a2,a3,a4,a5,a6,i,k,ops,()) (fun y=>(y.2.2.2.2.2.2.1.length:Int)=ops.length+5):=by
 dsimp only [P6,Alg.cl,Alg.cg,Alg.rb,Alg.bd,Alg.l1,Tup.q,Tup.o]
 simp (disch:=(first | omega | (simp (disch:=(first | omega | (simp (disch:=(first | omega | (simp (disch:=omega) only [hf1,hf2,hf3,hf4];omega))) only [hf1,hf2,hf3,hf4];omega))) only [hf1,hf2,hf3,hf4];omega))) only [RR,hp1,hp2,hp3,hp4,hf1,hf2,hf3,hf4]
 constructor<;>intro _<;>omega
theorem YU {p1:Int×Int×Int×Int×Int×Int×Int×List IOp×Unit→Bool} {f1:Int×Int×Int×Int×Int×Int×Int×List IOp×Unit→Int×Int×Int×Int×Int×Int×Int×List IOp×Unit} (hp1:∀a1 a2 a3 a4 a5 a6 k ops,(ops.length:Int)<1000000→p1 (a1,a2,a3,a4,a5,a6,k,ops,())=true) (hf1:∀a1 a2 a3 a4 a5 a6 k ops,(ops.length:Int)<1000000→((f1 (a1,a2,a3,a4,a5,a6,k,ops,())).2.2.2.2.2.2.2.1.length:Int)=ops.length+1) (a1 a2 a3 a4 a5 a6:Int) (i:Ins) (ops:List IOp) (hl:(ops.length:Int)<999000):P7 (std 0) p1 f1 (a1,a2,a3,a4,a5,a6,i,ops,()) (fun y=>(y.2.2.2.2.2.2.1.length:Int)≤ops.length+5):=by
 dsimp only [P7,Alg.cl,Alg.cg,Alg.rb,Alg.bd,Alg.l1,Tup.q,Tup.o]
 simp (disch:=(first | omega | (simp (disch:=(first | omega | (simp (disch:=(first | omega | (simp (disch:=omega) only [hf1];omega))) only [hf1];omega))) only [hf1];omega))) only [RR,hp1,hf1]
 refine⟨fun _=>by omega,fun _=>⟨fun _=>by omega,fun _=>by omega⟩⟩
theorem afY (k:Int) (hk:k<1000):P5 (std 0) (k,()) (fun _=>True):=by
 dsimp only [P5,Alg.cl,Alg.cg,Alg.rb,Alg.bd,Alg.l1,Tup.q,Tup.o]
 simp (disch:=omega) only [RR]
 refine ay (fun(y:Int×Int×Int×Unit)=>y.1=k∧0≤y.2.2.1) (fun y=>(k-y.2.2.1).toNat) ⟨rfl,by simp⟩ ?_
 rintro⟨(k':Int),(z:Int),(j:Int),⟨⟩⟩ hI
 dsimp only at hI ⊢
 obtain⟨rfl,h1⟩:=hI
 simp (disch:=omega) only [RR]
 refine fun h=> ?_
 rw [w64 (by omega) (by omega)];constructor<;>omega
theorem afZ {p1:Int×Int×Int×Int×Int×Int×Int×List IOp×Unit→Bool} {f1:Int×Int×Int×Int×Int×Int×Int×List IOp×Unit→Int×Int×Int×Int×Int×Int×Int×List IOp×Unit} (hp1:∀a1 a2 a3 a4 a5 a6 k ops,(ops.length:Int)<1000000→p1 (a1,a2,a3,a4,a5,a6,k,ops,())=true) (hf1:∀a1 a2 a3 a4 a5 a6 k ops,(ops.length:Int)<1000000→((f1 (a1,a2,a3,a4,a5,a6,k,ops,())).2.2.2.2.2.2.2.1.length:Int)=ops.length+1) {p2:Int×Int×Int×Int×Int×Int×Ins×List IOp×Unit→Bool} {f2:Int×Int×Int×Int×Int×Int×Ins×List IOp×Unit→Int×Int×Int×Int×Int×Int×List IOp×Unit} (hp2:∀a1 a2 a3 a4 a5 a6 i ops,(ops.length:Int)<999000→p2 (a1,a2,a3,a4,a5,a6,i,ops,())=true) (hf2:∀a1 a2 a3 a4 a5 a6 i ops,(ops.length:Int)<999000→((f2 (a1,a2,a3,a4,a5,a6,i,ops,())).2.2.2.2.2.2.1.length:Int)≤ops.length+5) {p3:Int×Int×Int×Int×Int×Int×IOp×List IOp×Unit→Bool} {f3:Int×Int×Int×Int×Int×Int×IOp×List IOp×Unit→Int×Int×Int×Int×Int×Int×Int×List IOp×Unit} (hp3:∀a1 a2 a3 a4 a5 a6 o ops,(ops.length:Int)<1000000→p3 (a1,a2,a3,a4,a5,a6,o,ops,())=true) (hf3:∀a1 a2 a3 a4 a5 a6 o ops,(ops.length:Int)<1000000→((f3 (a1,a2,a3,a4,a5,a6,o,ops,())).2.2.2.2.2.2.2.1.length:Int)=ops.length+1) {p4:Int×Int×Int×Int×Int×Int×Ins×Int×List IOp×Unit→Bool} {f4:Int×Int×Int×Int×Int×Int×Ins×Int×List IOp×Unit→Int×Int×Int×Int×Int×Int×List IOp×Unit} (hp4:∀a1 a2 a3 a4 a5 a6 i k ops,(ops.length:Int)<998000→p4 (a1,a2,a3,a4,a5,a6,i,k,ops,())=true) (hf4:∀a1 a2 a3 a4 a5 a6 i k ops,(ops.length:Int)<998000→((f4 (a1,a2,a3,a4,a5,a6,i,k,ops,())).2.2.2.2.2.2.1.length:Int)=ops.length+5) {p5:Int×Int×Int×Int×Int×Int×Int×Int×IOp×List IOp×Unit→Bool} {f5:Int×Int×Int×Int×Int×Int×Int×Int×IOp×List IOp×Unit→Int×Int×Int×Int×Int×Int×Int×List IOp×Unit} (hp5:∀a1 a2 a3 a4 a5 a6 k a o ops,(ops.length:Int)<999000→p5 (a1,a2,a3,a4,a5,a6,k,a,o,ops,())=true) (hf5:∀a1 a2 a3 a4 a5 a6 k a o ops,(ops.length:Int)<999000→((f5 (a1,a2,a3,a4,a5,a6,k,a,o,ops,())).2.2.2.2.2.2.2.1.length:Int)=ops.length+3) {p6:Int×Int×Int×Int×Int×Int×Int×Int×List IOp×Unit→Bool} {f6:Int×Int×Int×Int×Int×Int×Int×Int×List IOp×Unit→Int×Int×Int×Int×Int×Int×List IOp×Unit} (hp6:∀a1 a2 a3 a4 a5 a6 k x ops,(ops.length:Int)<1000000→p6 (a1,a2,a3,a4,a5,a6,k,x,ops,())=true) (hf6:∀a1 a2 a3 a4 a5 a6 k x ops,(ops.length:Int)<1000000→((f6 (a1,a2,a3,a4,a5,a6,k,x,ops,())).2.2.2.2.2.2.1.length:Int)=ops.length+1) {p7:Int×Unit→Bool} {f7:Int×Unit→Int×Unit} (hp7:∀k,k<1000→p7 (k,())=true) (a1 a2 a3 a4 a5 a6:Int) (i:Ins) (k:Int) (ops:List IOp) (hk:i.k<1000) (hl:(ops.length:Int)<997000):P8 (std 0) p1 f1 p2 f2 p3 f3 p4 f4 p5 f5 p6 f6 p7 f7 (a1,a2,a3,a4,a5,a6,i,k,ops,()) (fun y=>(y.2.2.2.2.2.2.1.length:Int)≤ops.length+5):=by
 have e4:=fun i k=>hf4 a1 a2 a3 a4 a5 a6 i k ops (by omega)
 have e2:=fun i=>hf2 a1 a2 a3 a4 a5 a6 i ops (by omega)
 dsimp only [P8,Alg.cl,Alg.cg,Alg.rb,Alg.bd,Alg.l1,Tup.q,Tup.o]
 simp (disch:=(first | omega | (simp (disch:=(first | omega | (simp (disch:=(first | omega | (simp (disch:=omega) only [hf1,hf3,hf5,RB];omega))) only [hf1,hf3,hf5,RB];omega))) only [hf1,hf3,hf5,RB];omega))) only [RR,RB,hp1,hp2,hp3,hp4,hp5,hp6,hp7,hf1,hf3,hf4,hf5,hf6]
 have:=e2 i
 repeat' (first | (refine⟨?_,?_⟩) | intro _)
 all_goals omega
def KB (l:List Ins):Prop:=∀i∈l,i.k<1000
theorem KB.at {l:List Ins} (h:KB l) (n:Nat):(l.getD n default).k<1000:=by
 by_cases h1:n<l.length
 ·rw [getD_lt h1];exact h _ (List.getElem_mem _)
 ·simp only [List.getD,List.getElem?_eq_none (by omega:l.length≤n)];decide
theorem af0 {p1:Int×List Ins×Unit→Bool} {f1:Int×List Ins×Unit→Bool×Unit} (hp1:∀pc l,(l.length:Int)<1000→p1 (pc,l,())=true) {p2:Int×Int×Int×Int×Int×Int×Ins×Int×List IOp×Unit→Bool} {f2:Int×Int×Int×Int×Int×Int×Ins×Int×List IOp×Unit→Int×Int×Int×Int×Int×Int×List IOp×Unit} (hp2:∀a1 a2 a3 a4 a5 a6 i k ops,i.k<1000→(ops.length:Int)<997000→p2 (a1,a2,a3,a4,a5,a6,i,k,ops,())=true) (hf2:∀a1 a2 a3 a4 a5 a6 i k ops,i.k<1000→(ops.length:Int)<997000→((f2 (a1,a2,a3,a4,a5,a6,i,k,ops,())).2.2.2.2.2.2.1.length:Int)≤ops.length+5) (pc:Int) (l:List Ins) (hl:(l.length:Int)<1000) (hk:KB l):P9 (std 0) p1 f1 p2 f2 (pc,l,()) (fun y=>(y.2.2.2.2.2.2.1.length:Int)≤5000):=by
 dsimp only [P9,Alg.cl,Alg.cg,Alg.rb,Alg.bd,Alg.l1,Tup.q,Tup.o]
 simp (disch:=omega) only [RR,hp1,List.length_nil]
 refine⟨fun _=>by omega,fun _=> ?_⟩
 refine ay (fun(y:List Ins×Int×Int×Int×Int×Int×Int×Int×Int×Int×Int×Int×Int×Int×List IOp×Unit)=>y.1=l∧0≤y.2.1∧y.2.1≤l.length∧(y.2.2.2.2.2.2.2.2.2.2.2.2.2.2.1.length:Int)≤5*y.2.1) (fun y=>((l.length:Int)-y.2.1).toNat) ⟨rfl,by simp,by simp,by simp⟩ ?_
 rintro⟨(l':List Ins),(j:Int),u1,u2,u3,u4,u5,u6,b1,b2,b3,b4,b5,b6,(ops:List IOp),⟨⟩⟩ hI
 dsimp only at hI ⊢
 obtain⟨rfl,h1,h2,h3⟩:=hI
 have hk':=hk.at j.toNat
 simp (disch:=omega) only [RR,hp2]
 refine⟨fun h=> ?_,fun h=>by omega⟩
 have:=hf2 b1 b2 b3 b4 b5 b6 ((l').getD (j).toNat default) j ops hk' (by omega)
 exact⟨h1,h,⟨by omega,by omega,by omega⟩,by omega⟩
end Go.TX.F
namespace Go.TX.F
open Go Go.AE Go.TX
structure InD (m:Int) (b:List Int) (p:Int) (y:Int×Int×Int×Int×List Int×Int×Unit):Prop where
 b:y.2.2.2.2.1=b
 lo:p≤y.2.2.2.2.2.1
 hi:y.2.2.2.2.2.1≤p+m
 k:0≤y.2.2.2.1∧y.2.2.2.1≤255
@[reducible] def af2 : List Int → Prop
 | []=>True
 | x::l=>(0≤x∧x≤255)∧af2 l
theorem NJ:∀(l:List Int) (n:Nat),af2 l→0≤l.getD n default∧l.getD n default≤255
 | [],n,_=>by simp only [List.getD_nil];decide
 | x::l,0,h=>h.1
 | x::l,n+1,h=>NJ l n h.2
theorem pkR {f1:Int×List Int×Int×Unit→Int×List Int×Int×Unit} {b:List Int} (hb:Bt b) (hf1:∀n b p,Bt b→0≤p→p<1000000000→Pk n b p (f1 (n,b,p,()))):
  (∀n p,0≤p→p<1000000000→(f1 (n,b,p,())).2.1=b)∧(∀n p,0≤p→p<1000000000→(f1 (n,b,p,())).2.2.1=p+1)∧
  (∀n p,0≤p→p<1000000000→(0≤(f1 (n,b,p,())).1)=True)∧(∀n p k,0≤p→p<1000000000→n≤k→0<k→((f1 (n,b,p,())).1<k)=True)∧
  (∀n p k,0≤p→p<1000000000→n≤k+1→0≤k→((f1 (n,b,p,())).1≤k)=True):=
 ⟨fun n p h1 h2=>(hf1 n b p hb h1 h2).1,fun n p h1 h2=>(hf1 n b p hb h1 h2).2.1,fun n p h1 h2=>eq_true (hf1 n b p hb h1 h2).2.2.1,
  fun n p k h1 h2 h3 h4=>eq_true (by have:=(hf1 n b p hb h1 h2).2.2;omega),fun n p k h1 h2 h3 h4=>eq_true (by have:=(hf1 n b p hb h1 h2).2.2;omega)⟩
theorem af3 {p1:Int×List Int×Int×Unit→Bool} {f1:Int×List Int×Int×Unit→Int×List Int×Int×Unit} (hp1:∀n b p,Bt b→0≤p→p<1000000000→p1 (n,b,p,())=true) (hf1:∀n b p,Bt b→0≤p→p<1000000000→Pk n b p (f1 (n,b,p,()))) (b:List Int) (p:Int) (hb:Bt b) (h1:0≤p) (h2:p<900000000):Pw (std 0) p1 f1 (b,p,()) (fun y=>InD 20 b p y):=by
 have R:=pkR hb hf1
 have P:=fun n p h1 h2=>hp1 n b p hb h1 h2
 dsimp only [Pw,Alg.cl,Alg.cg,Alg.rb,Alg.bd,Alg.l1,Tup.q,Tup.o]
 simp (disch:=omega) only [RR,R,P,List.length_cons,List.length_nil]
 repeat' (first | (refine⟨?_,?_⟩) | intro _)
 all_goals try omega
 all_goals refine⟨rfl,by dsimp only;omega,by dsimp only;omega,?_⟩
 all_goals dsimp only
 all_goals first | omega | (refine NJ _ _ ?_;simp (disch:=omega) only [af2,R,Int.reduceLE,and_self,true_and,and_true]) | (simp (disch:=omega) only [R,Int.reduceLE,and_self,true_and,and_true])
theorem af4 {p1:List Int×Int×Unit→Bool} {f1:List Int×Int×Unit→Int×Int×Int×Int×List Int×Int×Unit} (hp1:∀b p,Bt b→0≤p→p<900000000→p1 (b,p,())=true) (hf1:∀b p,Bt b→0≤p→p<900000000→InD 20 b p (f1 (b,p,()))) {p2:Int×List Int×Int×Unit→Bool} {f2:Int×List Int×Int×Unit→Int×List Int×Int×Unit} (hp2:∀n b p,Bt b→0≤p→p<1000000000→p2 (n,b,p,())=true) (hf2:∀n b p,Bt b→0≤p→p<1000000000→Pk n b p (f2 (n,b,p,()))) {p3:Ins×Unit→Bool} {f3:Ins×Unit→Bool×Unit} (hp3:∀i,p3 (i,())=true) (b:List Int) (p:Int) (hb:Bt b) (h1:0≤p) (h2:p<800000000):PL (std 0) p1 f1 p2 f2 p3 f3 (b,p,()) (fun y=>InD 30 b p y):=by
 obtain⟨a1,a2,a3,a4⟩:=hf1 b p hb h1 (by omega)
 have R:=pkR hb hf2
 have P:=fun n p h1 h2=>hp2 n b p hb h1 h2
 dsimp only [PL,Alg.cl,Alg.cg,Alg.rb,Alg.bd,Alg.l1,Tup.q,Tup.o]
 simp (disch:=omega) only [RR,hp1 b p hb h1 (by omega),hp3,a1,R,P]
 refine⟨fun _=>⟨rfl,by dsimp only;omega,by dsimp only;omega,?_⟩,fun _=>⟨rfl,a2,by dsimp only;omega,a4⟩⟩
 dsimp only
 simp (disch:=omega) only [R,Int.reduceLE,and_self]
structure LiD (b:List Int) (p:Int) (y:List Int×Int×List Ins×Unit):Prop where
 b:y.1=b
 lo:p≤y.2.1
 hi:y.2.1≤p+1000
 len:(y.2.2.1.length:Int)≤20
 k:KB y.2.2.1
theorem KB.app {l:List Ins} {i:Ins} (h:KB l) (h2:i.k≤255):KB (l++ [i]):=fun x hx=>by
 rw [List.mem_append,List.mem_singleton]at hx
 rcases hx with hx | rfl
 ·exact h x hx
 ·omega
theorem af5 {p1:List Int×Int×Unit→Bool} {f1:List Int×Int×Unit→Int×Int×Int×Int×List Int×Int×Unit} (hp1:∀b p,Bt b→0≤p→p<800000000→p1 (b,p,())=true) (hf1:∀b p,Bt b→0≤p→p<800000000→InD 30 b p (f1 (b,p,()))) {p2:Int×List Int×Int×Unit→Bool} {f2:Int×List Int×Int×Unit→Int×List Int×Int×Unit} (hp2:∀n b p,Bt b→0≤p→p<1000000000→p2 (n,b,p,())=true) (hf2:∀n b p,Bt b→0≤p→p<1000000000→Pk n b p (f2 (n,b,p,()))) (b:List Int) (p:Int) (hb:Bt b) (h1:0≤p) (h2:p<700000000):PS (std 0) p1 f1 p2 f2 (b,p,()) (fun y=>LiD b p y):=by
 obtain⟨e1,e2,e3,e4⟩:=hf2 8 b p hb h1 (by omega)
 dsimp only [PS,Alg.cl,Alg.cg,Alg.rb,Alg.bd,Alg.l1,Tup.q,Tup.o]
 simp (disch:=omega) only [RR,hp2 8 b p hb h1 (by omega),e1,e2]
 refine ay (fun(y:Int×List Int×Int×List Ins×Unit)=>0≤y.1∧y.1≤8∧y.2.1=b∧p≤y.2.2.1∧y.2.2.1+40*y.1≤p+400∧(y.2.2.2.1.length:Int)+y.1≤8∧KB y.2.2.2.1) (fun y=>y.1.toNat)
  ⟨e3,by dsimp only;omega,rfl,by dsimp only;omega,by dsimp only;omega,by dsimp only [List.length_nil];omega,fun x hx=>by cases hx⟩ ?_
 rintro⟨(k:Int),(b':List Int),(q:Int),(l:List Ins),⟨⟩⟩ hI
 dsimp only at hI ⊢
 obtain⟨k1,k2,rfl,k3,k4,k5,k6⟩:=hI
 have R:=pkR hb hf2
 have P:=fun n p h1 h2=>hp2 n b' p hb h1 h2
 obtain⟨a1,a2,a3,a4⟩:=hf1 b' q hb (by omega) (by omega)
 obtain⟨b1,b2,b3,b4⟩:=hf1 b' (q+1) hb (by omega) (by omega)
 simp (disch:=omega) only [RR,RB,hp1 b' q hb (by omega) (by omega),hp1 b' (q+1) hb (by omega) (by omega),a1,b1,R,P,List.length_cons,List.length_nil,List.length_append]
 refine⟨fun c=>⟨by omega,⟨by omega,by omega,by omega,by omega,by omega,k6.app a4.2⟩,by omega⟩,fun c=>⟨fun _=>⟨by omega,rfl,by dsimp only;omega,by dsimp only;omega,?_,?_⟩,fun _=>⟨fun _=>⟨by omega,rfl,by dsimp only;omega,by dsimp only;omega,?_,?_⟩,fun _=>⟨by omega,rfl,by dsimp only;omega,by dsimp only;omega,?_,?_⟩⟩⟩⟩
 ·dsimp only;rw [List.length_append];simp only [List.length_cons,List.length_nil];omega
 ·refine k6.app ?_
  dsimp only
  simp (disch:=omega) only [R]
 ·dsimp only;rw [List.length_append];simp only [List.length_cons,List.length_nil];omega
 ·exact k6.app (by dsimp only;omega)
 ·dsimp only;rw [List.length_append];simp only [List.length_cons,List.length_nil];omega
 ·exact k6.app b4.2
end Go.TX.F
namespace Go.TX.F
open Go Go.AE Go.TX
theorem YV (b:Blk) (hb:b.ops.length<1000000):Qa (std 0) (b,()) (fun y=>y=(b.pc,b.len,b.fin,b.x,b.y,b.k,b.ops,())):=by
 dsimp only [Qa,Alg.cl,Alg.cg,Alg.rb,Alg.bd,Alg.l1,Tup.q,Tup.o]
 simp (disch:=omega) only [RR,RB,List.nil_append,List.length_nil]
 omega
def kn (ops:List IOp) (k:Int):Int×Bool:=if 0≤k∧k<ops.length∧(((ops).getD (k).toNat default)).kind=1 then((((ops).getD (k).toNat default)).k,true)else(0,false)
@[reducible] def bk7 (b : Blk) : Int × Int × Int × Int × Int × Int × List IOp × Unit := (b.pc, b.len, b.fin, b.x, b.y, b.k, b.ops, ())
structure FE (b:Blk):Prop where
 f:1≤b.fin∧b.fin≤4
 x:b.fin≠1→0≤b.x∧b.x<b.ops.length
 y:3≤b.fin→0≤b.y∧b.y<b.ops.length
 y0:b.fin≤2→b.y=0
 p:0≤b.pc∧b.pc≤100∧0≤b.len∧b.len≤100
theorem YW (ops:List IOp) (k:Int):Qm (std 0) (ops,k,()) (fun y=>y=((kn ops k).1,(kn ops k).2,())):=by
 dsimp only [Qm,Alg.cl,Alg.cg,Alg.rb,Alg.bd,Alg.l1,Tup.q,Tup.o]
 simp (disch:=omega) only [RR,RB]
 unfold kn
 refine⟨by omega,by omega,fun h=> ?_,fun h=>⟨by omega,by omega,?_⟩⟩
 ·rw [if_neg (by omega)]
 ·rw [if_pos (by omega)]
theorem YX (b:Blk) (k:Int):Qn (std 0) (b,k,()) (fun y=>y=(b.pc,b.len,b.ops,1,0,0,k,())):=by
 dsimp only [Qn,Alg.cl,Alg.cg,Alg.rb,Alg.bd,Alg.l1,Tup.q,Tup.o]
 simp (disch:=omega) only [RR,RB]
theorem af6 {p1:Blk×Int×Unit→Bool} {f1:Blk×Int×Unit→Int×Int×List IOp×Int×Int×Int×Int×Unit} (hp1:∀b k,p1 (b,k,())=true) (hf1:∀b k,f1 (b,k,())=(b.pc,b.len,b.ops,1,0,0,k,())) {p2:List IOp×Int×Unit→Bool} {f2:List IOp×Int×Unit→Int×Bool×Unit} (hp2:∀ops k,p2 (ops,k,())=true) (hf2:∀ops k,f2 (ops,k,())=((kn ops k).1,(kn ops k).2,())) (b:Blk) (h:FE b):Qo (std 0) p1 f1 p2 f2 (b,()) (fun y=>y=(fcB b b.ops,())):=by
 have hp:=h.p
 have hf:=h.f
 have k1:b.fin≠1→kn b.ops b.x=if(((b.ops).getD (b.x).toNat default)).kind=1 then((((b.ops).getD (b.x).toNat default)).k,true)else(0,false):=fun c=>by
  have:=h.x c
  unfold kn;simp only [this,true_and]
 have k2:3≤b.fin→kn b.ops b.y=if(((b.ops).getD (b.y).toNat default)).kind=1 then((((b.ops).getD (b.y).toNat default)).k,true)else(0,false):=fun c=>by
  have:=h.y c
  unfold kn;simp only [this,true_and]
 have y0:=h.y0
 have mkE:∀p l o f x y k,Co.mk .blk (p,l,o,f,x,y,k,())=Blk.mk p l o f x y k:=fun _ _ _ _ _ _ _=>rfl
 dsimp only [Qo,Alg.cl,Alg.cg,Alg.rb,Alg.bd,Alg.l1,Tup.q,Tup.o]
 simp (disch:=omega) only [RR,RB,hp1,hf1,hp2,hf2,mkE,Bool.and_eq_false_iff]
 by_cases c1:b.fin=1
 ·have e:fcB b b.ops=b:=by unfold fcB;rw [if_neg (by omega),if_neg (by omega)]
  rw [e]
  refine⟨fun h=>absurd h.1 (by omega),fun _=>⟨fun h=>absurd h.1.1.1 (by omega),fun _=>⟨fun h=>absurd h.1.1.1 (by omega),fun _=>⟨fun h=>absurd h.1.1 (by omega),fun _=>rfl⟩⟩⟩⟩
 ·rw [k1 c1]
  by_cases c2:b.fin=2
  ·by_cases d:(((b.ops).getD (b.x).toNat default)).kind=1
   ·have e:fcB b b.ops=⟨b.pc,b.len,b.ops,1,0,0,(((b.ops).getD (b.x).toNat default)).k⟩:=by unfold fcB;rw [if_pos ⟨c2,d⟩,y0 (by omega)]
    rw [if_pos d,e]
    refine⟨fun _=>rfl,fun h=> ?_⟩
    rcases h with h | h
    ·exact absurd c2 h
    ·cases h
   ·have e:fcB b b.ops=b:=by unfold fcB;rw [if_neg (fun g=>d g.2),if_neg (by omega)]
    rw [if_neg d,e]
    refine⟨fun h=>absurd h.2 (by decide),fun _=>⟨fun h=>absurd h.1.1.1 (by omega),fun _=>⟨fun h=>absurd h.1.1.1 (by omega),fun _=>⟨fun h=>absurd h.1.1 (by omega),fun _=>rfl⟩⟩⟩⟩
  ·rw [k2 (by omega)]
   refine⟨fun h=>absurd h.1 c2,fun _=> ?_⟩
   by_cases d:(((b.ops).getD (b.x).toNat default)).kind=1∧(((b.ops).getD (b.y).toNat default)).kind=1
   ·have e:fcB b b.ops=⟨b.pc,b.len,b.ops,1,0,0,if b.fin=3∧(((b.ops).getD (b.x).toNat default)).k=(((b.ops).getD (b.y).toNat default)).k∨b.fin=4∧(((b.ops).getD (b.x).toNat default)).k< (((b.ops).getD (b.y).toNat default)).k then b.k else b.pc+b.len⟩:=by
     unfold fcB;rw [if_neg (by omega),if_pos ⟨by omega,d⟩]
    rw [if_pos d.1,if_pos d.2,e]
    dsimp only
    simp only [and_true,Bool.true_eq_false,or_false,Prod.mk.injEq,Blk.mk.injEq,true_and]
    refine⟨fun h=>⟨fun _=>by rw [if_pos (Or.inl h)],fun g=>by omega⟩,fun h=>⟨fun g=>by rw [if_pos (Or.inr g)],fun g=>⟨fun _=>by rw [if_neg (by omega)],fun q=>by omega⟩⟩⟩
   ·have e:fcB b b.ops=b:=by unfold fcB;rw [if_neg (by omega),if_neg (fun g=>d g.2)]
    rw [e]
    have n:¬((if(((b.ops).getD (b.x).toNat default)).kind=1 then((((b.ops).getD (b.x).toNat default)).k,true)else((0:Int),false)).2=true∧(if(((b.ops).getD (b.y).toNat default)).kind=1 then((((b.ops).getD (b.y).toNat default)).k,true)else((0:Int),false)).2=true):=fun⟨g1,g2⟩=>by
     split at g1
     ·split at g2
      ·exact d ⟨by assumption,by assumption⟩
      ·cases g2
     ·cases g1
    exact⟨fun h=>absurd ⟨h.1.1.2,h.1.2⟩ n,fun _=>⟨fun h=>absurd ⟨h.1.1.2,h.1.2⟩ n,fun _=>⟨fun h=>absurd ⟨h.1.2,h.2⟩ n,fun _=>rfl⟩⟩⟩
theorem YZ {p1:Int×Int×Int×Unit→Bool} {f1:Int×Int×Int×Unit→Bool×Unit} (hp1:∀a b c,p1 (a,b,c,())=true) (hf1:∀a b c,f1 (a,b,c,())=(inB a b c,())) (o:IOp) (al:List Int) (hk:1≤o.kind∧o.kind≤8) (hx:hX o→0≤o.x∧o.x< (al.length:Int)) (hy:hY o→0≤o.y∧o.y< (al.length:Int)):Qb (std 0) p1 f1 (o,al,()) (fun y=>y=(ren al o,())):=by
 dsimp only [Qb,Alg.cl,Alg.cg,Alg.rb,Alg.bd,Alg.l1,Tup.q,Tup.o]
 simp (disch:=omega) only [RR,RB,hp1,hf1,eX,rz]
 have X:((3≤o.kind∧o.kind≤5)∨o.kind=7)∨o.kind=8→hX o:=fun c=>by unfold hX;omega
 have Xn:(¬(3≤o.kind∧o.kind≤5)∧¬o.kind=7)∧¬o.kind=8→¬hX o:=fun c g=>by unfold hX at g;omega
 unfold ren
 refine⟨fun c=>⟨(hx (X c)).1,(hx (X c)).2,fun d=>⟨(hy d).1,(hy d).2,?_⟩,fun d=> ?_⟩,fun c=>⟨fun d=>⟨(hy d).1,(hy d).2,?_⟩,fun d=> ?_⟩⟩
 ·rw [if_pos (X c),if_pos (show hY o from d)]
 ·rw [if_pos (X c),if_neg (show¬hY o from fun g=>g.elim d.1 d.2)]
 ·rw [if_neg (Xn c),if_pos (show hY o from d)]
 ·rw [if_neg (Xn c),if_neg (show¬hY o from fun g=>g.elim d.1 d.2)]
theorem Y0 (ops:List IOp) (k:Int) (h0:0≤k) (h1:k<ops.length) (h2:(ops.length:Int)<1000000):Qk (std 0) (ops,k,()) (fun y=>y=(qb (ops.drop (k.toNat+1)) (((ops).getD (k).toNat default)).k,())):=by
 dsimp only [Qk,Alg.cl,Alg.cg,Alg.rb,Alg.bd,Alg.l1,Tup.q,Tup.o]
 simp (disch:=omega) only [RR,RB]
 refine ay (fun(y:List IOp×Int×Int×Unit)=>y.1=ops∧y.2.1=k∧0≤y.2.2.1∧y.2.2.1≤ops.length∧qb (ops.drop (k.toNat+1)) (((ops).getD (k).toNat default)).k=qb (ops.drop y.2.2.1.toNat) (((ops).getD (k).toNat default)).k) (fun y=>((ops.length:Int)-y.2.2.1).toNat) ⟨rfl,rfl,by dsimp only;omega,by dsimp only;omega,by dsimp only;rw [show(k+1).toNat=k.toNat+1 by omega]⟩ ?_
 rintro⟨(l:List IOp),(k':Int),(j:Int),⟨⟩⟩ hI
 dsimp only at hI ⊢
 obtain⟨rfl,rfl,h3,h4,h5⟩:=hI
 rw [h5]
 simp (disch:=omega) only [RR,RB,Bool.and_eq_false_iff]
 have st:j<l.length→qb (l.drop j.toNat) (((l).getD (k').toNat default)).k=if(((l).getD (j).toNat default)).kind=4∨(((l).getD (j).toNat default)).kind=5∨(((l).getD (j).toNat default)).kind=2∧(((l).getD (j).toNat default)).k=(((l).getD (k').toNat default)).k then false else if(((l).getD (j).toNat default)).kind=8∧(((l).getD (j).toNat default)).k=(((l).getD (k').toNat default)).k then true else qb (l.drop (j+1).toNat) (((l).getD (k').toNat default)).k:=fun h=>by
  rw [List.drop_eq_getElem_cons (show j.toNat<l.length by omega),QS,←getD_lt (d:=default) (show j.toNat<l.length by omega),show(j+1).toNat=j.toNat+1 by omega]
 refine⟨fun h=>⟨h3,h,by omega,by omega,by omega,by omega,by omega,by omega,by omega,by omega,fun c=> ?_,fun c=>⟨h3,h,by omega,by omega,by omega,by omega,fun d=> ?_,fun d=>⟨⟨by omega,by omega,?_⟩,by omega⟩⟩⟩,fun h=> ?_⟩
 ·rw [st h,if_pos (by omega)]
 ·rw [st h,if_neg (by omega),if_pos (by omega)]
 ·rw [st h,if_neg (by omega),if_neg (by omega)]
 ·rw [List.drop_of_length_le (by omega)];rfl
@[reducible] def amK (z : Int × Int × Int × Int × Int × Int × List IOp × Unit) : Blk := ⟨z.1, z.2.1, z.2.2.2.2.2.2.1, z.2.2.1, z.2.2.2.1, z.2.2.2.2.1, z.2.2.2.2.2.1⟩
theorem af7 {p1:Blk×Unit→Bool} {f1:Blk×Unit→Blk×Unit} (hp1:∀b,b.ops.length<1000000→p1 (b,())=true) (hf1:∀b,b.ops.length<1000000→f1 (b,())=(eO b,())) {p2:Blk×Unit→Bool} {f2:Blk×Unit→Int×Int×Int×Int×Int×Int×List IOp×Unit} (hp2:∀b,b.ops.length<1000000→p2 (b,())=true) (hf2:∀b,b.ops.length<1000000→f2 (b,())=bk7 (cB b)) {p3:Blk×Unit→Bool} {f3:Blk×Unit→Int×Int×Int×Int×Int×Int×List IOp×Unit} (hp3:∀b,b.ops.length<1000000→p3 (b,())=true) (hf3:∀b,b.ops.length<1000000→f3 (b,())=bk7 (nN b)) {p4:Blk×Unit→Bool} {f4:Blk×Unit→Int×Int×Int×Int×Int×Int×List IOp×Unit} (hp4:∀b,b.ops.length<1000000→p4 (b,())=true) (hf4:∀b,b.ops.length<1000000→f4 (b,())=bk7 (vH b)) (b:Blk) (hb:b.ops.length<1000000):Qs (std 0) p1 f1 p2 f2 p3 f3 p4 f4 (b,()) (fun y=>y=bk7 (Jl b)):=by
 have m1:(cB b).ops.length<1000000:=Nat.lt_of_le_of_lt (qO b) hb
 have m2:=Nat.lt_of_le_of_lt (Bb (cB b)) m1
 have m3:=Nat.lt_of_le_of_lt (xU (eO (cB b))) m2
 have m4:=Nat.lt_of_le_of_lt (Fw (nN (eO (cB b)))) m3
 have mkE:∀c:Blk,Co.mk .blk (c.pc,c.len,c.ops,c.fin,c.x,c.y,c.k,())=c:=fun _=>rfl
 dsimp only [Qs,Alg.cl,Alg.cg,Alg.rb,Alg.bd,Alg.l1,Tup.q,Tup.o]
 simp (disch:=omega) only [RR,hp2 b hb,hf2 b hb,mkE,hp1 _ m1,hf1 _ m1,hp3 _ m2,hf3 _ m2,hp4 _ m3,hf4 _ m3,hp3 _ m4,hf3 _ m4]
 rfl
theorem Y1 {α:Type} {d:α} {f l:List α} {k:Nat} (hf:f.length=k) (h:k<l.length):(f++l.drop k).getD k d=l.getD k d:=by
 rw [getD_lt (by rw [List.length_append,List.length_drop];omega),getD_lt h,List.getElem_append_right (by omega),List.getElem_drop]
 simp only [hf,Nat.sub_self,Nat.add_zero]
theorem af8 {α:Type} {d:α} {f l:List α} {k j:Nat} (hf:f.length=k) (h:j<k):(f++l.drop k).getD j d=f.getD j d:=by
 rw [getD_lt (by rw [List.length_append];omega),getD_lt (by omega),List.getElem_append_left]
theorem Td {α:Type} {x:α} {f l:List α} {k:Nat} (hf:f.length=k) (h:k<l.length):(f++l.drop k).set k x=(f++ [x])++l.drop (k+1):=by
 rw [List.set_append_right _ _ (by omega),hf,Nat.sub_self,List.drop_eq_getElem_cons h,List.set_cons_zero,List.append_assoc];rfl
theorem Y2 {α:Type} {d:α} {f l:List α} {k:Nat} (h:k<l.length):f++l.drop k=(f++ [l.getD k d])++l.drop (k+1):=by
 rw [List.drop_eq_getElem_cons h,getD_lt h,List.append_assoc];rfl
theorem Te {α:Type} {f l:List α} {k:Nat} (hf:f.length=k) (h:k≤l.length):(f++l.drop k).length=l.length:=by
 rw [List.length_append,hf,List.length_drop];omega
theorem bZ.fe {b:Blk} (ok:bZ b) {f:List IOp} (h:f.length=b.ops.length):FE ⟨b.pc,b.len,f,b.fin,b.x,b.y,b.k⟩:=by
 have en:=ok.en
 have hp:=ok.pc
 have hl:=ok.ln
 exact⟨en.f,fun c=>⟨(en.x1 c).1,by dsimp only;rw [h];exact(en.x1 c).2.1⟩,fun c=>⟨(en.y1 c).1,by dsimp only;rw [h];exact(en.y1 c).2.1⟩,en.y0,by dsimp only;omega⟩
theorem af9 {p1:Blk×Unit→Bool} {f1:Blk×Unit→Bool×Unit} (hp1:∀b,b.ops.length<1000000000→p1 (b,())=true) (hf1:∀b,b.ops.length<1000000000→f1 (b,())=(bp (bZ b),())) {p2:Int×Int×Int×Unit→Bool} {f2:Int×Int×Int×Unit→Int×Unit} (hp2:∀op a b,p2 (op,a,b,())=true) (hf2:∀op a b,f2 (op,a,b,())=(wdo op a b,())) {p3:Blk×Unit→Bool} {f3:Blk×Unit→Blk×Unit} (hp3:∀b,FE b→p3 (b,())=true) (hf3:∀b,FE b→f3 (b,())=(fcB b b.ops,())) {p4:List IOp×Int×Unit→Bool} {f4:List IOp×Int×Unit→Int×Bool×Unit} (hp4:∀ops k,p4 (ops,k,())=true) (hf4:∀ops k,f4 (ops,k,())=((kn ops k).1,(kn ops k).2,())) {p5:Blk×Unit→Bool} {f5:Blk×Unit→Int×Int×Int×Int×Int×Int×List IOp×Unit} (hp5:∀b,b.ops.length<1000000→p5 (b,())=true) (hf5:∀b,b.ops.length<1000000→f5 (b,())=(b.pc,b.len,b.fin,b.x,b.y,b.k,b.ops,())) (b:Blk) (hb:b.ops.length<1000000):Qr (std 0) p1 f1 p2 f2 p3 f3 p4 f4 p5 f5 (b,()) (fun y=>y=(eO b,())):=by
 have mkE:∀p l o f x y k,Co.mk .blk (p,l,o,f,x,y,k,())=Blk.mk p l o f x y k:=fun _ _ _ _ _ _ _=>rfl
 dsimp only [Qr,Alg.cl,Alg.cg,Alg.rb,Alg.bd,Alg.l1,Tup.q,Tup.o]
 simp (disch:=omega) only [RR,RB,hp1 b (by omega),hf1 b (by omega),hp5 b hb,hf5 b hb,mkE]
 refine⟨fun h=>by unfold eO;rw [h,if_neg (by decide)];rfl,fun h=> ?_⟩
 have ok:=bK.1 h
 rw [Jm ok]
 refine ay (fun(y:Int×Int×Int×Int×Int×Int×Int×Int×Int×Int×Int×Int×Int×List IOp×Unit)=>0≤y.1∧y.1≤b.ops.length∧y.2.2.2.2.2.2.2=(b.pc,b.len,b.fin,b.x,b.y,b.k,fc b.ops y.1.toNat++b.ops.drop y.1.toNat,())) (fun y=>((b.ops.length:Int)-y.1).toNat) ⟨by dsimp only;omega,by dsimp only;omega,rfl⟩ ?_
 rintro⟨(k:Int),u1,u2,u3,u4,u5,u6,b1,b2,b3,b4,b5,b6,(ops:List IOp),⟨⟩⟩ hI
 dsimp only at hI ⊢
 simp only [Prod.mk.injEq,and_true]at hI
 obtain⟨h1,h2,rfl,rfl,rfl,rfl,rfl,rfl,rfl⟩:=hI
 have fl:=oW b.ops k.toNat
 have ln:=Te (l:=b.ops) fl (by omega)
 simp (disch:=omega) only [RR,RB,hp4,hf4,hp2,hf2,ln,mkE]
 refine⟨fun h=> ?_,fun h=> ?_⟩
 ·have o:=ok.op k h1 h
  have ek:=Y1 (d:=default) (l:=b.ops) fl (by omega)
  have kv:∀x:Int,Vl b.ops x k→kn (fc b.ops k.toNat++b.ops.drop k.toNat) x=if((((fc b.ops k.toNat)).getD (x).toNat default)).kind=1 then(((((fc b.ops k.toNat)).getD (x).toNat default)).k,true)else(0,false):=fun x v=>by
   have v0:=v.1
   have v1:=v.2.1
   unfold kn
   rw [af8 fl (by omega)]
   simp only [show 0≤x∧x< ((fc b.ops k.toNat++b.ops.drop k.toNat).length:Int)from⟨v0,by omega⟩,true_and]
  have nx:fc b.ops (k+1).toNat=fc b.ops k.toNat++ [fcO (fc b.ops k.toNat) ((b.ops).getD (k).toNat default)]:=by rw [show(k+1).toNat=k.toNat+1 by omega];rfl
  rw [ek]
  have hk:=Y2 (d:=default) (f:=fc b.ops k.toNat) (l:=b.ops) (k:=k.toNat) (by omega)
  have hs:=fun x=>Td (x:=x) (l:=b.ops) fl (by omega)
  rw [nx,show(k+1).toNat=k.toNat+1 by omega]
  generalize ((b.ops).getD (k).toNat default)=q at o hk ⊢
  have vx:=fun c=>o.x1 c
  have vy:=fun c=>o.y1 c
  refine⟨h1,h,h1,h,fun c=>⟨h1,h,h1,h,⟨by omega,by omega,?_⟩,by omega⟩,fun c=>⟨⟨by omega,by omega,?_⟩,by omega⟩⟩
  ·have k1:=kv _ (o.x1 (by unfold hX;omega))
   have k2:=kv _ (o.y1 (Or.inl c.1.1))
   rw [k1,k2]at c ⊢
   by_cases d1:((((fc b.ops k.toNat)).getD (q.x).toNat default)).kind=1
   ·by_cases d2:((((fc b.ops k.toNat)).getD (q.y).toNat default)).kind=1
    ·rw [if_pos d1,if_pos d2,hs]
     have e:fcO (fc b.ops k.toNat) q=⟨1,0,0,wdo q.k ((((fc b.ops k.toNat)).getD (q.x).toNat default)).k ((((fc b.ops k.toNat)).getD (q.y).toNat default)).k,0⟩:=by unfold fcO;rw [if_pos ⟨c.1.1,d1,d2⟩]
     rw [e]
    ·rw [if_neg d2]at c;exact absurd c.2 (by decide)
   ·rw [if_neg d1]at c;exact absurd c.1.2 (by decide)
  ·have e:fcO (fc b.ops k.toNat) q=q:=by
    unfold fcO
    refine if_neg ?_
    rintro⟨d0,d1,d2⟩
    rw [kv _ (o.x1 (by unfold hX;omega)),kv _ (o.y1 (Or.inl d0)),if_pos d1,if_pos d2,decide_eq_true d0]at c
    cases c
   rw [e,hk]
 ·have e:fc b.ops k.toNat++b.ops.drop k.toNat=fc b.ops b.ops.length:=by rw [List.drop_of_length_le (by omega),List.append_nil,show k.toNat=b.ops.length by omega]
  rw [e]
  have fe:=ok.fe (oW b.ops b.ops.length)
  rw [hf3 _ fe]
  exact⟨hp3 _ fe,rfl⟩
theorem Y3 {a b:List Bool} (h:a.length=b.length) (g:∀t:Nat,t<a.length→(a.getD t default=true↔b.getD t default=true)):a=b:=by
 refine List.ext_getElem h fun i h1 h2=> ?_
 have:=g i h1
 rw [getD_lt h1,getD_lt h2]at this
 exact Bool.eq_iff_iff.2 this
theorem aga {p1:Blk×Unit→Bool} {f1:Blk×Unit→Bool×Unit} (hp1:∀b,b.ops.length<1000000000→p1 (b,())=true) (hf1:∀b,b.ops.length<1000000000→f1 (b,())=(bp (bZ b),())) {p2:Int×Int×Int×Unit→Bool} {f2:Int×Int×Int×Unit→Bool×Unit} (hp2:∀a b c,p2 (a,b,c,())=true) (hf2:∀a b c,f2 (a,b,c,())=(inB a b c,())) (b:Blk) (hb:b.ops.length<1000000):Qg (std 0) p1 f1 p2 f2 (b,()) (fun y=>y=(BJ b,())):=by
 dsimp only [Qg,Alg.cl,Alg.cg,Alg.rb,Alg.bd,Alg.l1,Tup.q,Tup.o]
 simp (disch:=omega) only [RR,RB,hp1 b (by omega),hf1 b (by omega)]
 unfold BJ
 refine⟨fun h=>by rw [h,if_neg (by decide)],fun h=> ?_⟩
 rw [if_pos h]
 have ok:=bK.1 h
 have n48:=ok.sz
 have en:=ok.en
 refine ay (fun(y:Int×Blk×List Bool×Unit)=>0≤y.1∧y.1≤b.ops.length∧y.2.1=b∧(y.2.2.1.length:Int)=y.1∧∀t:Nat,t<y.2.2.1.length→(y.2.2.1.getD t default=true↔4≤(b.ops.getD t default).kind)) (fun y=>((b.ops.length:Int)-y.1).toNat) ⟨by dsimp only;omega,by dsimp only;omega,rfl,rfl,fun t h=>absurd h (by simp)⟩ ?_
 rintro⟨(k:Int),(b':Blk),(kp:List Bool),⟨⟩⟩ hI
 dsimp only at hI ⊢
 obtain⟨h1,h2,rfl,h3,h4⟩:=hI
 simp (disch:=omega) only [RR,RB,List.length_append,List.length_cons,List.length_nil]
 refine⟨fun h=>⟨h1,h,by omega,⟨by omega,by omega,by omega,fun t ht=> ?_⟩,by omega⟩,fun h=> ?_⟩
 ·rw [iJ]
  rcases(by omega:t<kp.length∨t=kp.length)with c | c
  ·rw [if_pos c];exact h4 t c
  ·rw [if_neg (by omega),if_pos c,decide_eq_true_eq,c,show k.toNat=kp.length by omega]
 have ex:¬b'.fin=1→0≤b'.x∧b'.x<kp.length:=fun c=>by have:=ok.en.x1 c;exact⟨this.1,by have:=this.2.1;omega⟩
 have ey:b'.fin=3∨b'.fin=4→0≤b'.y∧b'.y<kp.length:=fun c=>by have:=ok.en.y1 (by omega);exact⟨this.1,by have:=this.2.1;omega⟩
 have ff:=en.f
 have u0:=S9 ok
 have kl:kp.length=b'.ops.length:=by omega
 rw [kl]at h4
 refine⟨fun c=>⟨(ex c).1,(ex c).2,(ex c).1,(ex c).2,fun c2=>⟨(ey c2).1,by rw [List.length_set];exact(ey c2).2,(ey c2).1,by rw [List.length_set];exact(ey c2).2,?_⟩,fun c2=> ?_⟩,fun c=>⟨fun c2=>absurd c2 (by omega),fun c2=> ?_⟩⟩
 all_goals
  refine ay (fun(y:Int×Blk×List Bool×Unit)=> -1≤y.1∧y.1<b'.ops.length∧y.2.1=b'∧y.2.2.1.length=b'.ops.length∧∀t:Nat,t<b'.ops.length→(y.2.2.1.getD t default=true↔(us b' (b'.ops.length-1-y.1).toNat).getD t default=true∨4≤(b'.ops.getD t default).kind)) (fun y=>(y.1+1).toNat) ⟨by dsimp only;omega,by dsimp only;omega,rfl,by simp only [List.length_set];omega,fun t ht=> ?_⟩ ?_
  ·dsimp only
   rw [show(b'.ops.length-1- ((b'.ops.length:Int)-1)).toNat=0 by omega]
   show _↔(us0 b').getD t default=true∨_
   have q:=h4 t ht
   have r:=u0 t
   first
    | (rw [QO (by rw [List.length_set];have:=ey c2;omega),QO (by have:=ex c;omega),q,r];grind)
    | (rw [QO (by have:=ex c;omega),q,r];grind)
    | (rw [q,r];grind)
  rintro⟨(j:Int),(b2:Blk),(ms:List Bool),⟨⟩⟩ hI
  dsimp only at hI ⊢
  obtain⟨j0,j1,rfl,j3,j4⟩:=hI
  simp (disch:=omega) only [RR,RB,hp2,hf2,eX,rz,List.length_set]
  have ul:=Ac b2 (b2.ops.length-1-j).toNat
  have us1:0≤j→∀t:Nat,((us b2 (b2.ops.length-1- (j-1)).toNat).getD t default=true↔(us b2 (b2.ops.length-1-j).toNat).getD t default=true∨((us b2 (b2.ops.length-1-j).toNat).getD j.toNat default=true∨4≤(((b2.ops).getD (j).toNat default)).kind)∧(t=j.toNat∨hX (((b2.ops).getD (j).toNat default))∧t=(((b2.ops).getD (j).toNat default)).x.toNat∨hY (((b2.ops).getD (j).toNat default))∧t=(((b2.ops).getD (j).toNat default)).y.toNat)):=fun g t=>by
   have o:=ok.op j g j1
   rw [show(b2.ops.length-1- (j-1)).toNat=(b2.ops.length-1-j).toNat+1 by omega]
   show(usO (b2.ops.getD (b2.ops.length-1- (b2.ops.length-1-j).toNat) default) (b2.ops.length-1- (b2.ops.length-1-j).toNat) _).getD t default=true↔_
   rw [show b2.ops.length-1- (b2.ops.length-1-j).toNat=j.toNat by omega]
   exact SY (by omega) (fun c=>by have:=o.x1 c;have g0:=this.1;have g1:=this.2.1;omega) (fun c=>by have:=o.y1 c;have g0:=this.1;have g1:=this.2.1;omega)
  have ue:¬0≤j→(us b2 (b2.ops.length-1-j).toNat)=us b2 b2.ops.length:=fun g=>by rw [show(b2.ops.length-1-j).toNat=b2.ops.length by omega]
  generalize us b2 (b2.ops.length-1-j).toNat=U at us1 j4 ue
  refine⟨fun g=> ?_,fun g=>congrArg (fun m:List Bool=>(m,())) (Y3 (b:=us b2 b2.ops.length) (by rw [Ac];exact j3) fun t ht=> ?_)⟩
  ·have o:=ok.op j g j1
   have X:hX (((b2.ops).getD (j).toNat default))→0≤(((b2.ops).getD (j).toNat default)).x∧(((b2.ops).getD (j).toNat default)).x<ms.length:=fun c=>by have:=o.x1 c;have g0:=this.1;have g1:=this.2.1;omega
   have Y:hY (((b2.ops).getD (j).toNat default))→0≤(((b2.ops).getD (j).toNat default)).y∧(((b2.ops).getD (j).toNat default)).y<ms.length:=fun c=>by have:=o.y1 c;have g0:=this.1;have g1:=this.2.1;omega
   have us1:=us1 g
   have qj:=j4 j.toNat (by omega)
   have kd:=o.kd
   generalize ((b2.ops).getD (j).toNat default)=q at*
   have cx:((3≤q.kind∧q.kind≤5)∨q.kind=7)∨q.kind=8↔hX q:=by unfold hX;omega
   have cn:(¬(3≤q.kind∧q.kind≤5)∧¬q.kind=7)∧¬q.kind=8↔¬hX q:=by unfold hX;omega
   have cy:q.kind=3∨q.kind=5↔hY q:=Iff.rfl
   have dn:¬q.kind=3∧¬q.kind=5↔¬hY q:=by unfold hY;omega
   rw [cx,cn,cy,dn]
   generalize hX q=HX at*
   generalize hY q=HY at*
   refine⟨g,j1,g,by omega,g,by omega,fun c=>⟨⟨by omega,by omega,j3,fun t ht=> ?_⟩,by omega⟩,fun c=>⟨fun d=>⟨(X d).1,(X d).2,(X d).1,(X d).2,fun e=>⟨(Y e).1,(Y e).2,(Y e).1,(Y e).2,⟨by omega,by omega,j3,fun t ht=> ?_⟩,by omega⟩,fun e=>⟨⟨by omega,by omega,j3,fun t ht=> ?_⟩,by omega⟩⟩,fun d=>⟨fun e=>⟨(Y e).1,(Y e).2,(Y e).1,(Y e).2,⟨by omega,by omega,j3,fun t ht=> ?_⟩,by omega⟩,fun e=>⟨⟨by omega,by omega,j3,fun t ht=> ?_⟩,by omega⟩⟩⟩⟩
   ·rw [us1,j4 t ht];rw [c]at qj;grind
   ·rw [QO (by rw [List.length_set];have:=Y e;omega),QO (by have:=X d;omega),us1,j4 t ht];grind
   ·rw [QO (by have:=X d;omega),us1,j4 t ht];grind
   ·rw [QO (by have:=Y e;omega),us1,j4 t ht];grind
   ·rw [us1,j4 t ht];grind
  ·rw [j4 t (by omega),ue g]
   exact⟨fun h=>h.elim id ((amr ok).k t (Nat.zero_le _) (by omega)),Or.inl⟩
end Go.TX.F
namespace Go.TX.F
open Go Go.AE Go.TX
theorem abr {ops:List IOp} {kp:List Bool} {len:Int} {k n:Nat} {o:IOp} (ho:Bu ops len k o) (h:k<n):ren (kpS ops kp (k+1)).1 o=ren (kpS ops kp n).1 o:=by
 have p:=(abn ops kp (show k+1≤n by omega)).2
 have l:=(y9 ops kp (k+1)).1
 have e:∀x:Int,Vl ops x k→(((kpS ops kp (k+1)).1).getD (x).toNat default)=(((kpS ops kp n).1).getD (x).toNat default):=fun x v=>by
  have g0:=v.1
  have g1:=v.2.1
  exact(YK p (by omega)).symm
 have ox:=ho.x1
 have oy:=ho.y1
 unfold ren
 congr 1
 ·split
  ·rename_i c;exact e _ (ox c)
  ·rfl
 ·split
  ·rename_i c;exact e _ (oy c)
  ·rfl
theorem agb {p1:IOp×List Int×Unit→Bool} {f1:IOp×List Int×Unit→IOp×Unit} (hp1:∀o al,(1≤o.kind∧o.kind≤8)→(hX o→0≤o.x∧o.x< (al.length:Int))→(hY o→0≤o.y∧o.y< (al.length:Int))→p1 (o,al,())=true) (hf1:∀o al,(1≤o.kind∧o.kind≤8)→(hX o→0≤o.x∧o.x< (al.length:Int))→(hY o→0≤o.y∧o.y< (al.length:Int))→f1 (o,al,())=(ren al o,())) (b:Blk) (kp:List Bool) (ok:bZ b) (hk:kp.length=b.ops.length):Qf (std 0) p1 f1 (b,kp,()) (fun y=>y=bk7 (Ba b kp)):=by
 have n48:=ok.sz
 dsimp only [Qf,Alg.cl,Alg.cg,Alg.rb,Alg.bd,Alg.l1,Tup.q,Tup.o]
 simp (disch:=omega) only [RR,RB]
 refine ay (fun(y:List Bool×Int×Blk×Int×Int×Int×Int×Int×Int×List IOp×List Int×Unit)=>y.1=kp∧0≤y.2.1∧y.2.1≤b.ops.length∧y.2.2.1=b∧y.2.2.2.2.2.2.2.2.2.1=(kpS b.ops kp y.2.1.toNat).2.map (ren (kpS b.ops kp b.ops.length).1)∧y.2.2.2.2.2.2.2.2.2.2.1=(kpS b.ops kp y.2.1.toNat).1) (fun y=>((b.ops.length:Int)-y.2.1).toNat) ⟨rfl,by dsimp only;omega,by dsimp only;omega,rfl,rfl,rfl⟩ ?_
 rintro⟨(kp':List Bool),(k:Int),(b':Blk),u1,u2,u3,u4,u5,u6,(out:List IOp),(to:List Int),⟨⟩⟩ hI
 dsimp only at hI ⊢
 obtain⟨rfl,h1,h2,rfl,rfl,rfl⟩:=hI
 obtain⟨l1,l2⟩:=y9 b'.ops kp' k.toNat
 have l3:=(y9 b'.ops kp' (k+1).toNat).1
 have nx:(kpS b'.ops kp' (k+1).toNat).1=(kpS b'.ops kp' k.toNat).1++ [((kpS b'.ops kp' k.toNat).2.length:Int)]:=by rw [show(k+1).toNat=k.toNat+1 by omega];rfl
 have r:k<b'.ops.length→ren (kpS b'.ops kp' (k+1).toNat).1 ((b'.ops).getD (k).toNat default)=ren (kpS b'.ops kp' b'.ops.length).1 ((b'.ops).getD (k).toNat default):=fun h=>by
  rw [show(k+1).toNat=k.toNat+1 by omega]
  exact abr (by rw [show((k.toNat:Nat):Int)=k by omega];exact ok.op k h1 h) (by omega)
 have s:(kpS b'.ops kp' (k+1).toNat).2=if kp'.getD k.toNat default=true then(kpS b'.ops kp' k.toNat).2++ [((b'.ops).getD (k).toNat default)]else(kpS b'.ops kp' k.toNat).2:=by rw [show(k+1).toNat=k.toNat+1 by omega];rfl
 have fin:¬k<b'.ops.length→kpS b'.ops kp' k.toNat=kpS b'.ops kp' b'.ops.length:=fun h=>by rw [show k.toNat=b'.ops.length by omega]
 have kb:Ba b' kp'=QJ (kpS b'.ops kp' b'.ops.length).1 b' (kpS b'.ops kp' b'.ops.length).2:=rfl
 rw [kb]
 generalize kpS b'.ops kp' b'.ops.length=N at r fin ⊢
 generalize hT:kpS b'.ops kp' (k+1).toNat=T at l3 nx r s ⊢
 generalize kpS b'.ops kp' k.toNat=S at l1 l2 nx s fin ⊢
 have en:=ok.en
 have ex:¬k<b'.ops.length→¬b'.fin=1→0≤b'.x∧b'.x< (S.1.length:Int):=fun h c=>by have:=en.x1 c;exact⟨this.1,by have:=this.2.1;omega⟩
 have ey:¬k<b'.ops.length→b'.fin=3∨b'.fin=4→0≤b'.y∧b'.y< (S.1.length:Int):=fun h c=>by have:=en.y1 (by omega);exact⟨this.1,by have:=this.2.1;omega⟩
 simp (disch:=omega) only [RR,RB,List.length_append,List.length_cons,List.length_nil,List.length_map,I7,←nx]
 refine⟨fun h=> ?_,fun h=> ?_⟩
 ·have op:=ok.op k h1 h
  have a2:hX (((b'.ops).getD (k).toNat default))→0≤(((b'.ops).getD (k).toNat default)).x∧(((b'.ops).getD (k).toNat default)).x< (T.1.length:Int):=fun c=>⟨(op.x1 c).1,by have:=(op.x1 c).2.1;omega⟩
  have a3:hY (((b'.ops).getD (k).toNat default))→0≤(((b'.ops).getD (k).toNat default)).y∧(((b'.ops).getD (k).toNat default)).y< (T.1.length:Int):=fun c=>⟨(op.y1 c).1,by have:=(op.y1 c).2.1;omega⟩
  have P:=hp1 _ T.1 op.kd a2 a3
  rw [hf1 _ T.1 op.kd a2 a3,hT,s,r h]
  refine⟨by omega,h1,by omega,fun c=>⟨h1,h,P,by omega,⟨by omega,by omega,?_⟩,by omega⟩,fun c=>⟨⟨by omega,by omega,?_⟩,by omega⟩⟩
  ·rw [if_pos c,List.map_append];exact⟨rfl,rfl⟩
  ·rw [c,if_neg (by decide)];exact⟨rfl,rfl⟩
 ·have ex:=ex h
  have ey:=ey h
  rw [fin h]at ex ey ⊢
  unfold bk7 QJ
  refine⟨fun c=>⟨(ex c).1,(ex c).2,(ex c).1,(ex c).2,fun c2=>⟨(ey c2).1,(ey c2).2,(ey c2).1,(ey c2).2,?_⟩,fun c2=> ?_⟩,fun c=>⟨fun c2=>⟨(ey c2).1,(ey c2).2,(ey c2).1,(ey c2).2,?_⟩,fun c2=> ?_⟩⟩
  ·rw [if_neg c,if_pos (by omega)]
  ·rw [if_neg c,if_neg (by have:=en.f;omega)]
  ·exact absurd c2 (by omega)
  ·rw [if_pos c,if_neg (by omega)]
theorem agc {p1:Blk×Unit→Bool} {f1:Blk×Unit→Bool×Unit} (hp1:∀b,b.ops.length<1000000000→p1 (b,())=true) (hf1:∀b,b.ops.length<1000000000→f1 (b,())=(bp (bZ b),())) {p2:Blk×Unit→Bool} {f2:Blk×Unit→List Bool×Unit} (hp2:∀b,b.ops.length<1000000→p2 (b,())=true) (hf2:∀b,b.ops.length<1000000→f2 (b,())=(BJ b,())) {p3:Blk×List Bool×Unit→Bool} {f3:Blk×List Bool×Unit→Int×Int×Int×Int×Int×Int×List IOp×Unit} (hp3:∀b kp,bZ b→kp.length=b.ops.length→p3 (b,kp,())=true) (hf3:∀b kp,bZ b→kp.length=b.ops.length→f3 (b,kp,())=bk7 (Ba b kp)) (b:Blk) (hb:b.ops.length<1000000):Qh (std 0) p1 f1 p2 f2 p3 f3 (b,()) (fun y=>y=bk7 (nN b)):=by
 dsimp only [Qh,Alg.cl,Alg.cg,Alg.rb,Alg.bd,Alg.l1,Tup.q,Tup.o]
 simp (disch:=omega) only [RR,RB,hp1 b (by omega),hf1 b (by omega),hp2 b hb,hf2 b hb]
 unfold nN BJ
 refine⟨fun h=>by rw [h,if_neg (by decide)];rfl,fun h=> ?_⟩
 have ok:=bK.1 h
 rw [if_pos h,if_pos h,hf3 _ _ ok (Ac b _)]
 exact⟨hp3 _ _ ok (Ac b _),rfl⟩
theorem agd {p1:Blk×Unit→Bool} {f1:Blk×Unit→Bool×Unit} (hp1:∀b,b.ops.length<1000000000→p1 (b,())=true) (hf1:∀b,b.ops.length<1000000000→f1 (b,())=(bp (bZ b),())) {p2:Blk×List Bool×Unit→Bool} {f2:Blk×List Bool×Unit→Int×Int×Int×Int×Int×Int×List IOp×Unit} (hp2:∀b kp,bZ b→kp.length=b.ops.length→p2 (b,kp,())=true) (hf2:∀b kp,bZ b→kp.length=b.ops.length→f2 (b,kp,())=bk7 (Ba b kp)) {p3:List IOp×Int×Unit→Bool} {f3:List IOp×Int×Unit→Bool×Unit} (hp3:∀ops k,0≤k→k<ops.length→(ops.length:Int)<1000000→p3 (ops,k,())=true) (hf3:∀ops k,0≤k→k<ops.length→(ops.length:Int)<1000000→f3 (ops,k,())=(qb (ops.drop (k.toNat+1)) (((ops).getD (k).toNat default)).k,())) (b:Blk) (hb:b.ops.length<1000000):Ql (std 0) p1 f1 p2 f2 p3 f3 (b,()) (fun y=>y=bk7 (vH b)):=by
 dsimp only [Ql,Alg.cl,Alg.cg,Alg.rb,Alg.bd,Alg.l1,Tup.q,Tup.o]
 simp (disch:=omega) only [RR,RB,hp1 b (by omega),hf1 b (by omega)]
 unfold vH
 refine⟨fun h=>by rw [h,if_neg (by decide)];rfl,fun h=> ?_⟩
 have ok:=bK.1 h
 rw [if_pos h]
 have kl:(qN b.ops).length=b.ops.length:=by unfold qN;rw [List.length_map,List.length_range]
 refine ay (fun(y:Int×Blk×Int×Int×Int×Int×Int×Int×List Bool×Unit)=>0≤y.1∧y.1≤b.ops.length∧y.2.1=b∧y.2.2.2.2.2.2.2.2.1=(qN b.ops).take y.1.toNat) (fun y=>((b.ops.length:Int)-y.1).toNat) ⟨by dsimp only;omega,by dsimp only;omega,rfl,rfl⟩ ?_
 rintro⟨(k:Int),(b':Blk),u1,u2,u3,u4,u5,u6,(kp:List Bool),⟨⟩⟩ hI
 dsimp only at hI ⊢
 obtain⟨h1,h2,rfl,rfl⟩:=hI
 have tl:((qN b'.ops).take k.toNat).length=k.toNat:=by rw [List.length_take];omega
 simp (disch:=omega) only [RR,RB,List.length_append,List.length_cons,List.length_nil,tl]
 refine⟨fun h=>⟨h1,h,Or.inr (hp3 _ _ h1 h (by omega)),by omega,⟨by omega,by omega,?_⟩,by omega⟩,fun h=> ?_⟩
 ·rw [hf3 _ _ h1 h (by omega),show(k+1).toNat=k.toNat+1 by omega,List.take_succ_eq_append_getElem (by omega),←getD_lt (d:=default) (show k.toNat< (qN b'.ops).length by omega),UH (by omega)]
  refine congrArg (fun x=>(qN b'.ops).take k.toNat++ [x]) ?_
  rw [Bool.not_and]
 ·rw [List.take_of_length_le (by omega),hf2 _ _ ok kl]
  exact⟨hp2 _ _ ok kl,rfl⟩
theorem agf {ops:List IOp} {len:Int} {k n:Nat} {o:IOp} (ho:Bu ops len k o) (h:k≤n):ren (cpS ops k).1 o=ren (cpS ops n).1 o:=by
 have l:=(y8 ops k).1
 have e:∀x:Int,Vl ops x k→(((cpS ops k).1).getD (x).toNat default)=(((cpS ops n).1).getD (x).toNat default):=fun x v=>by
  have g0:=v.1
  have g1:=v.2.1
  exact(QK ops (by omega) h).symm
 have ox:=ho.x1
 have oy:=ho.y1
 unfold ren
 congr 1
 ·split
  ·rename_i c;exact e _ (ox c)
  ·rfl
 ·split
  ·rename_i c;exact e _ (oy c)
  ·rfl
theorem agh {p1:Blk×Unit→Bool} {f1:Blk×Unit→Bool×Unit} (hp1:∀b,b.ops.length<1000000000→p1 (b,())=true) (hf1:∀b,b.ops.length<1000000000→f1 (b,())=(bp (bZ b),())) {p2:IOp×List Int×Unit→Bool} {f2:IOp×List Int×Unit→IOp×Unit} (hp2:∀o al,(1≤o.kind∧o.kind≤8)→(hX o→0≤o.x∧o.x< (al.length:Int))→(hY o→0≤o.y∧o.y< (al.length:Int))→p2 (o,al,())=true) (hf2:∀o al,(1≤o.kind∧o.kind≤8)→(hX o→0≤o.x∧o.x< (al.length:Int))→(hY o→0≤o.y∧o.y< (al.length:Int))→f2 (o,al,())=(ren al o,())) {p3:Blk×Unit→Bool} {f3:Blk×Unit→Int×Int×Int×Int×Int×Int×List IOp×Unit} (hp3:∀b,b.ops.length<1000000→p3 (b,())=true) (hf3:∀b,b.ops.length<1000000→f3 (b,())=(b.pc,b.len,b.fin,b.x,b.y,b.k,b.ops,())) (b:Blk) (hb:b.ops.length<1000000):Qc (std 0) p1 f1 p2 f2 p3 f3 (b,()) (fun y=>y=bk7 (cB b)):=by
 dsimp only [Qc,Alg.cl,Alg.cg,Alg.rb,Alg.bd,Alg.l1,Tup.q,Tup.o]
 simp (disch:=omega) only [RR,RB,hp1 b (by omega),hf1 b (by omega),hp3 b hb,hf3 b hb,I7]
 unfold cB
 refine⟨fun h=>by rw [h,if_neg (by decide)];rfl,fun h=> ?_⟩
 have ok:=bK.1 h
 rw [if_pos h]
 have n48:=ok.sz
 refine ay (fun(y:Int×Int×Int×Int×Int×Int×Int×Int×Int×Int×Int×Int×Int×List Int×List Int×List IOp×Unit)=>0≤y.1∧y.1≤b.ops.length∧y.2.2.2.2.2.2.2=(b.pc,b.len,b.fin,b.x,b.y,b.k,(cpS b.ops y.1.toNat).1,(cpS b.ops y.1.toNat).2,(b.ops.take y.1.toNat).map (ren (cpS b.ops b.ops.length).1)++b.ops.drop y.1.toNat,())) (fun y=>((b.ops.length:Int)-y.1).toNat) ⟨by dsimp only;omega,by dsimp only;omega,rfl⟩ ?_
 rintro⟨(k:Int),u1,u2,u3,u4,u5,u6,b1,b2,b3,b4,b5,b6,(al:List Int),(la:List Int),(ops:List IOp),⟨⟩⟩ hI
 dsimp only at hI ⊢
 simp only [Prod.mk.injEq,and_true]at hI
 obtain⟨h1,h2,rfl,rfl,rfl,rfl,rfl,rfl,rfl,rfl,rfl⟩:=hI
 obtain⟨l1,l2⟩:=y8 b.ops k.toNat
 have r:=fun h:k<b.ops.length=>agf (ops:=b.ops) (k:=k.toNat) (n:=b.ops.length) (by rw [show((k.toNat:Nat):Int)=k by omega];exact ok.op k h1 h) (by omega)
 have fl:((b.ops.take k.toNat).map (ren (cpS b.ops b.ops.length).1)).length=k.toNat:=by rw [List.length_map,List.length_take];omega
 have ln:=Te (l:=b.ops) fl (by omega)
 have ek:=fun h:k<b.ops.length=>Y1 (d:=default) (l:=b.ops) fl (by omega)
 have ms:=fun x (h:k<b.ops.length)=>Td (x:=x) (l:=b.ops) fl (by omega)
 have tk:=fun h:k<b.ops.length=>(jm (d:=default) (l:=b.ops) h1 h rfl)
 have nx:k<b.ops.length→cpS b.ops (k+1).toNat=((cpS b.ops k.toNat).1++ [cpN (cpS b.ops k.toNat) k ((b.ops).getD (k).toNat default)],cpL (cpS b.ops k.toNat) k ((b.ops).getD (k).toNat default)):=fun h=>by
  rw [show(k+1).toNat=k.toNat+1 by omega,show k=((k.toNat:Nat):Int) by omega];rfl
 have fin:¬k<b.ops.length→cpS b.ops k.toNat=cpS b.ops b.ops.length:=fun h=>by rw [show k.toNat=b.ops.length by omega]
 have en:=ok.en
 by_cases h:k<b.ops.length
 ·have o:=ok.op k h1 h
  have r:=r h
  have ek:=ek h
  have nx:=nx h
  have ms:=fun x=>ms x h
  have tk:=tk h
  have a2:hX (((b.ops).getD (k).toNat default))→0≤(((b.ops).getD (k).toNat default)).x∧(((b.ops).getD (k).toNat default)).x< ((cpS b.ops k.toNat).1.length:Int):=fun c=>⟨(o.x1 c).1,by have:=(o.x1 c).2.1;omega⟩
  have a3:hY (((b.ops).getD (k).toNat default))→0≤(((b.ops).getD (k).toNat default)).y∧(((b.ops).getD (k).toNat default)).y< ((cpS b.ops k.toNat).1.length:Int):=fun c=>⟨(o.y1 c).1,by have:=(o.y1 c).2.1;omega⟩
  have P:=hp2 _ _ o.kd a2 a3
  have F:=hf2 _ _ o.kd a2 a3
  have kd:=o.k2
  have rx:(((b.ops).getD (k).toNat default)).kind=8→(ren (cpS b.ops b.ops.length).1 ((b.ops).getD (k).toNat default)).x=(((cpS b.ops k.toNat).1).getD ((((b.ops).getD (k).toNat default)).x).toNat default):=fun c=>by rw [←r];exact if_pos (by unfold hX;omega)
  rw [r]at F
  generalize hN:(cpS b.ops b.ops.length).1=N at*
  generalize hT:cpS b.ops (k+1).toNat=T at nx ⊢
  generalize cpS b.ops k.toNat=S at*
  simp (disch:=omega) only [RR,RB,ln,ek,P,F,ms,List.length_append,List.length_cons,List.length_nil,List.length_set,I7,h]
  generalize hq:((b.ops).getD (k).toNat default)=q at*
  have rk:(ren N q).kind=q.kind:=rfl
  have rkk:(ren N q).k=q.k:=rfl
  generalize hR:ren N q=R at*
  have G:∀v w,v=cpN S k q→w=cpL S k q→(b.pc,b.len,b.fin,b.x,b.y,b.k,S.1++ [v],w,((b.ops.take k.toNat).map (ren N)++ [R])++b.ops.drop (k.toNat+1),())=(b.pc,b.len,b.fin,b.x,b.y,b.k,T.1,T.2,(b.ops.take (k+1).toNat).map (ren N)++b.ops.drop (k+1).toNat,()):=fun v w e1 e2=>by
   rw [nx,e1,e2,←tk,List.map_append,show(k+1).toNat=k.toNat+1 by omega,←hR];rfl
  have ss:∀i:Int,0≤i→i<S.2.length→S.2.set i.toNat ((S.2).getD (i).toNat default)=S.2:=fun i i0 i1=>by rw [getD_lt (show i.toNat<S.2.length by omega),List.set_getElem_self]
  by_cases c2:R.kind=2
  ·have kk:=kd (Or.inl (rk▸c2))
   by_cases c3:0≤((S.2).getD (R.k).toNat default)
   ·have g:=G (((S.2).getD (R.k).toNat default)) (S.2.set R.k.toNat ((S.2).getD (R.k).toNat default)) (by unfold cpN;rw [←rk,←rkk];rw [if_pos ⟨c2,c3⟩]) (by unfold cpL;rw [←rk,←rkk];rw [if_pos c2,if_pos c3,ss _ (by omega) (by omega)])
    simp only [c2,c3,show¬((2:Int)=8) by decide,true_and,and_true,true_implies,false_implies,not_true_eq_false,not_false_eq_true,false_or,decide_true,Bool.and_self,Bool.true_eq_false,hT,g]
    omega
   ·have g:=G k (S.2.set R.k.toNat k) (by unfold cpN;rw [←rk,←rkk];rw [if_neg (fun q=>c3 q.2)]) (by unfold cpL;rw [←rk,←rkk];rw [if_pos c2,if_neg c3])
    simp only [c2,c3,show¬((2:Int)=8) by decide,true_and,and_true,and_false,true_implies,false_implies,not_true_eq_false,not_false_eq_true,false_or,decide_true,decide_false,Bool.and_false,hT,g]
    omega
  ·by_cases c8:R.kind=8
   ·have kk:=kd (Or.inr (rk▸c8))
    have g:=G k (S.2.set R.k.toNat ((S.1).getD (q.x).toNat default)) (by unfold cpN;rw [←rk,←rkk];rw [if_neg (fun q=>c2 q.1)]) (by unfold cpL;rw [←rk,←rkk];rw [if_neg c2,if_pos c8])
    rw [←rx (rk▸c8)]at g
    simp only [c8,show¬((8:Int)=2) by decide,false_and,true_and,and_true,and_false,true_implies,false_implies,not_true_eq_false,not_false_eq_true,true_or,decide_false,Bool.false_and,hT,g]
    omega
   ·have g:=G k S.2 (by unfold cpN;rw [←rk,←rkk];rw [if_neg (fun q=>c2 q.1)]) (by unfold cpL;rw [←rk,←rkk];rw [if_neg c2,if_neg c8])
    simp only [c2,c8,false_and,true_and,and_true,and_false,true_implies,false_implies,not_true_eq_false,not_false_eq_true,true_or,decide_false,Bool.false_and,hT,g]
    omega
 ·have e:=fin h
  have ex:¬b.fin=1→0≤b.x∧b.x< ((cpS b.ops k.toNat).1.length:Int):=fun c=>by have:=en.x1 c;exact⟨this.1,by have:=this.2.1;omega⟩
  have ey:b.fin=3∨b.fin=4→0≤b.y∧b.y< ((cpS b.ops k.toNat).1.length:Int):=fun c=>by have:=en.y1 (by omega);exact⟨this.1,by have:=this.2.1;omega⟩
  have ff:=en.f
  have z:(b.ops.take k.toNat).map (ren (cpS b.ops b.ops.length).1)++b.ops.drop k.toNat=b.ops.map (ren (cpS b.ops b.ops.length).1):=by rw [List.take_of_length_le (by omega),List.drop_of_length_le (by omega),List.append_nil]
  have ln:(b.ops.map (ren (cpS b.ops b.ops.length).1)).length=b.ops.length:=List.length_map _
  rw [z]
  rw [e]at ex ey ⊢
  unfold bk7 QJ
  generalize (cpS b.ops b.ops.length).1=N at*
  simp (disch:=omega) only [RR,RB,ln,h]
  refine⟨fun c=>⟨(ex c).1,(ex c).2,(ex c).1,(ex c).2,fun c2=>⟨(ey c2).1,(ey c2).2,(ey c2).1,(ey c2).2,?_⟩,fun c2=> ?_⟩,fun c=>⟨fun c2=>absurd c2 (by omega),fun c2=> ?_⟩⟩
  ·rw [if_neg c,if_pos (by omega)]
  ·rw [if_neg c,if_neg (by omega)]
  ·rw [if_pos c,if_neg (by omega)]
end Go.TX.F
namespace Go.TX.F
open Go Go.AE Go.TX
structure BkD (m:Int) (n:Nat) (b:List Int) (p:Int) (y:Int×Int×Int×Int×Int×Int×List Int×Int×List IOp×Unit):Prop where
 b:y.2.2.2.2.2.2.1=b
 lo:p≤y.2.2.2.2.2.2.2.1
 hi:y.2.2.2.2.2.2.2.1≤p+m
 len:y.2.2.2.2.2.2.2.2.1.length≤n
theorem agi {p1:Int×List Ins×Unit→Bool} {f1:Int×List Ins×Unit→Int×Int×Int×Int×Int×Int×List IOp×Unit} (hp1:∀pc l,(l.length:Int)<1000→KB l→p1 (pc,l,())=true) (hf1:∀pc l,(l.length:Int)<1000→KB l→((f1 (pc,l,())).2.2.2.2.2.2.1.length:Int)≤5000) {p2:Blk×Unit→Bool} {f2:Blk×Unit→Int×Int×Int×Int×Int×Int×List IOp×Unit} (hp2:∀b,b.ops.length<1000000→p2 (b,())=true) (hf2:∀b,b.ops.length<1000000→f2 (b,())=bk7 (Jl b)) {p3:Blk×Unit→Bool} {f3:Blk×Unit→Int×Int×Int×Int×Int×Int×List IOp×Unit} (hp3:∀b,b.ops.length<1000000→p3 (b,())=true) (hf3:∀b,b.ops.length<1000000→f3 (b,())=bk7 (cB b)) {p4:Int×List Int×Int×Unit→Bool} {f4:Int×List Int×Int×Unit→Int×List Int×Int×Unit} (hp4:∀n b p,Bt b→0≤p→p<1000000000→p4 (n,b,p,())=true) (hf4:∀n b p,Bt b→0≤p→p<1000000000→Pk n b p (f4 (n,b,p,()))) {p5:List Int×Int×Unit→Bool} {f5:List Int×Int×Unit→List Int×Int×List Ins×Unit} (hp5:∀b p,Bt b→0≤p→p<700000000→p5 (b,p,())=true) (hf5:∀b p,Bt b→0≤p→p<700000000→LiD b p (f5 (b,p,()))) (b:List Int) (p:Int) (hb:Bt b) (h1:0≤p) (h2:p<600000000):Qt (std 0) p1 f1 p2 f2 p3 f3 p4 f4 p5 f5 (b,p,()) (fun y=>BkD 2000 5000 b p y):=by
 replace hf2:=fun c h=>show(f2 (c,())).2.2.2.2.2.2.1.length≤c.ops.length by rw [hf2 c h];exact Hw c
 replace hf3:=fun c h=>show(f3 (c,())).2.2.2.2.2.2.1.length≤c.ops.length by rw [hf3 c h];exact qO c
 obtain⟨a1,a2,a3,a4,a5⟩:=hf5 b p hb h1 (by omega)
 have R:=pkR hb hf4
 have P:=fun n p h1 h2=>hp4 n b p hb h1 h2
 have L:=fun pc=>hf1 pc _ (show((f5 (b,p,())).2.2.1.length:Int)<1000 by omega) a5
 have O1:=fun c (h:c.ops.length≤5000)=>hp2 c (by omega)
 have O2:=fun c (h:c.ops.length≤5000)=>hf2 c (by omega)
 have O3:=fun c (h:c.ops.length≤5000)=>hp3 c (by omega)
 have O4:=fun c (h:c.ops.length≤5000)=>hf3 c (by omega)
 dsimp only [Qt,Alg.cl,Alg.cg,Alg.rb,Alg.bd,Alg.l1,Tup.q,Tup.o]
 simp (disch:=omega) only [RR,hp5 b p hb h1 (by omega),a1,R,P,hp1 _ _ (show((f5 (b,p,())).2.2.1.length:Int)<1000 by omega) a5,List.length_cons,List.length_nil]
 have L':∀pc,(f1 (pc,(f5 (b,p,())).2.2.1,())).2.2.2.2.2.2.1.length≤5000:=fun pc=>by have:=L pc;omega
 refine⟨fun _=>⟨O1 _ (L' _),rfl,by dsimp only;omega,by dsimp only;omega,Nat.le_trans (O2 _ (L' _)) (L' _)⟩,fun _=>⟨fun _=>⟨O3 _ (L' _),rfl,by dsimp only;omega,by dsimp only;omega,Nat.le_trans (O4 _ (L' _)) (L' _)⟩,fun _=>⟨rfl,by dsimp only;omega,by dsimp only;omega,L' _⟩⟩⟩
theorem agj {p1:Int×List Int×Int×Unit→Bool} {f1:Int×List Int×Int×Unit→Int×List Int×Int×Unit} (hp1:∀n b p,Bt b→0≤p→p<1000000000→p1 (n,b,p,())=true) (hf1:∀n b p,Bt b→0≤p→p<1000000000→Pk n b p (f1 (n,b,p,()))) {p2:Blk×Unit→Bool} {f2:Blk×Unit→Int×Int×Int×Int×Int×Int×List IOp×Unit} (hp2:∀b,b.ops.length<1000000→p2 (b,())=true) (hf2:∀b,b.ops.length<1000000→f2 (b,())=(b.pc,b.len,b.fin,b.x,b.y,b.k,b.ops,())) (c:Blk) (b:List Int) (p:Int) (ok:bZ c) (hc:c.ops.length<1000000) (hb:Bt b) (h1:0≤p) (h2:p<600000000):Qv (std 0) p1 f1 p2 f2 (c,b,p,()) (fun y=>BkD 1000000 c.ops.length b p y):=by
 dsimp only [Qv,Alg.cl,Alg.cg,Alg.rb,Alg.bd,Alg.l1,Tup.q,Tup.o]
 simp (disch:=omega) only [RR,RB,hp2 c hc,hf2 c hc]
 refine ay (fun(y:Int×List Int×Int×Int×Int×Int×Int×Int×Int×Int×Int×Int×Int×Int×Int×List IOp×Unit)=>0≤y.1∧y.1≤c.ops.length∧y.2.1=b∧p≤y.2.2.1∧y.2.2.1≤p+y.1∧y.2.2.2.2.2.2.2.2.2.2.2.2.2.2.2.1.length=c.ops.length∧∀j:Int,y.1≤j→((y.2.2.2.2.2.2.2.2.2.2.2.2.2.2.2.1).getD (j).toNat default)=((c.ops).getD (j).toNat default)) (fun y=>((c.ops.length:Int)-y.1).toNat) ⟨by dsimp only;omega,by dsimp only;omega,rfl,by dsimp only;omega,by dsimp only;omega,rfl,fun _ _=>rfl⟩ ?_
 rintro⟨(k:Int),(b':List Int),(q:Int),u1,u2,u3,u4,u5,u6,b1,b2,b3,b4,b5,b6,(ops:List IOp),⟨⟩⟩ hI
 dsimp only at hI ⊢
 obtain⟨k1,k2,rfl,k3,k4,k5,k6⟩:=hI
 have e:=k6 k (Int.le_refl _)
 have R:=pkR hb hf1
 have P:=fun n p h1 h2=>hp1 n b' p hb h1 h2
 simp (disch:=omega) only [RR,RB,e,R,P,List.length_set,Bool.and_eq_false_iff]
 refine⟨fun h=> ?_,fun h=>⟨rfl,k3,by dsimp only;omega,Nat.le_of_eq k5⟩⟩
 have oy:((c.ops).getD (k).toNat default).kind=3→0≤((c.ops).getD (k).toNat default).y∧((c.ops).getD (k).toNat default).y<k:=fun c3=>by have:=(ok.op k k1 (by omega)).y1 (Or.inl c3);exact⟨this.1,this.2.1⟩
 have S:∀(X:List IOp) v (j:Int),k+1≤j→(X.set k.toNat v).getD j.toNat default=X.getD j.toNat default:=fun X v j hj=>by
  simp only [List.getD,List.getElem?_set_ne (show k.toNat≠j.toNat by omega)]
 repeat' (first | (refine⟨?_,?_⟩) | intro _)
 all_goals first | omega | rfl | exact k6 _ (by omega) | (simp (disch:=omega) only [S];exact k6 _ (by omega))
end Go.TX.F
namespace Go.TX.F
open Go Go.AE Go.TX
theorem agk {p1:Int×List Int×Int×Unit→Bool} {f1:Int×List Int×Int×Unit→Int×List Int×Int×Unit} (hp1:∀n b p,Bt b→0≤p→p<1000000000→p1 (n,b,p,())=true) (hf1:∀n b p,Bt b→0≤p→p<1000000000→Pk n b p (f1 (n,b,p,()))) {p2:Blk×Unit→Bool} {f2:Blk×Unit→Int×Int×Int×Int×Int×Int×List IOp×Unit} (hp2:∀b,b.ops.length<1000000→p2 (b,())=true) (hf2:∀b,b.ops.length<1000000→f2 (b,())=(b.pc,b.len,b.fin,b.x,b.y,b.k,b.ops,())) (c:Blk) (b:List Int) (p:Int) (hc:c.ops.length<1000000) (hb:Bt b) (h1:0≤p) (h2:p<900000000):I4 (std 0) p1 f1 p2 f2 (c,b,p,()) (fun y=>BkD 20 c.ops.length b p y):=by
 have R:=pkR hb hf1
 have P:=fun n p h1 h2=>hp1 n b p hb h1 h2
 by_cases z:(c.ops.length:Int)=0
 ·dsimp only [I4,Alg.cl,Alg.cg,Alg.rb,Alg.bd,Alg.l1,Tup.q,Tup.o]
  simp (disch:=omega) only [RR,RB,hp2 c hc,hf2 c hc,z]
  exact⟨rfl,by dsimp only;omega,by dsimp only;omega,Nat.le_refl _⟩
 have B:=(hf1 c.ops.length b p hb h1 (by omega)).2.2
 have W:IntKind.i64.wrap ((f1 (c.ops.length,b,p,())).1-1)=(f1 (c.ops.length,b,p,())).1-1:=w64 (by omega) (by omega)
 dsimp only [I4,Alg.cl,Alg.cg,Alg.rb,Alg.bd,Alg.l1,Tup.q,Tup.o]
 simp (disch:=omega) only [RR,RB,hp2 c hc,hf2 c hc,R,P,z,List.length_set,W]
 repeat' (first | (refine And.intro ?_ ?_) | intro _)
 all_goals first | omega | exact⟨rfl,by dsimp only;omega,by dsimp only;omega,by dsimp only [Yn];simp only [List.length_set,List.length_take,List.length_drop];omega⟩ | exact⟨rfl,by dsimp only;omega,by dsimp only;omega,by simp only [List.length_drop,List.length_take];omega⟩ | exact⟨rfl,by dsimp only;omega,by dsimp only;omega,Nat.le_refl _⟩
structure BoD (b:List Int) (p:Int) (y:Blk×List Int×Int×Unit):Prop where
 len:y.1.ops.length<100000
 b:y.2.1=b
 lo:p≤y.2.2.1
 hi:y.2.2.1≤p+5000
theorem agl {p1:Int×List Int×Int×Unit→Bool} {f1:Int×List Int×Int×Unit→Bool×List Int×Int×Unit} (hp1:∀n b p,Bt b→0≤p→p<1000000000→p1 (n,b,p,())=true) (hf1:∀n b p,Bt b→0≤p→p<1000000000→(f1 (n,b,p,())).2.1=b∧(f1 (n,b,p,())).2.2.1=p+1) {p2:Int×List Int×Int×Unit→Bool} {f2:Int×List Int×Int×Unit→Int×List Int×Int×Unit} (hp2:∀n b p,Bt b→0≤p→p<1000000000→p2 (n,b,p,())=true) (hf2:∀n b p,Bt b→0≤p→p<1000000000→Pk n b p (f2 (n,b,p,()))) {p3:Blk×List Int×Int×Unit→Bool} {f3:Blk×List Int×Int×Unit→Int×Int×Int×Int×Int×Int×List Int×Int×List IOp×Unit} (hp3:∀c b p,c.ops.length<1000000→Bt b→0≤p→p<900000000→p3 (c,b,p,())=true) (hf3:∀c b p,c.ops.length<1000000→Bt b→0≤p→p<900000000→BkD 20 c.ops.length b p (f3 (c,b,p,()))) {p4:List Int×Int×Unit→Bool} {f4:List Int×Int×Unit→Int×Int×Int×Int×Int×Int×List Int×Int×List IOp×Unit} (hp4:∀b p,Bt b→0≤p→p<600000000→p4 (b,p,())=true) (hf4:∀b p,Bt b→0≤p→p<600000000→BkD 2000 5000 b p (f4 (b,p,()))) (n:Int) (b:List Int) (p:Int) (hb:Bt b) (h1:0≤p) (h2:p<500000000):Qu (std 0) p1 f1 p2 f2 p3 f3 p4 f4 (n,b,p,()) (fun y=>BoD b p y):=by
 obtain⟨a1,a2,a3,a4⟩:=hf4 b p hb h1 (by omega)
 have H4:=hp4 b p hb h1 (by omega)
 have R:=pkR hb hf2
 have P:=fun n p h1 h2=>hp2 n b p hb h1 h2
 have R1:=fun n p h1 h2=>(hf1 n b p hb h1 h2).1
 have R2:=fun n p h1 h2=>(hf1 n b p hb h1 h2).2
 have P1:=fun n p h1 h2=>hp1 n b p hb h1 h2
 dsimp only [Qu,Alg.cl,Alg.cg,Alg.rb,Alg.bd,Alg.l1,Tup.q,Tup.o]
 simp (disch:=omega) only [RR,RB,H4,a1,R,P,R1,R2,P1,List.length_cons,List.length_nil,List.length_append]
 repeat' (first | (refine And.intro ?_ ?_) | intro _)
 all_goals try omega
 all_goals try exact BoD.mk (show(f4 (b,p,())).2.2.2.2.2.2.2.2.1.length<100000 by omega) rfl (by dsimp only;omega) (by dsimp only;omega)
 all_goals try exact hp3 _ _ _ (show(f4 (b,p,())).2.2.2.2.2.2.2.2.1.length<1000000 by omega) hb (by omega) (by omega)
 all_goals try exact BoD.mk (show(_++ [_]).length<100000 by rw [List.length_append,List.length_singleton];omega) rfl (by dsimp only;omega) (by dsimp only;omega)
 all_goals try exact(fun h=>BoD.mk (Nat.lt_of_le_of_lt h.len (show(f4 (b,p,())).2.2.2.2.2.2.2.2.1.length<100000 by omega)) h.b (by have:=h.lo;dsimp only;omega) (by have:=h.hi;dsimp only;omega)) (hf3 _ _ _ (show(f4 (b,p,())).2.2.2.2.2.2.2.2.1.length<1000000 by omega) hb (by omega) (by omega))
 all_goals
  refine ay (fun(y:List Int×Int×Int×Int×Int×Int×Int×Int×Int×Int×Int×Int×Int×Int×List IOp×Unit)=>y.1=b∧p≤y.2.1∧y.2.1≤p+5000∧y.2.2.2.2.2.2.2.2.2.2.2.2.2.2.1.length<50000) (fun y=>50-y.2.2.2.2.2.2.2.2.2.2.2.2.2.2.1.length) ⟨rfl,by dsimp only;omega,by dsimp only;omega,by dsimp only;omega⟩ ?_
  rintro⟨(b':List Int),(q:Int),u1,u2,u3,u4,u5,u6,b1,b2,b3,b4,b5,b6,(ops:List IOp),⟨⟩⟩ hI
  dsimp only at hI ⊢
  obtain⟨rfl,h3,h4,h5⟩:=hI
  simp (disch:=omega) only [RR,List.length_append,List.length_cons,List.length_nil]
  refine⟨fun h=>⟨by omega,⟨by omega,by omega,by omega⟩,by omega⟩,fun h=>⟨show ops.length<100000 by omega,rfl,by dsimp only;omega,by dsimp only;omega⟩⟩
end Go.TX.F
namespace Go.TX.F
open Go Go.AE Go.TX
theorem agm {p1:Blk×Unit→Bool} {f1:Blk×Unit→Bool×Unit} (hp1:∀b,b.ops.length<1000000000→p1 (b,())=true) (hf1:∀b,b.ops.length<1000000000→f1 (b,())=(bp (bZ b),())) {p2:Blk×Unit→Bool} {f2:Blk×Unit→Int×Int×Int×Int×Int×Int×List IOp×Unit} (hp2:∀b,b.ops.length<1000000→p2 (b,())=true) (hf2:∀b,b.ops.length<1000000→f2 (b,())=bk7 (Jl b)) {p3:Blk×Unit→Bool} {f3:Blk×Unit→Int×Int×Int×Int×Int×Int×List IOp×Unit} (hp3:∀b,b.ops.length<1000000→p3 (b,())=true) (hf3:∀b,b.ops.length<1000000→f3 (b,())=bk7 (cB b)) {p4:Int×List Int×Int×Unit→Bool} {f4:Int×List Int×Int×Unit→Int×List Int×Int×Unit} (hp4:∀n b p,Bt b→0≤p→p<1000000000→p4 (n,b,p,())=true) (hf4:∀n b p,Bt b→0≤p→p<1000000000→Pk n b p (f4 (n,b,p,()))) {p5:Blk×List Int×Int×Unit→Bool} {f5:Blk×List Int×Int×Unit→Int×Int×Int×Int×Int×Int×List Int×Int×List IOp×Unit} (hp5:∀c b p,c.ops.length<1000000→Bt b→0≤p→p<900000000→p5 (c,b,p,())=true) (hf5:∀c b p,c.ops.length<1000000→Bt b→0≤p→p<900000000→BkD 20 c.ops.length b p (f5 (c,b,p,()))) {p6:Int×List Int×Int×Unit→Bool} {f6:Int×List Int×Int×Unit→Blk×List Int×Int×Unit} (hp6:∀n b p,Bt b→0≤p→p<500000000→p6 (n,b,p,())=true) (hf6:∀n b p,Bt b→0≤p→p<500000000→BoD b p (f6 (n,b,p,()))) {p7:Blk×List Int×Int×Unit→Bool} {f7:Blk×List Int×Int×Unit→Int×Int×Int×Int×Int×Int×List Int×Int×List IOp×Unit} (hp7:∀c b p,bZ c→c.ops.length<1000000→Bt b→0≤p→p<600000000→p7 (c,b,p,())=true) (hf7:∀c b p,bZ c→c.ops.length<1000000→Bt b→0≤p→p<600000000→BkD 1000000 c.ops.length b p (f7 (c,b,p,()))) (n:Int) (b:List Int) (p:Int) (hb:Bt b) (h1:0≤p) (h2:p<400000000):Qw (std 0) p1 f1 p2 f2 p3 f3 p4 f4 p5 f5 p6 f6 p7 f7 (n,b,p,()) (fun(y:Blk×Blk×List Int×Int×Unit)=>y.1.ops.length<100000∧y.2.1.ops.length<100000∧y.2.2.1=b∧p≤y.2.2.2.1∧y.2.2.2.1≤p+10000000):=by
 replace hf2:=fun c h=>show(f2 (c,())).2.2.2.2.2.2.1.length≤c.ops.length by rw [hf2 c h];exact Hw c
 replace hf3:=fun c h=>show(f3 (c,())).2.2.2.2.2.2.1.length≤c.ops.length by rw [hf3 c h];exact qO c
 have R:=pkR hb hf4
 have P:=fun n p h1 h2=>hp4 n b p hb h1 h2
 obtain⟨a1,a2,a3,a4⟩:=hf6 n b p hb h1 (by omega)
 have ne:=fun(m:Int) h1 h2=>hf6 n b m hb h1 h2
 generalize hz:(f6 (n,b,p,())).1=z at a1
 generalize hq:(f6 (n,b,p,())).2.2.1=q at a3 a4
 have D1:=hp2 z (by omega)
 have D2:=hf2 z (by omega)
 have D3:=hp3 z (by omega)
 have D4:=hf3 z (by omega)
 have B1:=fun c m (h:c.ops.length<1000000) h1 h2=>hp5 c b m h hb h1 h2
 have B2:=fun c m (h:c.ops.length<1000000) h1 h2=>hf5 c b m h hb h1 h2
 dsimp only [Qw,Alg.cl,Alg.cg,Alg.rb,Alg.bd,Alg.l1,Tup.q,Tup.o]
 simp (disch:=omega) only [RR,hp6 n b p hb h1 (by omega),hz,a2,hq,hp1 z (by omega),hf1 z (by omega),R,P,D1,D3]
 refine⟨fun _=>⟨a1,a1,by omega,by omega⟩,fun h=> ?_⟩
 have ok:=bK.1 h
 have c0:=hf7 z b (q+1) ok (by omega) hb (by omega) (by omega)
 have d0:=hp7 z b (q+1) ok (by omega) hb (by omega) (by omega)
 have l1:(f2 (z,())).2.2.2.2.2.2.1.length<1000000:=by omega
 have cl:=c0.len
 have ch:=c0.hi
 have cw:=c0.lo
 have cb:=c0.b
 refine⟨fun _=>⟨d0,a1,Nat.lt_of_le_of_lt cl a1,cb,by omega,by omega⟩,fun _=>⟨fun _=>⟨a1,Nat.lt_of_le_of_lt D2 a1,by omega,by omega⟩,fun _=>⟨fun _=>⟨d0,hp2 _ (Nat.lt_of_le_of_lt cl (by omega)),a1,Nat.lt_of_le_of_lt (hf2 _ (Nat.lt_of_le_of_lt cl (by omega))) (Nat.lt_of_le_of_lt cl a1),cb,by omega,by omega⟩,fun _=>⟨fun _=> ?_,fun _=>⟨fun _=> ?_,fun _=>⟨fun _=> ?_,fun _=>⟨fun _=> ?_,fun _=>⟨fun _=> ?_,fun _=> ?_⟩⟩⟩⟩⟩⟩⟩⟩
 ·have:=B2 z (q+1) (by omega) (by omega) (by omega)
  exact⟨B1 z (q+1) (by omega) (by omega) (by omega),a1,Nat.lt_of_le_of_lt this.len a1,this.b,by have:=this.lo;omega,by have:=this.hi;omega⟩
 ·have:=B2 (amK (f2 (z,()))) (q+1) l1 (by omega) (by omega)
  exact⟨B1 (amK (f2 (z,()))) (q+1) l1 (by omega) (by omega),a1,Nat.lt_of_le_of_lt this.len (Nat.lt_of_le_of_lt D2 a1),this.b,Int.le_trans (by omega) this.lo,Int.le_trans this.hi (by omega)⟩
 ·exact⟨Nat.lt_of_le_of_lt D2 a1,a1,by omega,by omega⟩
 ·obtain⟨g1,g2,g3,g4⟩:=hf6 n b (q+1) hb (by omega) (by omega)
  exact⟨hp6 n b (q+1) hb (by omega) (by omega),a1,g1,g2,by omega,by omega⟩
 ·exact⟨a1,Nat.lt_of_le_of_lt D4 a1,by omega,by omega⟩
 ·exact⟨a1,a1,by omega,by omega⟩
theorem agn {p1:List Int×Unit→Bool} {f1:List Int×Unit→List Int×Int×Unit} (hp1:∀b,By b→b.length<1000000000→p1 (b,())=true) (hf1:∀b,By b→b.length<1000000000→Bt (f1 (b,())).1∧(f1 (b,())).2.1=0) {p2:Int×List Int×Int×Unit→Bool} {f2:Int×List Int×Int×Unit→Blk×Blk×List Int×Int×Unit} (hp2:∀n b p,Bt b→0≤p→p<400000000→p2 (n,b,p,())=true) (hf2:∀n b p,Bt b→0≤p→p<400000000→(f2 (n,b,p,())).1.ops.length<100000∧(f2 (n,b,p,())).2.1.ops.length<100000∧(f2 (n,b,p,())).2.2.1=b∧p≤(f2 (n,b,p,())).2.2.2.1∧(f2 (n,b,p,())).2.2.2.1≤p+10000000) (c:List Int) (hc:By c) (hl:c.length<1000000000):Qx (std 0) p1 f1 p2 f2 (c,()) (fun y=>y.1.ops.length<100000∧y.2.1.ops.length<100000):=by
 obtain⟨hb,e0⟩:=hf1 c hc hl
 generalize hbe:(f1 (c,())).1=b at hb
 obtain⟨a1,a2,a3,a4,a5⟩:=hf2 14 b 0 hb (by omega) (by omega)
 dsimp only [Qx,Alg.cl,Alg.cg,Alg.rb,Alg.bd,Alg.l1,Tup.q,Tup.o]
 simp (disch:=omega) only [RR,hp1 c hc hl,hbe,e0,hp2 14 b 0 hb (by omega) (by omega)]
 exact⟨a1,a2⟩
end Go.TX.F
namespace Go.TX.F
open Go Go.AE Go.TX
end Go.TX.F
namespace Go.TX.F
open Go Go.AE Go.TX
end Go.TX.F
namespace Go.TX.F
open Go Go.AE Go.TX
theorem amL (x y:IOp):ahN .iop x y=decide (x=y):=rfl
theorem QV {P:Prop} [Decidable P]:decide P=bp P:=by unfold bp;congr
theorem acf (a b:List IOp) (ha:a.length<1000000000):W9 (std 0) (a,b,()) (fun y=>y=(bp (a=b),())):=by
 dsimp only [W9,Alg.cl,Alg.cg,Alg.rb,Alg.bd,Alg.l1,Tup.q,Tup.o]
 simp (disch:=omega) only [RR]
 refine⟨fun h=> ?_,fun h=> ?_⟩
 ·rw [gH (fun e=>h (by rw [e]))]
 have hl:a.length=b.length:=by omega
 refine ay (fun(y:List IOp×List IOp×Int×Int×Unit)=>y.1=a∧y.2.1=b∧y.2.2.1=a.length∧0≤y.2.2.2.1∧y.2.2.2.1≤a.length∧All y.2.2.2.1 (fun i=>a.getD i.toNat default=b.getD i.toNat default)) (fun y=>(a.length-y.2.2.2.1).toNat) ⟨rfl,rfl,rfl,by simp,by simp,All.zero⟩ ?_
 rintro⟨(l1:List IOp),(l2:List IOp),(n:Int),(i:Int),⟨⟩⟩ hI
 dsimp only at hI ⊢
 obtain⟨rfl,rfl,rfl,h1,h2,h3⟩:=hI
 simp (disch:=omega) only [RR,amL]
 refine⟨fun h4=>⟨by omega,by omega,by omega,by omega,fun h5=> ?_,fun h5=>⟨⟨by omega,by omega,h3.snoc h5⟩,by omega⟩⟩,fun h4=> ?_⟩
 ·rw [gH]
  intro e;rw [e]at h5;exact h5 rfl
 ·rw [dB (Jb hl (h3.le (by omega)))]
theorem amM {p1:List IOp×List IOp×Unit→Bool} {f1:List IOp×List IOp×Unit→Bool×Unit} (hp1:∀a b,a.length<1000000000→p1 (a,b,())=true) (hf1:∀a b,a.length<1000000000→f1 (a,b,())=(bp (a=b),())) (a b:Blk) (ha:a.ops.length<1000000000):Xa (std 0) p1 f1 (a,b,()) (fun y=>y=(bp (a=b),())):=by
 dsimp only [Xa,Alg.cl,Alg.cg,Alg.rb,Alg.bd,Alg.l1,Tup.q,Tup.o]
 simp (disch:=omega) only [RR,RB,hp1 _ _ ha,hf1 _ _ ha]
 simp only [QV,←uf]
 refine Prod.ext (ug ?_) rfl
 cases a;cases b;simp only [Blk.mk.injEq]
 constructor<;>(intro h;simp only [h,and_self])
theorem amN {p1:List aj×List aj×Unit→Bool} {f1:List aj×List aj×Unit→Bool×Unit} (hp1:∀a b,Sh a→p1 (a,b,())=true) (hf1:∀a b,Sh a→f1 (a,b,())=(decide (iO a b=0),())) (a b:List aj) (ha:Sh a):Ya (std 0) p1 f1 (a,b,()) (fun y=>y=(decide (iO a b=0),())):=by
 dsimp only [Ya,Alg.cl,Alg.cg,Alg.rb,Alg.bd,Alg.l1,Tup.q,Tup.o]
 simp (disch:=omega) only [RR,hp1 _ _ ha,hf1 _ _ ha]
theorem amO {p1:List aj×List aj×Unit→Bool} {f1:List aj×List aj×Unit→Bool×Unit} (hp1:∀a b,Sh a→p1 (a,b,())=true) (hf1:∀a b,Sh a→f1 (a,b,())=(decide (iO a b=0),())) (a b:List (List aj)) (ha:ShP a):Yb (std 0) p1 f1 (a,b,()) (fun y=>y=(bp (a=b),())):=by
 have hlen:=ha.1
 dsimp only [Yb,Alg.cl,Alg.cg,Alg.rb,Alg.bd,Alg.l1,Tup.q,Tup.o]
 simp (disch:=omega) only [RR]
 refine⟨fun h=> ?_,fun h=> ?_⟩
 ·rw [gH (fun e=>h (by rw [e]))]
 have hl:a.length=b.length:=by omega
 refine ay (fun(y:List (List aj)×List (List aj)×Int×Int×Unit)=>y.1=b∧y.2.1=a∧y.2.2.1=a.length∧0≤y.2.2.2.1∧y.2.2.2.1≤a.length∧All y.2.2.2.1 (fun i=>a.getD i.toNat default=b.getD i.toNat default)) (fun y=>(a.length-y.2.2.2.1).toNat) ⟨rfl,rfl,rfl,by simp,by simp,All.zero⟩ ?_
 rintro⟨(l1:List (List aj)),(l2:List (List aj)),(n:Int),(i:Int),⟨⟩⟩ hI
 dsimp only at hI ⊢
 obtain⟨rfl,rfl,rfl,h1,h2,h3⟩:=hI
 simp (disch:=omega) only [RR,hp1 _ _ (ha.at _),hf1 _ _ (ha.at _),lU]
 refine⟨fun h4=>⟨by omega,by omega,by omega,by omega,fun h5=> ?_,fun h5=>⟨⟨by omega,by omega,h3.snoc h5⟩,by omega⟩⟩,fun h4=> ?_⟩
 ·rw [gH]
  intro e;rw [e]at h5;exact h5 rfl
 ·rw [dB (Jb hl (h3.le (by omega)))]
theorem amP {p1:List (List aj)×List (List aj)×Unit→Bool} {f1:List (List aj)×List (List aj)×Unit→Bool×Unit} (hp1:∀a b,ShP a→p1 (a,b,())=true) (hf1:∀a b,ShP a→f1 (a,b,())=(bp (a=b),())) (a b:List (List aj)) (ha:ShP a):Yc (std 0) p1 f1 (a,b,()) (fun y=>y=(bp (a=b),())):=by
 dsimp only [Yc,Alg.cl,Alg.cg,Alg.rb,Alg.bd,Alg.l1,Tup.q,Tup.o]
 simp (disch:=omega) only [RR,hp1 _ _ ha,hf1 _ _ ha]
theorem amQ {p1:List aj×List aj×Unit→Bool} {f1:List aj×List aj×Unit→Bool×Unit} (hp1:∀a b,Sh a→p1 (a,b,())=true) (hf1:∀a b,Sh a→f1 (a,b,())=(decide (iO a b=0),())) {p2:List (List aj)×List (List aj)×Unit→Bool} {f2:List (List aj)×List (List aj)×Unit→Bool×Unit} (hp2:∀a b,ShP a→p2 (a,b,())=true) (hf2:∀a b,ShP a→f2 (a,b,())=(bp (a=b),())) (a b:Ev) (ha:ShE a):Yd (std 0) p1 f1 p2 f2 (a,b,()) (fun y=>y=(bp (a=b),())):=by
 dsimp only [Yd,Alg.cl,Alg.cg,Alg.rb,Alg.bd,Alg.l1,Tup.q,Tup.o]
 simp (disch:=omega) only [RR,RB,hp1 _ _ ha.1,hf1 _ _ ha.1,hp1 _ _ ha.2.1,hf1 _ _ ha.2.1,hp2 _ _ ha.2.2,hf2 _ _ ha.2.2,lU]
 simp only [QV,←uf]
 refine Prod.ext (ug ?_) rfl
 cases a;cases b;simp only [Ev.mk.injEq]
 constructor<;>(intro h;simp only [h,and_self])
theorem amR {p1:Ev×Ev×Unit→Bool} {f1:Ev×Ev×Unit→Bool×Unit} (hp1:∀a b,ShE a→p1 (a,b,())=true) (hf1:∀a b,ShE a→f1 (a,b,())=(bp (a=b),())) (a b:List Ev) (ha:UF a):Yg (std 0) p1 f1 (a,b,()) (fun y=>y=(bp (a=b),())):=by
 have hlen:=ha.1
 dsimp only [Yg,Alg.cl,Alg.cg,Alg.rb,Alg.bd,Alg.l1,Tup.q,Tup.o]
 simp (disch:=omega) only [RR]
 refine⟨fun h=> ?_,fun h=> ?_⟩
 ·rw [gH (fun e=>h (by rw [e]))]
 have hl:a.length=b.length:=by omega
 refine ay (fun(y:List Ev×List Ev×Int×Int×Unit)=>y.1=b∧y.2.1=a∧y.2.2.1=a.length∧0≤y.2.2.2.1∧y.2.2.2.1≤a.length∧All y.2.2.2.1 (fun i=>a.getD i.toNat default=b.getD i.toNat default)) (fun y=>(a.length-y.2.2.2.1).toNat) ⟨rfl,rfl,rfl,by simp,by simp,All.zero⟩ ?_
 rintro⟨(l1:List Ev),(l2:List Ev),(n:Int),(i:Int),⟨⟩⟩ hI
 dsimp only at hI ⊢
 obtain⟨rfl,rfl,rfl,h1,h2,h3⟩:=hI
 simp (disch:=omega) only [RR,hp1 _ _ (ha.at _),hf1 _ _ (ha.at _),bK,tZ]
 refine⟨fun h4=>⟨by omega,by omega,by omega,by omega,fun h5=> ?_,fun h5=>⟨⟨by omega,by omega,h3.snoc h5⟩,by omega⟩⟩,fun h4=> ?_⟩
 ·rw [gH]
  intro e;rw [e]at h5;exact h5 rfl
 ·rw [dB (Jb hl (h3.le (by omega)))]
theorem amS {p1:List aj×List aj×Unit→Bool} {f1:List aj×List aj×Unit→Bool×Unit} (hp1:∀a b,Sh a→p1 (a,b,())=true) (hf1:∀a b,Sh a→f1 (a,b,())=(decide (iO a b=0),())) {p2:List (List aj)×List (List aj)×Unit→Bool} {f2:List (List aj)×List (List aj)×Unit→Bool×Unit} (hp2:∀a b,ShP a→p2 (a,b,())=true) (hf2:∀a b,ShP a→f2 (a,b,())=(bp (a=b),())) {p3:List Ev×List Ev×Unit→Bool} {f3:List Ev×List Ev×Unit→Bool×Unit} (hp3:∀b a,UF b→p3 (b,a,())=true) (hf3:∀b a,UF b→f3 (b,a,())=(bp (b=a),())) (a b:Sym) (ha:ShY a):Yh (std 0) p1 f1 p2 f2 p3 f3 (a,b,()) (fun y=>y=(bp (a=b),())):=by
 dsimp only [Yh,Alg.cl,Alg.cg,Alg.rb,Alg.bd,Alg.l1,Tup.q,Tup.o]
 simp (disch:=omega) only [RR,RB,hp1 _ _ ha.x,hf1 _ _ ha.x,hp1 _ _ ha.y,hf1 _ _ ha.y,hp2 _ _ ha.r,hf2 _ _ ha.r,hp3 _ _ ha.e,hf3 _ _ ha.e,lU]
 simp only [QV,←uf]
 refine Prod.ext (ug ?_) rfl
 cases a;cases b;simp only [Sym.mk.injEq]
 constructor<;>(intro h;simp only [h,and_self])
theorem aqx {p1:Blk×Unit→Bool} {f1:Blk×Unit→Bool×Unit} (hp1:∀b,b.ops.length<1000000000→p1 (b,())=true) (hf1:∀b,b.ops.length<1000000000→f1 (b,())=(bp (bZ b),())) {p2:Blk×Blk×Unit→Bool} {f2:Blk×Blk×Unit→Bool×Unit} (hp2:∀a b,a.ops.length<1000000000→p2 (a,b,())=true) (hf2:∀a b,a.ops.length<1000000000→f2 (a,b,())=(bp (a=b),())) {p3:Unit→Bool} {f3:Unit→List Atom×List (List aj)×Unit} (hp3:p3 ()=true) (hf3:(f3 ()).1=t4) {p4:List Atom×Blk×Unit→Bool} {f4:List Atom×Blk×Unit→List Atom×Sym×Unit} (hp4:∀t b,ShT t→b.ops.length<1000000000→p4 (t,b,())=true) (hf4:∀t b,ShT t→b.ops.length<1000000000→f4 (t,b,())=((bH t b).1,(bH t b).2,())) {p5:Sym×Sym×Unit→Bool} {f5:Sym×Sym×Unit→Bool×Unit} (hp5:∀a b,ShY a→p5 (a,b,())=true) (hf5:∀a b,ShY a→f5 (a,b,())=(bp (a=b),())) (b c:Blk) (hb:b.ops.length<1000000000) (hc:c.ops.length<1000000000):aeC (std 0) p1 f1 p2 f2 p3 f3 p4 f4 p5 f5 (b,c,()) (fun y=>y=(chk b c,())):=by
 have s4:ShT t4:=YN.1.sh
 have y1:=Jj t4 b
 dsimp only [aeC,Alg.cl,Alg.cg,Alg.rb,Alg.bd,Alg.l1,Tup.q,Tup.o]
 simp (disch:=omega) only [RR,RB,hp1 b hb,hf1 b hb,hp1 c hc,hf1 c hc,hp2 b c hb,hf2 b c hb,hp3,hf3,hp4 t4 b s4 hb,hf4 t4 b s4 hb,hp4 _ c y1.2 hc,hf4 _ c y1.2 hc,hp5 _ _ y1.1,hf5 _ _ y1.1,bK,tZ]
 unfold chk
 refine⟨fun h=> ?_,fun h=>⟨fun e=> ?_,fun e=> ?_⟩⟩
 ·rw [gH];rintro⟨h1,h2,h3,h4,_⟩;simp_all
 ·rw [dB];exact⟨h.1.1.1,h.1.1.2,h.1.2,h.2,Or.inl e⟩
 ·refine Prod.ext (ug ?_) rfl
  exact⟨fun g=>⟨h.1.1.1,h.1.1.2,h.1.2,h.2,Or.inr g⟩,fun g=>g.2.2.2.2.resolve_left e⟩
end Go.TX.F
namespace Go.TX.F
open Go Go.AE Go.TX
structure aqS (nm:List Int) (fin x y:Int) (ops:List IOp):Prop where
 op:∀i:Int,0≤i→i<ops.length→(hX ((ops).getD (i).toNat default)→0≤(((ops).getD (i).toNat default)).x∧(((ops).getD (i).toNat default)).x<nm.length)∧(hY ((ops).getD (i).toNat default)→0≤(((ops).getD (i).toNat default)).y∧(((ops).getD (i).toNat default)).y<nm.length)
 x:fin≠1→0≤x∧x<nm.length
 y:3≤fin→0≤y∧y<nm.length
 l:ops.length<1000000000
end Go.TX.F
namespace Go.TX.F
open Go Go.AE Go.TX
end Go.TX.F
namespace Go.TX.F
open Go Go.AE Go.TX
end Go.TX.F
namespace Go.TX.F
open Go Go.AE Go.TX
end Go.TX.F
namespace Go.TX.F
open Go Go.AE Go.TX
def ShC (l:List Cer):Prop:=l.length<1000∧∀q∈l,q.base.ops.length<1000000∧q.made.ops.length<1000000
theorem ShC.at {l:List Cer} (h:ShC l) (i:Nat):(l.getD i default).base.ops.length<1000000∧(l.getD i default).made.ops.length<1000000:=by
 by_cases c:i<l.length
 ·rw [getD_lt c];exact h.2 _ (List.getElem_mem _)
 ·rw [List.getD_eq_getElem?_getD,List.getElem?_eq_none (by omega)];exact⟨by decide,by decide⟩
theorem ShC.add {l:List Cer} (h:ShC l) (n:l.length<999) {q:Cer} (h1:q.base.ops.length<1000000) (h2:q.made.ops.length<1000000):ShC (l++ [q]):=by
 refine⟨by rw [List.length_append,List.length_singleton];omega,fun c g=> ?_⟩
 rw [List.mem_append,List.mem_singleton]at g
 rcases g with g | rfl
 ·exact h.2 c g
 ·exact⟨h1,h2⟩
end Go.TX.F
namespace Go.TX.F
open Go Go.AE Go.TX
end Go.TX.F
namespace Go.TX.F
open Go Go.AE Go.TX
theorem u8w {n:Int}:IntKind.u8.wrap n=n%256:=by
 simp [IntKind.wrap,IntKind.signed,IntKind.bits]
def opB (o:IOp):List Int:=[o.kind%256,o.x%256,o.y%256,o.k/256%256,o.k%256,o.at_%256]
def Fx (b:Blk):List Int:=[b.pc%256,b.len%256,b.fin%256,b.x%256,b.y%256,b.k/256%256,b.k%256]++b.ops.flatMap opB
noncomputable def irB (b:Blk):List Int:=if bp (bZ b)=true then Fx b else []
def rdO (l:List Int) (p:Nat):IOp:=⟨l.getD p default,l.getD (p+1) default,l.getD (p+2) default,l.getD (p+3) default*256+l.getD (p+4) default,l.getD (p+5) default⟩
def Fy (l:List Int) (n:Nat):List IOp:=(List.range n).map fun i=>rdO l (7+6*i)
def rdB (l:List Int):Blk:=⟨l.getD 0 default,l.getD 1 default,Fy l ((l.length-7)/6),l.getD 2 default,l.getD 3 default,l.getD 4 default,l.getD 5 default*256+l.getD 6 default⟩
def agp (l:List Int):Prop:=(7≤l.length∧(l.length-7)%6=0∧l.length≤295)∧irB (rdB l)=l
noncomputable def rdF (l:List Int):Int×Int×Int×Int×Int×Int×Bool×List IOp×Unit:=if bp (agp l)=true then((rdB l).pc,(rdB l).len,(rdB l).fin,(rdB l).x,(rdB l).y,(rdB l).k,true,(rdB l).ops,())else(0,0,0,0,0,0,false,[],())
theorem Y4 (n:Int):0≤n%256∧n%256≤255:=by omega
theorem agq (o:IOp):By (opB o):=by
 intro z hz
 simp only [opB,List.mem_cons,List.not_mem_nil,or_false]at hz
 rcases hz with h | h | h | h | h | h<;>subst h<;>exact Y4 _
theorem QW (b:Blk):By (irB b):=by
 unfold irB
 split
 ·intro z hz
  unfold Fx at hz
  rcases List.mem_append.1 hz with h | h
  ·simp only [List.mem_cons,List.not_mem_nil,or_false]at h
   rcases h with h | h | h | h | h | h | h<;>subst h<;>exact Y4 _
  ·obtain⟨o,_,ho⟩:=List.mem_flatMap.1 h
   exact agq o z ho
 ·intro z hz;cases hz
theorem Fz:∀ops:List IOp,(ops.flatMap opB).length=6*ops.length
 | []=>rfl
 | o::r=>by rw [List.flatMap_cons,List.length_append,Fz r,List.length_cons];show 6+_=_;omega
theorem FB (b:Blk):(Fx b).length=7+6*b.ops.length:=by
 unfold Fx;rw [List.length_append,Fz];rfl
theorem Y5:∀(ops:List IOp) (i:Nat) (j:Nat),i<ops.length→j<6→(ops.flatMap opB).getD (6*i+j) default=(opB (ops.getD i default)).getD j default
 | [],_,_,h,_=>absurd h (by simp)
 | o::r,0,j,_,hj=>by
  rw [List.flatMap_cons,List.getD_eq_getElem?_getD,List.getElem?_append_left (by show _<6;omega),←List.getD_eq_getElem?_getD,Nat.mul_zero,Nat.zero_add];rfl
 | o::r,i+1,j,h,hj=>by
  rw [List.flatMap_cons,List.getD_eq_getElem?_getD,List.getElem?_append_right (by show 6≤_;omega),←List.getD_eq_getElem?_getD,show 6*(i+1)+j- (opB o).length=6*i+j by show 6*(i+1)+j-6=_;omega]
  exact Y5 r i j (by rw [List.length_cons]at h;omega) hj
theorem agr (b:Blk) (i j:Nat) (hi:i<b.ops.length) (hj:j<6):(Fx b).getD (7+6*i+j) default=(opB (b.ops.getD i default)).getD j default:=by
 unfold Fx
 rw [List.getD_eq_getElem?_getD,List.getElem?_append_right (by show 7≤_;omega),←List.getD_eq_getElem?_getD]
 show(List.flatMap opB b.ops).getD (7+6*i+j-7) default=_
 rw [show 7+6*i+j-7=6*i+j by omega]
 exact Y5 b.ops i j hi hj
structure OpR (o:IOp):Prop where
 kd:0≤o.kind∧o.kind≤255
 x:0≤o.x∧o.x≤255
 y:0≤o.y∧o.y≤255
 k:0≤o.k∧o.k≤65535
 at_:0≤o.at_∧o.at_≤255
theorem bZ.opR {b:Blk} (h:bZ b) {i:Int} (h0:0≤i) (h1:i<b.ops.length):OpR ((b.ops).getD (i).toNat default):=by
 have o:=h.op i h0 h1
 have sz:=h.sz
 have ln:=h.ln
 have kd:=o.kd
 have hx:0≤(((b.ops).getD (i).toNat default)).x∧(((b.ops).getD (i).toNat default)).x≤255:=by
  by_cases c:hX ((b.ops).getD (i).toNat default)
  ·have v:=o.x1 c;exact⟨v.1,by have:=v.2.1;omega⟩
  ·rw [o.x0 c];omega
 have hy:0≤(((b.ops).getD (i).toNat default)).y∧(((b.ops).getD (i).toNat default)).y≤255:=by
  by_cases c:hY ((b.ops).getD (i).toNat default)
  ·have v:=o.y1 c;exact⟨v.1,by have:=v.2.1;omega⟩
  ·rw [o.y0 c];omega
 have k1:=o.k1
 have k2:=o.k2
 have k3:=o.k3
 have k0:=o.k0
 have ha:0≤(((b.ops).getD (i).toNat default)).at_∧(((b.ops).getD (i).toNat default)).at_≤255:=by
  by_cases c:evO ((b.ops).getD (i).toNat default)
  ·have v:=o.a1 c;omega
  ·rw [o.a0 c];omega
 refine⟨by omega,hx,hy,?_,ha⟩
 rcases(by omega:(((b.ops).getD (i).toNat default)).kind=1∨((((b.ops).getD (i).toNat default)).kind=2∨(((b.ops).getD (i).toNat default)).kind=8)∨(((b.ops).getD (i).toNat default)).kind=3∨4≤(((b.ops).getD (i).toNat default)).kind∧(((b.ops).getD (i).toNat default)).kind≤7)with c | c | c | c
 ·exact k1 c
 ·have:=k2 c;omega
 ·have:=k3 c;omega
 ·have:=k0 c.1 c.2;omega
theorem acg {b:Blk} (h:bZ b):rdB (Fx b)=b:=by
 have sz:=h.sz
 have ln:=h.ln
 have pc:=h.pc
 have en:=h.en
 have f:=en.f
 have hx:0≤b.x∧b.x≤255:=by
  by_cases c:b.fin≠1
  ·have v:=en.x1 c;exact⟨v.1,by have:=v.2.1;omega⟩
  ·rw [en.x0 (by omega)];omega
 have hy:0≤b.y∧b.y≤255:=by
  by_cases c:3≤b.fin
  ·have v:=en.y1 c;exact⟨v.1,by have:=v.2.1;omega⟩
  ·rw [en.y0 (by omega)];omega
 have hk:0≤b.k∧b.k≤65535:=by
  by_cases c:b.fin≠2
  ·exact en.k1 c
  ·rw [en.k0 (by omega)];omega
 have ops:Fy (Fx b) (((Fx b).length-7)/6)=b.ops:=by
  rw [FB,show(7+6*b.ops.length-7)/6=b.ops.length by omega]
  unfold Fy
  refine List.ext_getElem (by rw [List.length_map,List.length_range]) fun i h1 h2=> ?_
  rw [List.getElem_map,List.getElem_range]
  have g:=fun j hj=>agr b i j h2 hj
  have r:=h.opR (i:=(i:Int)) (by omega) (by omega)
  rw [show((i:Int)).toNat=i from rfl]at r
  rw [←getD_lt (d:=default) h2]
  unfold rdO
  have g0:=g 0 (by omega)
  have g1:=g 1 (by omega)
  have g2:=g 2 (by omega)
  have g3:=g 3 (by omega)
  have g4:=g 4 (by omega)
  have g5:=g 5 (by omega)
  rw [Nat.add_zero]at g0
  rw [g0,g1,g2,g3,g4,g5]
  generalize b.ops.getD i default=o at r ⊢
  have a1:=r.kd
  have a2:=r.x
  have a3:=r.y
  have a4:=r.k
  have a5:=r.at_
  refine IOp.ext ?_ ?_ ?_ ?_ ?_
  ·show o.kind%256=_;omega
  ·show o.x%256=_;omega
  ·show o.y%256=_;omega
  ·show o.k/256%256*256+o.k%256=_;omega
  ·show o.at_%256=_;omega
 refine Blk.ext ?_ ?_ ops ?_ ?_ ?_ ?_
 ·show b.pc%256=_;omega
 ·show b.len%256=_;omega
 ·show b.fin%256=_;omega
 ·show b.x%256=_;omega
 ·show b.y%256=_;omega
 ·show b.k/256%256*256+b.k%256=_;omega
theorem ags (b:Blk):rdF (irB b)=if bp (bZ b)=true then(b.pc,b.len,b.fin,b.x,b.y,b.k,true,b.ops,())else(0,0,0,0,0,0,false,[],()):=by
 unfold rdF
 by_cases h:bZ b
 ·have e:irB b=Fx b:=by unfold irB;rw [if_pos (dB h)]
  have sz:=h.sz
  have ok:agp (Fx b):=⟨by rw [FB];omega,by rw [acg h,e]⟩
  rw [e,if_pos (dB ok),if_pos (dB h),acg h]
 ·have e:irB b=[]:=by unfold irB;rw [if_neg (by rw [gH h];decide)]
  rw [e,if_neg (by rw [gH];decide;intro g;exact absurd g.1.1 (by decide)),if_neg (by rw [gH h];decide)]
theorem abt {a b:Int} (ha:0≤a) (ha':a≤255) (hb:0≤b) (hb':b≤255):iT .or .i64 (a*256) b=a*256+b:=by
 have h2:((2^IntKind.i64.bits:Nat):Int)=18446744073709551616:=by decide
 have e:(a*256).toNat ||| b.toNat=a.toNat*256+b.toNat:=by
  rw [show(a*256).toNat=a.toNat*256 by omega,show a.toNat*256=a.toNat<<<8 by rw [Nat.shiftLeft_eq],←Nat.shiftLeft_add_eq_or_of_lt (show b.toNat<2^8 by omega),Nat.shiftLeft_eq]
 unfold iT;dsimp only
 rw [BitVec.toNat_or,BitVec.toNat_ofInt,BitVec.toNat_ofInt,h2,show a*256%18446744073709551616=a*256 by omega,show b%18446744073709551616=b by omega,e,w64 (by omega) (by omega)]
 omega
theorem amT (k:IntKind) (x y:Int):gZ .or k x y=iT .or k x y:=rfl
theorem abu (x:Int):gZ .shl .i64 x 8=IntKind.i64.wrap (x*256):=rfl
theorem Tf (x:Int):gZ .shr .i64 x 8=x.fdiv 256:=rfl
theorem ach (a b:Int) (h0:0≤a) (h1:a≤255) (h2:0≤b) (h3:b≤255):WW (std 0) (a,b,()) (fun y=>y=(a*256+b,())):=by
 dsimp only [WW,Alg.cl,Alg.cg,Alg.rb,Alg.bd,Alg.l1,Tup.q,Tup.o]
 simp (disch:=omega) only [RR,amT,abu,abt]
 decide
theorem bytes_inj:∀ {a b:List Int},By a→By b→Go.Lib.bytesOf a=Go.Lib.bytesOf b→a=b
 | [],[],_,_,_=>rfl
 | [],_::_,_,_,e=>by cases e
 | _::_,[],_,_,e=>by cases e
 | x::a,y::b,ha,hb,e=>by
  unfold Go.Lib.bytesOf at e
  rw [List.map_cons,List.map_cons]at e
  injection e with e1 e2
  have h1:=ha x List.mem_cons_self
  have h2:=hb y List.mem_cons_self
  have e3:=congrArg UInt8.toNat e1
  rw [UInt8.toNat_ofNat',UInt8.toNat_ofNat']at e3
  have:x=y:=by omega
  rw [this,bytes_inj (fun z hz=>ha z (List.mem_cons_of_mem _ hz)) (fun z hz=>hb z (List.mem_cons_of_mem _ hz)) e2]
theorem amU (a b:List Int) (ha:By a) (hb:By b):aeB (std 0) (a,b,()) (fun y=>y=(bp (a=b),())):=by
 dsimp only [aeB,Alg.cl,Alg.cg,Alg.rb,Alg.bd,Alg.l1,Tup.q,Tup.o,Alg.l1,Alg.rb]
 show((((strOfNums a).toList==(strOfNums b).toList),()):Bool×Unit)=_
 rw [Go.Lib.strOfNums_toList,Go.Lib.strOfNums_toList]
 refine Prod.ext (Bool.eq_iff_iff.2 ?_) rfl
 rw [bK]
 constructor
 ·intro h;exact bytes_inj ha hb (by simpa using h)
 ·rintro rfl;simp
theorem amV {p1:Blk×Unit→Bool} {f1:Blk×Unit→Bool×Unit} (hp1:∀b,b.ops.length<1000000000→p1 (b,())=true) (hf1:∀b,b.ops.length<1000000000→f1 (b,())=(bp (bZ b),())) (b:Blk) (hb:b.ops.length<1000000000):WU (std 0) p1 f1 (b,()) (fun y=>y=(irB b,())):=by
 have m8:∀x:Int,Co.mk .u8 (x,())=x:=fun _=>rfl
 have fd:∀x:Int,x.fdiv 256=x/256:=fun x=>Int.fdiv_eq_ediv_of_nonneg x (by decide)
 dsimp only [WU,Alg.cl,Alg.cg,Alg.rb,Alg.bd,Alg.l1,Tup.q,Tup.o]
 simp (disch:=omega) only [RR,RB,hp1 b hb,hf1 b hb,m8,u8w,Tf,fd]
 refine⟨fun h=>by unfold irB;rw [h];rfl,fun h=>⟨by decide,?_⟩⟩
 have ok:=bK.1 h
 have sz:=ok.sz
 refine ay (fun(y:List IOp×Int×Int×List Int×Unit)=>y.1=b.ops∧y.2.1=b.ops.length∧0≤y.2.2.1∧y.2.2.1≤b.ops.length∧y.2.2.2.1=[b.pc%256,b.len%256,b.fin%256,b.x%256,b.y%256,b.k/256%256,b.k%256]++(b.ops.take y.2.2.1.toNat).flatMap opB) (fun y=>(b.ops.length-y.2.2.1).toNat) ⟨rfl,rfl,by simp,by simp,by simp⟩ ?_
 rintro⟨(ops:List IOp),(n:Int),(i:Int),(acc:List Int),⟨⟩⟩ hI
 dsimp only at hI ⊢
 obtain⟨rfl,rfl,h1,h2,h3⟩:=hI
 have al:acc.length≤1000:=by
  rw [h3,List.length_append,Fz]
  have:=List.length_take_le' i.toNat b.ops
  simp only [List.length_cons,List.length_nil];omega
 simp (disch:=omega) only [RR,RB,m8,u8w,Tf,fd,List.length_cons,List.length_nil]
 refine⟨fun g=>⟨h1,g,by decide,by omega,⟨by omega,by omega,?_⟩,by omega⟩,fun g=> ?_⟩
 ·rw [h3,show(i+1).toNat=i.toNat+1 by omega,List.take_succ_eq_append_getElem (by omega),List.flatMap_append,List.append_assoc,getD_lt (show i.toNat<b.ops.length by omega)]
  rfl
 ·rw [h3,List.take_of_length_le (by omega)]
  unfold irB;rw [if_pos h];rfl
theorem amW {p1:List Int×List Int×Unit→Bool} {f1:List Int×List Int×Unit→Bool×Unit} (hp1:∀a b,By a→By b→p1 (a,b,())=true) (hf1:∀a b,By a→By b→f1 (a,b,())=(bp (a=b),())) {p2:Blk×Unit→Bool} {f2:Blk×Unit→List Int×Unit} (hp2:∀b,b.ops.length<1000000000→p2 (b,())=true) (hf2:∀b,b.ops.length<1000000000→f2 (b,())=(irB b,())) {p3:Int×Int×Unit→Bool} {f3:Int×Int×Unit→Int×Unit} (hp3:∀a b,0≤a→a≤255→0≤b→b≤255→p3 (a,b,())=true) (hf3:∀a b,0≤a→a≤255→0≤b→b≤255→f3 (a,b,())=(a*256+b,())) (l:List Int) (hl:By l) (hlen:l.length<1000000000):WX (std 0) p1 f1 p2 f2 p3 f3 (l,()) (fun y=>y=rdF l):=by
 have m8:∀x:Int,iY .u8 0 x=x:=fun _=>rfl
 have cv:∀n:Nat,IntKind.i64.wrap (l.getD n default)=l.getD n default:=fun n=>w64 (by have:=hl.at n;omega) (by have:=hl.at n;omega)
 have P3:∀n m:Nat,p3 (l.getD n default,l.getD m default,())=true:=fun n m=>hp3 _ _ (hl.at n).1 (hl.at n).2 (hl.at m).1 (hl.at m).2
 have F3:∀n m:Nat,f3 (l.getD n default,l.getD m default,())=(l.getD n default*256+l.getD m default,()):=fun n m=>hf3 _ _ (hl.at n).1 (hl.at n).2 (hl.at m).1 (hl.at m).2
 dsimp only [WX,Alg.cl,Alg.cg,Alg.rb,Alg.bd,Alg.l1,Tup.q,Tup.o]
 simp (disch:=omega) only [RR,RB,m8,cv,P3,F3]
 have no:¬agp l→rdF l=(0,0,0,0,0,0,false,[],()):=fun h=>by unfold rdF;rw [if_neg (by rw [gH h];decide)]
 have tm:7≤l.length→((l.length:Int)-7).tmod 6=((l.length-7)%6:Nat):=fun h=>by
  rw [Int.tmod_eq_emod_of_nonneg (by omega)];omega
 refine⟨Or.inr (by decide),fun h=> ?_,fun h=> ?_⟩
 ·rw [no]
  rintro⟨⟨g1,g2,g3⟩,_⟩
  rw [tm g1]at h;omega
 have l7:7≤l.length:=by omega
 have l6:(l.length-7)%6=0:=by
  have:=h.1.2
  rw [tm l7]at this;omega
 have aqy:l.length≤295:=by omega
 refine⟨by omega,by omega,by omega,by omega,by omega,by omega,by omega,by omega,by omega,by omega,by omega,by omega,by omega,by omega,?_⟩
 refine ay (fun(y:List Int×Int×Int×Int×Int×Int×Int×Int×Int×Int×Int×Int×Int×Int×List IOp×Unit)=>y.1=l∧(∃j:Nat,y.2.1=7+6*j∧7+6*j≤l.length∧y.2.2.2.2.2.2.2.2.2.2.2.2.2.2.1=Fy l j)∧y.2.2.2.2.2.2.2.2.1=l.getD 0 default∧y.2.2.2.2.2.2.2.2.2.1=l.getD 1 default∧y.2.2.2.2.2.2.2.2.2.2.1=l.getD 2 default∧y.2.2.2.2.2.2.2.2.2.2.2.1=l.getD 3 default∧y.2.2.2.2.2.2.2.2.2.2.2.2.1=l.getD 4 default∧y.2.2.2.2.2.2.2.2.2.2.2.2.2.1=l.getD 5 default*256+l.getD 6 default) (fun y=>(l.length-y.2.1).toNat) ⟨rfl,⟨0,rfl,by omega,rfl⟩,rfl,rfl,rfl,rfl,rfl,rfl⟩ ?_
 rintro⟨(l:List Int),(at_:Int),(z1:Int),(z2:Int),(z3:Int),(z4:Int),(z5:Int),(z6:Int),(pc:Int),(len:Int),(fin:Int),(x:Int),(y:Int),(k:Int),(ops:List IOp),⟨⟩⟩ hI
 dsimp only at hI ⊢
 obtain⟨rfl,⟨j,rfl,j1,rfl⟩,rfl,rfl,rfl,rfl,rfl,rfl⟩:=hI
 have ol:(Fy l j).length=j:=by unfold Fy;rw [List.length_map,List.length_range]
 by_cases g:7+6*(j:Int)<l.length
 ·have w:IntKind.i64.wrap (7+6*(j:Int)+6)=7+6*(j:Int)+6:=w64 (by omega) (by omega)
  have sl:((l.take (7+6*(j:Int)+6).toNat).drop (7+6*(j:Int)).toNat).length=6:=by
   rw [List.length_drop,List.length_take];omega
  have se:∀t:Int,0≤t→t<6→((l.take (7+6*(j:Int)+6).toNat).drop (7+6*(j:Int)).toNat).getD t.toNat default=l.getD (7+6*j+t.toNat) default:=fun t t0 t1=>by
   rw [List.getD_eq_getElem?_getD,List.getElem?_drop,List.getElem?_take_of_lt (by omega),←List.getD_eq_getElem?_getD,show(7+6*(j:Int)).toNat+t.toNat=7+6*j+t.toNat by omega]
  simp (disch:=omega) only [RR,RB,g,w,sl,se,m8,cv,P3,F3,List.length_cons,List.length_nil]
  have es:Fy l (j+1)=Fy l j++ [rdO l (7+6*j)]:=by unfold Fy;rw [List.range_succ,List.map_append];rfl
  repeat' apply And.intro
  all_goals first | omega | exact⟨j+1,by omega,by omega,by rw [es];rfl⟩
 ·have e:7+6*j=l.length:=by omega
  have er:(⟨l.getD 0 default,l.getD 1 default,Fy l j,l.getD 2 default,l.getD 3 default,l.getD 4 default,l.getD 5 default*256+l.getD 6 default⟩:Blk)=rdB l:=by
   unfold rdB;rw [show(l.length-7)/6=j by omega]
  have mE:∀(a1 a2:Int) (a3:List IOp) (a4 a5 a6 a7:Int),Co.mk .blk (a1,a2,a3,a4,a5,a6,a7,())=⟨a1,a2,a3,a4,a5,a6,a7⟩:=fun _ _ _ _ _ _ _=>rfl
  have ob:(rdB l).ops.length<1000000000:=by
   rw [←er];show(Fy l j).length<_;omega
  simp (disch:=omega) only [RR,RB,g,mE,er,hp2 _ ob,hf2 _ ob,hp1 _ _ (QW (rdB l)) hl,hf1 _ _ (QW (rdB l)) hl]
  refine⟨fun h=> ?_,fun h=> ?_⟩
  ·rw [no]
   rintro⟨_,g⟩
   rw [dB g]at h;cases h
  ·unfold rdF
   rw [if_pos (dB ⟨⟨l7,l6,aqy⟩,bK.1 h⟩),←er]
theorem amX {p1:Blk×Blk×Unit→Bool} {f1:Blk×Blk×Unit→Bool×Unit} (hp1:∀b c,b.ops.length<1000000000→c.ops.length<1000000000→p1 (b,c,())=true) (hf1:∀b c,b.ops.length<1000000000→c.ops.length<1000000000→f1 (b,c,())=(chk b c,())) {p2:Blk×Unit→Bool} {f2:Blk×Unit→List Int×Unit} (hp2:∀b,b.ops.length<1000000000→p2 (b,())=true) (hf2:∀b,b.ops.length<1000000000→f2 (b,())=(irB b,())) {p3:List Int×Unit→Bool} {f3:List Int×Unit→Int×Int×Int×Int×Int×Int×Bool×List IOp×Unit} (hp3:∀l,By l→l.length<1000000000→p3 (l,())=true) (hf3:∀l,By l→l.length<1000000000→f3 (l,())=rdF l) {p4:List Int×Unit→Bool} {f4:List Int×Unit→Blk×Blk×Unit} (hp4:∀c,By c→c.length<1000000000→p4 (c,())=true) (hf4:∀c,By c→c.length<1000000000→(f4 (c,())).1.ops.length<100000∧(f4 (c,())).2.1.ops.length<100000) {p5:Blk×Unit→Bool} {f5:Blk×Unit→Bool×Unit} (hp5:∀b,b.ops.length<1000000000→p5 (b,())=true) (hf5:∀b,b.ops.length<1000000000→f5 (b,())=(bp (bZ b),())) (c:List Int) (hc:By c):Yi (std 0) p1 f1 p2 f2 p3 f3 p4 f4 p5 f5 (c,()) (fun y=>y=(true,())):=by
 dsimp only [Yi,Alg.cl,Alg.cg,Alg.rb,Alg.bd,Alg.l1,Tup.q,Tup.o]
 simp (disch:=omega) only [RR]
 by_cases hl:1048576< (c.length:Int)
 ·simp (disch:=omega) only [RR,hl]
 ·obtain⟨D1,D2⟩:=hf4 c hc (by omega)
  have P:=hp4 c hc (by omega)
  generalize (f4 (c,())).1=b at D1 ⊢
  generalize (f4 (c,())).2.1=d at D2 ⊢
  have mE:∀c:Blk,Co.mk .blk (c.pc,c.len,c.ops,c.fin,c.x,c.y,c.k,())=c:=fun _=>rfl
  have B:=QW d
  have L:(irB d).length<1000000000:=by
   unfold irB
   split
   ·rename_i h;rw [FB];have:=(bK.1 h).sz;omega
   ·simp
  have rd:=ags d
  by_cases ok:bZ d
  ·rw [if_pos (dB ok)]at rd
   simp (disch:=omega) only [RR,hl,P,RB,mE,hp2 d (by omega),hf2 d (by omega),hp3 _ B L,hf3 _ B L,rd,hp5 d (by omega),hf5 d (by omega),dB ok,hp1 b d (by omega) (by omega)]
   simp
  ·rw [if_neg (by rw [gH ok];decide)]at rd
   simp (disch:=omega) only [RR,hl,P,RB,mE,hp2 d (by omega),hf2 d (by omega),hp3 _ B L,hf3 _ B L,rd,hp5 d (by omega),hf5 d (by omega),gH ok]
   simp
end Go.TX.F
namespace Go.TX
open Go Go.AE
theorem enters_of {P:Program} {f:FuncId} {fn:Func} {c:Code} (hf:P.funcs[f]? =some fn) (hname:(fn.name== "runtime.NumGoroutine")=false) (hb:fn.body=some c):Enters P f:=by
 intro args w
 have h1:fn.name≠ "runtime.NumGoroutine" :=by simpa using hname
 simp [callFunc,hf,h1,hb,mark]
def Tg (P:Program):Nat→List Field→Bool
 | _,[]=>true
 | k,f::fs=> !(f.name== "_")&&f.offset==k&& (match P.underlying f.type with | some (.int _)=>true | _=>false)&&Tg P (k+1) fs
theorem Ti {P:Program} (w:World) (d:Nat) (xs ys:List Int) (hl:xs.length=ys.length):∀(fs:List Field) (k:Nat),Tg P k fs=true→k+fs.length=xs.length→
  (Op.eqFields (d+1) (xs.map (Value.int .i64)).toArray (ys.map (Value.int .i64)).toArray fs).run P w= .ok (xs.drop k==ys.drop k) w
 | [],k,_,h2=>by
  rw [List.drop_eq_nil_of_le (show xs.length≤k by simp only [List.length_nil]at h2;omega),List.drop_eq_nil_of_le (show ys.length≤k by simp only [List.length_nil]at h2;omega)]
  simp [Op.eqFields]
 | f::fs,k,h1,h2=>by
  simp only [List.length_cons]at h2
  simp only [Tg,Bool.and_eq_true,Bool.not_eq_true',beq_eq_false_iff_ne,beq_iff_eq]at h1
  obtain⟨⟨⟨n1,n2⟩,n3⟩,n4⟩:=h1
  have hk:k<xs.length:=by omega
  have hk':k<ys.length:=by omega
  obtain⟨kd,hu⟩:∃kd,P.underlying f.type=some (.int kd):=by
   cases hu:P.underlying f.type with
   | none=>rw [hu]at n3;cases n3
   | some z=>cases z<;>(first | exact⟨_,rfl⟩ | (rw [hu]at n3;cases n3))
  have pk:P.plainKey f.type=true:=by unfold Program.plainKey;rw [hu]
  have p1:=run_part_plain w pk (xs:=(xs.map (Value.int .i64)).toArray) (off:=f.offset) (v:= .int .i64 xs[k]) (by rw [n2];simp [hk])
  have p2:=run_part_plain w pk (xs:=(ys.map (Value.int .i64)).toArray) (off:=f.offset) (v:= .int .i64 ys[k]) (by rw [n2];simp [hk'])
  have ih:=Ti w d xs ys hl fs (k+1) n4 (by omega)
  simp only [Op.eqFields,if_pos n1,Sem.run_bind,p1,p2,Result.andThen_ok,run_equalIn_int w d f.type .i64 kd _ _ hu]
  have e:(xs.drop k==ys.drop k)=((xs[k]==ys[k])&& (xs.drop (k+1)==ys.drop (k+1))):=by rw [List.drop_eq_getElem_cons hk,List.drop_eq_getElem_cons hk'];rfl
  rw [e]
  by_cases c:(xs[k]==ys[k])=true
  ·rw [c]
   simp only [Bool.not_true,Bool.false_eq_true,if_false,ih,Bool.true_and]
  ·have c2:(xs[k]==ys[k])=false:=by simpa using c
   rw [c2]
   simp only [Bool.not_false,if_true,Sem.run_pure,Bool.false_and]
theorem agt {P:Program} {t:TypeId} {n:Nat} (hu:P.underlying t=some (.struct (P.fieldsOf t))) (hs:P.stoodInHeld t=false) (hg:P.eqGuardType P.depth t=false) (hf:Tg P 0 (P.fieldsOf t).toList=true) (hn:(P.fieldsOf t).size=n) (xs ys:List Int) (hx:xs.length=n) (hy:ys.length=n) (w:World):
  (Op.equal t (.agg (xs.map (Value.int .i64)).toArray) (.agg (ys.map (Value.int .i64)).toArray)).run P w= .ok (xs==ys) w∧
  (eqGuard .eql t (.tmp 0) (.tmp 0) (.agg (xs.map (Value.int .i64)).toArray) (.agg (ys.map (Value.int .i64)).toArray)).run P w= .ok () w:=by
 refine⟨?_,run_eqGuard_agg w _ _ _ _ _ _ hg⟩
 show(Op.equalIn (9999+1) t _ _).run P w=_
 rw [run_equalIn_struct w 9999 t _ _ hu hs,Ti w 9998 xs ys (by omega) _ 0 hf (by rw [Array.length_toList];omega)]
 rfl
noncomputable def never (s:Sig):Ct aB s:={pre:=fun _=>false,fn:=fun _=>Classical.choice (sU _)}
theorem jG {E:Tab} {f:FuncId} {s:Sig} (h:Enters E.P f):cu E f (bW (never s)) where
 enters:=h
 calls:=by
  rintro args hh n K ⟨m,vs,h2,h3,h4,h5,cr,h6,h7,h8⟩
  exfalso
  unfold qF at h6
  split at h6
  ·split at h6
   ·split at h6
    ·split at h6
     ·cases h6
      have:=h7 false (List.mem_append_right _ (List.mem_singleton.2 rfl))
      cases this
     ·cases h6
    ·cases h6
   ·cases h6
  ·cases h6
abbrev aqz:Sig:={args:=[.c (.rows true .u8)],objs:=[],res:=[.c .bool],dK:=[]}
def entry (W:World):Ctx:={K:=fun _ b=>b<W.heap.size,μ:=fun _=>none,n:=0}
theorem QX (W:World):bE (entry W) W []:=
 ⟨fun l o h=>(by cases h),fun l o l' o' b h=>(by cases h),fun f b ⟨l,o,h,_⟩=>(by cases h),fun f b h=>h,fun b h=>h⟩
theorem NK {W W':World} {c':Ctx} {h':Heap} (g:Grow (entry W) W [] c' W' h'):RowKit.Below W.heap.size W W':=
 ⟨g.os,g.tape,g.output,g.size,fun k hk=>g.kept k hk fun⟨l,o,h,_⟩=>by cases h⟩
theorem abv {c:Ctx} {w:World} {v:Value} {r:PV} {N:NM} {b:Bool} (h1:bD c w v r) (h2:PVR N r (.c (.d true (.bool b)))):v= .bool b:=by
 cases h2 with
 | one h=>
  cases h with
  | c h=>
   cases h with
   | d h3 _=>
    subst h3
    cases h1 with
    | c _ _ h4=>cases h4 with
     | d _ _ _ h5=>cases h5;rfl
  | agg h=>cases h
theorem aqA {E:Tab} {f:FuncId} {c:Ct aB aqz} (hc:cu E f (bW c)) {xs:List Int} {W:World} {v:Value} (hv:dF (fun b=>b<W.heap.size) W v (.rows 1 (aK .u8 xs)))
  (hg:qo E (entry W) W) (hp:c.pre (xs,())=true):Go.Calls E.P f #[v] W fun e W'=>e= .returned (.bool (c.fn (xs,())).1)∧RowKit.Below W.heap.size W W':=by
 refine(hc.calls [.c (.d true (.rows 1 (aK .u8 xs)))] [] 0 (fun r _ _=>PVR (nmh []) r (.c (.d true (.bool (c.fn (xs,())).1)))) ?_ (entry W) W [v] rfl (.cons (.c _ _ (.d true _ _ hv)) .nil) (QX W) hg).mono ?_
 ·refine⟨0,[.c (.d true (.rows .u8 xs))],[],.cons (.one (.c (.d rfl fun _=> .inl rfl))) .nil,⟨fun l o h=>(by cases h),fun _ _=>rfl⟩,rfl,_,rfl,?_,_,_,rfl,?_⟩
  ·intro b hb
   rcases List.mem_append.1 hb with h | h
   ·cases h
   ·rw [List.mem_singleton]at h;rw [h];exact hp
  ·intro r _ _ h _ _ _;exact h
 ·rintro e W' he
  cases e with
  | returned u=>
   obtain⟨c',r,h',j,g,_,_,h1,h2⟩:=he
   exact⟨by rw [abv h1 h2],NK g⟩
  | outgrown=>exact he.elim
  | panicked _=>exact he.elim
open Go.RowKit Go.ChangeShapes Go.WideShapes Go.ChangeAt in
theorem Y6 {H:Type} {enc:TypeId×Value→H} {P:Program} {t e:TypeId} (ht:P.underlying t=some (.slice e)) (he:P.underlying e=some (.int .u8)) (hc:P.cellsOf e=1) {W:World} {base:Nat} {v:Value} {d:DataW H} {p:List MemPlace}
  (hval:Value.okWide P W .any base t v) (h:DataW.Trod enc P W 0 (fun _=>true) true t v d p) (hlt:∀x∈p,x.block<W.heap.size):
  ∃xs:List Int,dF (fun b=>b<W.heap.size) W v (.rows 1 (aK .u8 xs))∧∀z∈xs,0≤z∧z≤255:=by
 obtain⟨a0,len,cap,rfl⟩:=okWide_slice ht hval
 obtain⟨fuel,hf⟩:=h
 rcases open_ints ht he hc hf with⟨hcs,hx⟩ | ⟨a,len',cap',zs,hcs,_,hl,hm,hz,hx,hcell,hwz⟩
 ·simp [Value.cells]at hcs
  obtain⟨rfl,rfl,rfl⟩:=hcs
  exact⟨[],.none _ _ _,fun _ h=>by cases h⟩
 ·simp [Value.cells]at hcs
  obtain⟨rfl,rfl,rfl⟩:=hcs
  simp only [Prod.mk.injEq]at hx
  obtain⟨rfl,rfl⟩:=hx
  simp only [if_true]at hz
  have rng:∀z∈zs,0≤z∧z≤255:=fun z hz=>by
   obtain⟨i,hi,rfl⟩:=List.getElem_of_mem hz
   have:=range_u8 hwz i
   rwa [List.getElem?_eq_getElem hi]at this
  refine⟨zs.take len,?_,fun z h=>rng z (List.mem_of_mem_take h)⟩
  by_cases h0:len=0
  ·subst h0;exact .none _ _ _
  ·obtain⟨b,off,spot⟩:=a
   have hspot:spot=none:=by simpa [Addr.add]using World.cell?_spot (hcell 0 (by omega))
   subst hspot
   have hbW:b<W.heap.size:=hlt (.cell b off) (MemPlace.mem_row.2 ⟨0,by omega,by simp⟩)
   have hlen:(aK .u8 (zs.take len)).length=len:=by simp only [aK,List.length_map,List.length_take];omega
   have hget:∀i,i<len→(aK .u8 (zs.take len)).getD i []=[.int .u8 (zs.getD i 0)]:=fun i hi=>by
    simp only [aK,List.getD,List.getElem?_map,List.getElem?_take_of_lt hi,List.getElem?_eq_getElem (show i<zs.length by omega)]
    rfl
   refine .rows b off cap 1 len _ (fun i j=> .int .u8 (zs.getD i 0)) hbW hlen.symm hl (fun i j hi hj=> ?_) (fun i hi=> ?_) (fun i j hi hj=> ?_)
   ·rw [hlen]at hi
    have:=hcell i (by omega)
    rw [add_plain]at this
    rw [show off+i*1+j=off+i by omega]
    exact this
   ·rw [hlen]at hi;rw [hget i hi];rfl
   ·rw [hlen]at hi
    have hj0:j=0:=by omega
    subst hj0
    unfold gd;rw [hget i hi];exact .int _ _
end Go.TX
namespace Go.TX.Seat
open Go Go.AE Go.TX Go.TX.F Go.Proofs
set_option maxRecDepth 100000
theorem aqB:∀t n,E.ieq t=some n→∀(xs ys:List Int),xs.length=n→ys.length=n→∀w,
  (Op.equal t (.agg (xs.map (Value.int .i64)).toArray) (.agg (ys.map (Value.int .i64)).toArray)).run E.P w= .ok (xs==ys) w∧
  (eqGuard .eql t (.tmp 0) (.tmp 0) (.agg (xs.map (Value.int .i64)).toArray) (.agg (ys.map (Value.int .i64)).toArray)).run E.P w= .ok () w:=by
 intro t n h
 obtain⟨c,hc,rfl⟩:∃c,ieq t=some c∧c.size=n:=by
  have h':(ieq t).map (fun c=>c.size)=some n:=h
  cases hi:ieq t with
  | none=>rw [hi]at h';cases h'
  | some c=>rw [hi]at h';cases h';exact⟨c,rfl,rfl⟩
 unfold ieq at hc
 split at hc
 all_goals first | (cases hc;exact agt (by kernel_rfl) (by kernel_rfl) (by kernel_rfl) (by kernel_rfl) (by kernel_rfl)) | cases hc
theorem hE:aI E:=⟨aqb,aqB⟩
theorem aqC:∀t c,X.ieq t=some c→(c= .ins∧E.ieq t=some 4)∨(c= .iop∧E.ieq t=some 5):=by
 intro t c h
 have h:ieq t=some c:=h
 have e:E.ieq t=(ieq t).map fun c=>c.size:=rfl
 rw [e,h]
 unfold ieq at h
 split at h
 all_goals first | (cases h;first | exact Or.inl ⟨rfl,rfl⟩ | exact Or.inr ⟨rfl,rfl⟩) | cases h
theorem xok:XOK X E:=⟨rfl,fun g c h=>(by cases h),aqC⟩
theorem hm:E.P.follows .mixedOrders=true:=by kernel_rfl
theorem hlN:∀p∈([]:List (FuncId×Sigma (Ct aB))),cu E p.1 (bW p.2.2):=fun _ h=>by cases h
theorem hlC {f:FuncId} {s:Sig} {c:Ct aB s} {l:List (FuncId×Sigma (Ct aB))} (h:cu E f (bW c)) (r:∀p∈l,cu E p.1 (bW p.2.2)):∀p∈(f,⟨s,c⟩)::l,cu E p.1 (bW p.2.2):=fun p hp=>by
 rcases List.mem_cons.1 hp with rfl | hp
 ·exact h
 ·exact r p hp
@[reducible] def _root_.Go.TX.Fn.c {E : Tab} {f : FuncId} {s : Sig} {F : gP s.inp → (gP s.out → Prop) → Prop} {c : Ct aB s} (_ : Fn E f F c) : Ct aB s := c
theorem mk {lk:aG} {f:FuncId} {fn:Func} (hf:E.P.funcs[f]? =some fn) {l:List (FuncId×Sigma (Ct aB))} (hl:∀p∈l,cu E p.1 (bW p.2.2)) {ord:List (Nat×List fC)} {s:Sig} {an:Ann}
 {F:gP s.inp→(gP s.out→Prop)→Prop} (h:Ru X E (std 0) ord an s fn l F) (hb:fn.body.isSome=true:=by rfl) (hn:(fn.name== "runtime.NumGoroutine")=false:=by kernel_rfl):Fn E f F (cn F):=apt hE xok hm hf hb (fun _=>enters_of hf hn) hl h
theorem Y7 {E:Tab} {f:FuncId} {c:Ct aB {args:=[.c (.int .u64)],objs:=[],res:=[.c (.int .i64)],dK:=[]}} {g:Int→Int} (hent:Enters E.P f) (hg:(fun x:Int=>(c.fn (x,())).1)=g)
  (h:∀(x:Int) (w:World),c.pre (x,())=true→Go.Calls E.P f #[.int .u64 x] w fun e w'=>e= .returned (.int .i64 (g x))∧w'=w):cu E f (bW c) where
 enters:=hent
 calls:=by
  rintro args hh n K ⟨m,qs,hs,hargs,HR,hlen,cr,hcall,aaS,v,kT,hvk,hK⟩ c1 w vs hcn pW Hh Gl
  have key:∀f0 (x:Int),qs=[.c (.d f0 (.int .u64 x))]→qF (std m) hs {args:=[.c (.int .u64)],objs:=[],res:=[.c (.int .i64)],dK:=[]} c qs=some {ck:=[c.pre (x,())],ts:=[.i],y:=c.fn (x,()),touched:=[],pure:=true,k:=fun y=>some (.c (.d true (.int .i64 y.1)),hs)}:=by
   intro f0 x e;subst e;rfl
  have hq:∃f0 x,qs=[.c (.d f0 (.int .u64 x))]:=by
   unfold qF at hcall
   cases qs with
   | nil=>simp [nH]at hcall
   | cons q r=>
    cases r with
    | cons q2 r2=>
     exfalso
     simp only [nH]at hcall
     cases hx:FW (std m) hs (.c (.int .u64)) q (es0 (std m) 0 [])with
     | none=>rw [hx]at hcall;simp at hcall
     | some s=>rw [hx]at hcall;simp [nH]at hcall
    | nil=>
     simp only [nH]at hcall
     cases q with
     | c y=>
      simp only [FW,extC]at hcall
      cases y with
      | d f0 y=>
       cases y with
       | int k x=>
        by_cases hk:IntKind.u64=k
        ·subst hk;exact⟨f0,x,rfl⟩
        ·simp [hk]at hcall
       | _=>simp at hcall
      | _=>simp at hcall
     | _=>simp [FW]at hcall
  obtain⟨f0,x,rfl⟩:=hq
  rw [key f0 x rfl]at hcall
  simp only [Option.some.injEq]at hcall
  subst hcall
  simp only [Option.some.injEq,Prod.mk.injEq]at hvk
  obtain⟨rfl,rfl⟩:=hvk
  have hpre:=aaS _ (List.mem_singleton.2 rfl)
  have hv:vs=[.int .u64 x]:=by
   cases hargs with
   | cons h1 h2=>
    cases h2
    cases pW with
    | cons h3 h4=>
     cases h4
     cases h1 with
     | one h1=>
      cases h1 with
      | c h1=>
       cases h1 with
       | d h5 _=>
        subst h5
        cases h3 with
        | c _ _ h6=>cases h6 with
         | d _ _ _ h7=>cases h7;rfl
      | agg h1=>cases h1
  subst hv
  refine(h x w hpre).mono ?_
  rintro e w' ⟨rfl,rfl⟩
  refine⟨c1,.c (.d true (.int .i64 (g x))),hh,0,.refl _ _ _,Hh,hcn,.c _ _ (.d _ _ _ (.int _ _)),hK _ _ _ ?_ HR (.refl _ _ _) hlen⟩
  rw [←hg]
  exact .one (.c (.d rfl fun _=> .inl rfl))
end Go.TX.Seat
namespace Go.TX.F
open Go Go.AE Go.TX Go.TX.Seat Go.Proofs
set_option maxRecDepth 100000
def Jo:=mk Tryz.func20 hlN (aeF (std 0))
noncomputable def EX:=Jo.c
def agu:=fun b hb hl=>(Jo.cs (YG b hb hl)).1
def agv:=fun b hb hl=>(Jo.cs (YG b hb hl)).2
def kX:=mk Tryz.func22 hlN (aeG (std 0))
noncomputable def bq:=kX.c
def qP:=fun n b p hb h1 h2=>(kX.cs (YH n b p hb h1 h2)).1
def qQ:=fun n b p hb h1 h2=>(kX.cs (YH n b p hb h1 h2)).2
def oZ:=mk Tryz.func48 hlN (aeH (std 0))
noncomputable def bO:=oZ.c
def uz:=fun a b c=>(oZ.cs (Yy a b c)).1
def uD:=fun a b c=>(oZ.cs (Yy a b c)).2
def Jp:=mk Tryz.func105 hlN (aeI (std 0))
noncomputable def Eu:=Jp.c
def agw:=fun a=>(Jp.cs (YB a)).1
def agx:=fun a=>(Jp.cs (YB a)).2
def QY:=mk Tryz.func104 (hlC kX.ok hlN) (aeJ (std 0) bq)
noncomputable def ER:=QY.c
def qc:=fun n b p hb h1 h2=>QY.cs (afI qP qQ n b p hb h1 h2)
def agy:=fun n b p hb h1 h2=>(qc n b p hb h1 h2).1
def agz:=fun n b p hb h1 h2=>(qc n b p hb h1 h2).2
def Ad:=mk Tryz.func87 hlN (aeK (std 0))
noncomputable def iZ:=Ad.c
def QZ:=fun a=>(Ad.cs (Yz a)).1
def Q0:=fun a=>(Ad.cs (Yz a)).2
def Q5:=mk Tryz.func130 (hlC oZ.ok hlN) (aeL (std 0) bO)
noncomputable def Ep:=Q5.c
def uE:=fun k=>Q5.cs (afL uz uD k)
def agA:=fun k=>(uE k).1
def agB:=fun k=>(uE k).2
def Jq:=mk Tryz.func88 (hlC Q5.ok hlN) (aeM (std 0) Ep)
noncomputable def oH:=Jq.c
def za:=fun ops x n h1=>Jq.cs (afM agA agB ops x n h1)
def Y8:=fun ops x n h1=>(za ops x n h1).1
def Y9:=fun ops x n h1=>(za ops x n h1).2
def Q6:=mk Tryz.func49 (hlC Ad.ok (hlC oZ.ok (hlC Jq.ok hlN))) (aeN (std 0) iZ bO oH)
noncomputable def Es:=Q6.c
def Bc:=fun ops i len h0 h1 h3=>Q6.cs (afN QZ Q0 uz uD Y8 Y9 ops i len h0 h1 h3)
def agC:=fun ops i len h0 h1 h3=>(Bc ops i len h0 h1 h3).1
def agD:=fun ops i len h0 h1 h3=>(Bc ops i len h0 h1 h3).2
def Q7:=mk Tryz.func50 (hlC Ad.ok (hlC Jq.ok hlN)) (aeO (std 0) iZ oH)
noncomputable def Er:=Q7.c
def ze:=fun b=>Q7.cs (afO QZ Q0 Y8 Y9 b)
def agE:=fun b=>(ze b).1
def agF:=fun b=>(ze b).2
def qR:=mk Tryz.func18 (hlC oZ.ok (hlC Q7.ok (hlC Q6.ok hlN))) (aeP (std 0) bO Er Es)
noncomputable def bP:=qR.c
def Bd:=fun b h2=>qR.cs (afP uz uD agE agF agC agD b h2)
def xV:=fun b h2=>(Bd b h2).1
def xW:=fun b h2=>(Bd b h2).2
end Go.TX.F
namespace Go.TX.F
open Go Go.AE Go.TX Go.TX.Seat Go.Proofs
set_option maxRecDepth 100000
def Q8:=mk Tryz.func141 (hlC Jp.ok (hlC Ad.ok hlN)) (aeQ (std 0) Eu iZ)
noncomputable def EJ:=Q8.c
def zf:=fun op a b=>Q8.cs (afG QZ Q0 agw agx op a b)
def agG:=fun op a b=>(zf op a b).1
def agH:=fun op a b=>(zf op a b).2
def Q9:=mk Tryz.func143 (hlC kX.ok hlN) (aeR (std 0) bq)
noncomputable def Ey:=Q9.c
def wN:=fun b p hb h1 h2=>Q9.cs (af3 qP qQ b p hb h1 h2)
def agI:=fun b p hb h1 h2=>(wN b p hb h1 h2).1
def agJ:=fun b p hb h1 h2=>(wN b p hb h1 h2).2
def Ra:=mk Tryz.func170 hlN (aeS (std 0))
noncomputable def Ew:=Ra.c
def agK:=fun i=>(Ra.cs (afR i)).1
def Jr:=mk Tryz.func145 (hlC oZ.ok (hlC Ra.ok hlN)) (aeT (std 0) bO Ew)
noncomputable def oJ:=Jr.c
def Js:=fun i=>Jr.cs (afS uz uD agK i)
def Za:=fun i=>(Js i).1
def Jt:=mk Tryz.func146 hlN (aeU (std 0))
noncomputable def oI:=Jt.c
def Zb:=fun i=>(Jt.cs (afT i)).1
def Ju:=mk Tryz.func144 (hlC Jt.ok (hlC Jr.ok hlN)) (aeV (std 0) oI oJ)
noncomputable def oK:=Ju.c
def FC:=fun i=>Ju.cs (afU Zb Za i)
def Zc:=fun i=>(FC i).1
def Rb:=mk Tryz.func114 (hlC Q9.ok (hlC kX.ok (hlC Ju.ok hlN))) (aeW (std 0) Ey bq oK)
noncomputable def Ez:=Rb.c
def uF:=fun b p hb h1 h2=>Rb.cs (af4 agI agJ qP qQ Zc b p hb h1 h2)
def agL:=fun b p hb h1 h2=>(uF b p hb h1 h2).1
def agM:=fun b p hb h1 h2=>(uF b p hb h1 h2).2
def Rc:=mk Tryz.func68 (hlC Rb.ok (hlC kX.ok hlN)) (aeX (std 0) Ez bq)
noncomputable def EP:=Rc.c
def uG:=fun b p hb h1 h2=>Rc.cs (af5 agL agM qP qQ b p hb h1 h2)
def agN:=fun b p hb h1 h2=>(uG b p hb h1 h2).1
def agO:=fun b p hb h1 h2=>(uG b p hb h1 h2).2
def Rf:=mk Tryz.func115 (hlC Jt.ok (hlC Jr.ok (hlC oZ.ok (hlC Ju.ok hlN)))) (aeY (std 0) oI oJ bO oK)
noncomputable def ED:=Rf.c
def Jv:=fun pc l hl=>Rf.cs (afV Zb Za uz uD Zc pc l hl)
def agP:=fun pc l hl=>(Jv pc l hl).1
def uH:=mk Tryz.func147 hlN (aeZ (std 0))
noncomputable def eF:=uH.c
def xX:=fun a1 a2 a3 a4 a5 a6 o ops hl=>(uH.cs (YR a1 a2 a3 a4 a5 a6 o ops hl)).1
def xY:=fun a1 a2 a3 a4 a5 a6 o ops hl=>(uH.cs (YR a1 a2 a3 a4 a5 a6 o ops hl)).2
def FD:=mk Tryz.func148 (hlC uH.ok hlN) (ae0 (std 0) eF)
noncomputable def oM:=FD.c
def Zd:=fun a1 a2 a3 a4 a5 a6 k x ops hl=>(FD.cs (YT xX xY a1 a2 a3 a4 a5 a6 k x ops hl)).1
def Ze:=fun a1 a2 a3 a4 a5 a6 k x ops hl=>(FD.cs (YT xX xY a1 a2 a3 a4 a5 a6 k x ops hl)).2
def xZ:=mk Tryz.func149 (hlC uH.ok hlN) (ae1 (std 0) eF)
noncomputable def gB:=xZ.c
def FH:=fun a1 a2 a3 a4 a5 a6 k ops hl=>(xZ.cs (YS xX xY a1 a2 a3 a4 a5 a6 k ops hl)).1
def FJ:=fun a1 a2 a3 a4 a5 a6 k ops hl=>(xZ.cs (YS xX xY a1 a2 a3 a4 a5 a6 k ops hl)).2
def Jw:=mk Tryz.func150 (hlC xZ.ok (hlC uH.ok hlN)) (ae2 (std 0) gB eF)
noncomputable def oL:=Jw.c
def rA:=fun a1 a2 a3 a4 a5 a6 k a o ops hl=>Jw.cs (afW FH FJ xX xY a1 a2 a3 a4 a5 a6 k a o ops hl)
def Zf:=fun a1 a2 a3 a4 a5 a6 k a o ops hl=>(rA a1 a2 a3 a4 a5 a6 k a o ops hl).1
def Zg:=fun a1 a2 a3 a4 a5 a6 k a o ops hl=>(rA a1 a2 a3 a4 a5 a6 k a o ops hl).2
def Rh:=mk Tryz.func151 hlN (ae3 (std 0))
noncomputable def EC:=Rh.c
def agQ:=fun k hk=>(Rh.cs (afY k hk)).1
def Ri:=mk Tryz.func152 (hlC xZ.ok (hlC uH.ok (hlC Jw.ok (hlC FD.ok hlN)))) (ae4 (std 0) gB eF oL oM)
noncomputable def EB:=Ri.c
def uI:=fun a1 a2 a3 a4 a5 a6 i k ops hl=>Ri.cs (afX FH FJ xX xY Zf Zg Zd Ze a1 a2 a3 a4 a5 a6 i k ops hl)
def agR:=fun a1 a2 a3 a4 a5 a6 i k ops hl=>(uI a1 a2 a3 a4 a5 a6 i k ops hl).1
def agS:=fun a1 a2 a3 a4 a5 a6 i k ops hl=>(uI a1 a2 a3 a4 a5 a6 i k ops hl).2
def Jy:=mk Tryz.func153 (hlC xZ.ok hlN) (ae5 (std 0) gB)
noncomputable def EA:=Jy.c
def agT:=fun a1 a2 a3 a4 a5 a6 i ops hl=>(Jy.cs (YU FH FJ a1 a2 a3 a4 a5 a6 i ops hl)).1
def agU:=fun a1 a2 a3 a4 a5 a6 i ops hl=>(Jy.cs (YU FH FJ a1 a2 a3 a4 a5 a6 i ops hl)).2
def Rj:=mk Tryz.func116 (hlC xZ.ok (hlC Jy.ok (hlC uH.ok (hlC Ri.ok (hlC Jw.ok (hlC FD.ok (hlC Rh.ok hlN))))))) (ae6 (std 0) gB EA eF EB oL oM EC)
noncomputable def EF:=Rj.c
def zh:=fun a1 a2 a3 a4 a5 a6 i k ops hk hl=>Rj.cs (afZ FH FJ agT agU xX xY agR agS Zf Zg Zd Ze agQ a1 a2 a3 a4 a5 a6 i k ops hk hl)
def agV:=fun a1 a2 a3 a4 a5 a6 i k ops hk hl=>(zh a1 a2 a3 a4 a5 a6 i k ops hk hl).1
def agW:=fun a1 a2 a3 a4 a5 a6 i k ops hk hl=>(zh a1 a2 a3 a4 a5 a6 i k ops hk hl).2
def Rk:=mk Tryz.func69 (hlC Rf.ok (hlC Rj.ok hlN)) (ae7 (std 0) ED EF)
noncomputable def EO:=Rk.c
def rC:=fun pc l hl hk=>Rk.cs (af0 agP agV agW pc l hl hk)
def agX:=fun pc l hl hk=>(rC pc l hl hk).1
def agY:=fun pc l hl hk=>(rC pc l hl hk).2
def yc:=mk Tryz.func120 hlN (ae8 (std 0))
noncomputable def gF:=yc.c
def Jz:=fun b hb=>(yc.cs (YV b hb)).1
def JA:=fun b hb=>(yc.cs (YV b hb)).2
def FK:=mk Tryz.func121 (hlC oZ.ok hlN) (ae9 (std 0) bO)
noncomputable def oN:=FK.c
def Zh:=fun o al hk hx hy=>(FK.cs (YZ uz uD o al hk hx hy)).1
def Zi:=fun o al hk hx hy=>(FK.cs (YZ uz uD o al hk hx hy)).2
def FL:=mk Tryz.func71 (hlC qR.ok (hlC FK.ok (hlC yc.ok hlN))) (afa (std 0) bP oN gF)
noncomputable def jc:=FL.c
def uJ:=fun b hb=>FL.cs (agh xV xW Zh Zi Jz JA b hb)
def Rl:=fun b hb=>(uJ b hb).1
def Rm:=fun b hb=>(uJ b hb).2
def JB:=mk Tryz.func154 (hlC FK.ok hlN) (afb (std 0) oN)
noncomputable def oO:=JB.c
def uK:=fun b kp ok hk=>JB.cs (agb Zh Zi b kp ok hk)
def Zj:=fun b kp ok hk=>(uK b kp ok hk).1
def Zk:=fun b kp ok hk=>(uK b kp ok hk).2
end Go.TX.F
namespace Go.TX.F
open Go Go.AE Go.TX Go.TX.Seat Go.Proofs
set_option maxRecDepth 100000
def Rn:=mk Tryz.func155 (hlC qR.ok (hlC oZ.ok hlN)) (afc (std 0) bP bO)
noncomputable def EG:=Rn.c
def uL:=fun b hb=>Rn.cs (aga xV xW uz uD b hb)
def agZ:=fun b hb=>(uL b hb).1
def ag0:=fun b hb=>(uL b hb).2
def Ro:=mk Tryz.func117 (hlC qR.ok (hlC Rn.ok (hlC JB.ok hlN))) (afd (std 0) bP EG oO)
noncomputable def EM:=Ro.c
def uM:=fun b hb=>Ro.cs (agc xV xW agZ ag0 Zj Zk b hb)
def ag1:=fun b hb=>(uM b hb).1
def ag2:=fun b hb=>(uM b hb).2
def JC:=mk Tryz.func156 hlN (afe (std 0))
noncomputable def EH:=JC.c
def ag3:=fun ops k h0 h1 h2=>(JC.cs (Y0 ops k h0 h1 h2)).1
def ag4:=fun ops k h0 h1 h2=>(JC.cs (Y0 ops k h0 h1 h2)).2
def Rp:=mk Tryz.func118 (hlC qR.ok (hlC JB.ok (hlC JC.ok hlN))) (aff (std 0) bP oO EH)
noncomputable def EN:=Rp.c
def uN:=fun b hb=>Rp.cs (agd xV xW Zj Zk ag3 ag4 b hb)
def ag5:=fun b hb=>(uN b hb).1
def ag6:=fun b hb=>(uN b hb).2
def FN:=mk Tryz.func157 hlN (afg (std 0))
noncomputable def oP:=FN.c
def Zl:=fun ops k=>(FN.cs (YW ops k)).1
def Zm:=fun ops k=>(FN.cs (YW ops k)).2
def JD:=mk Tryz.func171 hlN (afh (std 0))
noncomputable def EI:=JD.c
def ag7:=fun b k=>(JD.cs (YX b k)).1
def ag8:=fun b k=>(JD.cs (YX b k)).2
def Rq:=mk Tryz.func158 (hlC JD.ok (hlC FN.ok hlN)) (afi (std 0) EI oP)
noncomputable def EK:=Rq.c
def uO:=fun b h=>Rq.cs (af6 ag7 ag8 Zl Zm b h)
def ag9:=fun b h=>(uO b h).1
def aha:=fun b h=>(uO b h).2
def Rs:=mk Tryz.func119 (hlC qR.ok (hlC Q8.ok (hlC Rq.ok (hlC FN.ok (hlC yc.ok hlN))))) (afj (std 0) bP EJ EK oP gF)
noncomputable def EL:=Rs.c
def rD:=fun b hb=>Rs.cs (af9 xV xW agG agH ag9 aha Zl Zm Jz JA b hb)
def ahb:=fun b hb=>(rD b hb).1
def ahc:=fun b hb=>(rD b hb).2
def JE:=mk Tryz.func70 (hlC Rs.ok (hlC FL.ok (hlC Ro.ok (hlC Rp.ok hlN)))) (afk (std 0) EL jc EM EN)
noncomputable def oQ:=JE.c
def wO:=fun b hb=>JE.cs (af7 ahb ahc Rl Rm ag1 ag2 ag5 ag6 b hb)
def Zn:=fun b hb=>(wO b hb).1
def Zo:=fun b hb=>(wO b hb).2
def Rt:=mk Tryz.func27 (hlC Rk.ok (hlC JE.ok (hlC FL.ok (hlC kX.ok (hlC Rc.ok hlN))))) (afl (std 0) EO oQ jc bq EP)
noncomputable def ET:=Rt.c
def rE:=fun b p hb h1 h2=>Rt.cs (agi agX agY Zn Zo Rl Rm qP qQ agN agO b p hb h1 h2)
def ahd:=fun b p hb h1 h2=>(rE b p hb h1 h2).1
def ahe:=fun b p hb h1 h2=>(rE b p hb h1 h2).2
def Zp:=mk Tryz.func80 hlN (aqc (std 0))
noncomputable def FX:=Zp.c
def amY:=fun a=>(Zp.cs (alF a)).1
def amZ:=fun a=>(Zp.cs (alF a)).2
def Zq:=mk Tryz.func41 (hlC Zp.ok hlN) (aqd (std 0) FX)
noncomputable def xP:=Zq.c
def nO:=fun a b=>Zq.cs (aqn amY amZ a b)
def ahf:=fun a b=>(nO a b).1
def ahg:=fun a b=>(nO a b).2
def Zr:=mk Tryz.func42 hlN (aqe (std 0))
noncomputable def FY:=Zr.c
def am0:=fun a b=>(Zr.cs (alG a b)).1
def am1:=fun a b=>(Zr.cs (alG a b)).2
def Zt:=mk Tryz.func81 (hlC Zq.ok hlN) (akm (std 0) xP)
noncomputable def Mx:=Zt.c
def iP:=fun a b ha=>Zt.cs (alH ahf ahg a b ha)
def am2:=fun a b ha=>(iP a b ha).1
def am3:=fun a b ha=>(iP a b ha).2
def Hz:=mk Tryz.func43 (hlC Zr.ok (hlC Zq.ok (hlC Zt.ok hlN))) (akn (std 0) FY xP Mx)
noncomputable def jl:=Hz.c
def nP:=fun a b ha=>Hz.cs (alI ahf ahg am2 am3 am0 am1 a b ha)
def Tj:=fun a b ha=>(nP a b ha).1
def Tk:=fun a b ha=>(nP a b ha).2
def kI:=mk Tryz.func72 hlN (ako (std 0))
noncomputable def aW:=kI.c
def kJ:=fun a b c=>(kI.cs (ab0 a b c)).1
def kL:=fun a b c=>(kI.cs (ab0 a b c)).2
def Zu:=mk Tryz.func122 (hlC Zp.ok hlN) (aqf (std 0) FX)
noncomputable def xQ:=Zu.c
def uP:=fun a b=>Zu.cs (aqo amY amZ a b)
def am4:=fun a b=>(uP a b).1
def am5:=fun a b=>(uP a b).2
def Zv:=mk Tryz.func73 (hlC Zu.ok hlN) (akp (std 0) xQ)
noncomputable def MH:=Zv.c
def iM:=fun a ha=>Zv.cs (alJ am4 am5 a ha)
def am6:=fun a ha=>(iM a ha).1
def am7:=fun a ha=>(iM a ha).2
def Tm:=mk Tryz.func124 hlN (akq (std 0))
noncomputable def MB:=Tm.c
def am8:=fun a n=>(Tm.cs (ab4 a n)).1
def am9:=fun a n=>(Tm.cs (ab4 a n)).2
def Zw:=mk Tryz.func159 (hlC Tm.ok hlN) (akr (std 0) MB)
noncomputable def MC:=Zw.c
def iE:=fun a n ha=>Zw.cs (alK am8 am9 a n ha)
def ana:=fun a n ha=>(iE a n ha).1
def anb:=fun a n ha=>(iE a n ha).2
def Zx:=mk Tryz.func123 (hlC Zw.ok hlN) (aks (std 0) MC)
noncomputable def ME:=Zx.c
def gK:=fun a n ha=>Zx.cs (alL ana anb a n ha)
def ane:=fun a n ha=>(gK a n ha).1
def anf:=fun a n ha=>(gK a n ha).2
def Tn:=mk Tryz.func74 (hlC Zx.ok hlN) (akt (std 0) ME)
noncomputable def vX:=Tn.c
def rF:=fun a n ha=>Tn.cs (alM ane anf a n ha)
def aci:=fun a n ha=>(rF a n ha).1
def acj:=fun a n ha=>(rF a n ha).2
def Tp:=mk Tryz.func76 hlN (aku (std 0))
noncomputable def MF:=Tp.c
def ang:=fun m=>(Tp.cs (ab5 m)).1
def anh:=fun m=>(Tp.cs (ab5 m)).2
def Zy:=mk Tryz.func125 (hlC Tp.ok hlN) (akv (std 0) MF)
noncomputable def MG:=Zy.c
def dh:=fun a ha=>Zy.cs (alN (G:=(fun m:aj=>0<m.atoms.length∧m.atoms.getD 0 default<0)) ang anh a ha)
def ani:=fun a ha=>(dh a ha).1
def anj:=fun a ha=>(dh a ha).2
def Zz:=mk Tryz.func75 (hlC Zy.ok hlN) (akw (std 0) MG)
noncomputable def MI:=Zz.c
def bY:=fun a ha=>Zz.cs (alO (G:=(fun m:aj=>0<m.atoms.length∧m.atoms.getD 0 default<0)) ani anj a ha)
def ank:=fun a ha=>(bY a ha).1
def anl:=fun a ha=>(bY a ha).2
def zi:=mk Tryz.func28 (hlC kI.ok (hlC Tn.ok (hlC Zv.ok (hlC Hz.ok (hlC Zz.ok hlN))))) (akx (std 0) aW vX MH jl MI)
noncomputable def dU:=zi.c
def zk:=fun a ha=>zi.cs (alP kJ kL aci acj am6 am7 Tj Tk ank anl a ha)
def FP:=fun a ha=>(zk a ha).1
def FQ:=fun a ha=>(zk a ha).2
def Tq:=mk Tryz.func12 (hlC zi.ok hlN) (aky (std 0) dU)
noncomputable def vZ:=Tq.c
def wP:=fun a ha=>Tq.cs (alV FP FQ a ha)
def acn:=fun a ha=>(wP a ha).1
def aco:=fun a ha=>(wP a ha).2
def NP:=mk Tryz.func14 (hlC Zr.ok (hlC Zq.ok (hlC Hz.ok hlN))) (akz (std 0) FY xP jl)
noncomputable def mI:=NP.c
def rG:=fun a b ha=>NP.cs (alQ am0 am1 ahf ahg Tj Tk a b ha)
def ZA:=fun a b ha=>(rG a b ha).1
def ZB:=fun a b ha=>(rG a b ha).2
def NQ:=mk Tryz.func126 hlN (akA (std 0))
noncomputable def vY:=NQ.c
def acp:=fun a ha=>(NQ.cs (ab7 a ha)).1
def acr:=fun a ha=>(NQ.cs (ab7 a ha)).2
def NR:=mk Tryz.func78 (hlC NQ.ok hlN) (akB (std 0) vY)
noncomputable def mH:=NR.c
def kM:=fun a ha=>NR.cs (alW acp acr a ha)
def ZE:=fun a ha=>(kM a ha).1
def ZF:=fun a ha=>(kM a ha).2
def ZG:=mk Tryz.func77 (hlC NR.ok hlN) (akC (std 0) mH)
noncomputable def MJ:=ZG.c
def nQ:=fun a ha=>ZG.cs (amy ZE ZF a ha)
def anm:=fun a ha=>(nQ a ha).1
def ano:=fun a ha=>(nQ a ha).2
def ZH:=mk Tryz.func29 (hlC NR.ok (hlC ZG.ok hlN)) (akD (std 0) mH MJ)
noncomputable def MK:=ZH.c
def lC:=fun s hs=>ZH.cs (amA ZE ZF anm ano s hs)
def anp:=fun s hs=>(lC s hs).1
def anq:=fun s hs=>(lC s hs).2
def Bf:=mk Tryz.func30 (hlC NP.ok hlN) (akE (std 0) mI)
noncomputable def fJ:=Bf.c
def lD:=fun a b ha=>Bf.cs (alR ZA ZB a b ha)
def HV:=fun a b ha=>(lD a b ha).1
def HZ:=fun a b ha=>(lD a b ha).2
end Go.TX.F
namespace Go.TX.F
open Go Go.AE Go.TX Go.TX.Seat Go.Proofs
set_option maxRecDepth 100000
def Bg:=mk Tryz.func39 (hlC kI.ok hlN) (akF (std 0) aW)
noncomputable def gW:=Bg.c
def NS:=fun a=>(Bg.cs (ab1 kJ kL a)).1
def NT:=fun a=>(Bg.cs (ab1 kJ kL a)).2
def ZI:=mk Tryz.func31 (hlC Bg.ok hlN) (akG (std 0) gW)
noncomputable def ML:=ZI.c
def wQ:=fun r a b=>ZI.cs (amx NS NT r a b)
def anr:=fun r a b=>(wQ r a b).1
def ant:=fun r a b=>(wQ r a b).2
def ZJ:=mk Tryz.func6 (hlC Tq.ok (hlC zi.ok (hlC NP.ok (hlC ZH.ok (hlC Bf.ok (hlC ZI.ok hlN)))))) (akH (std 0) vZ dU mI MK fJ ML)
noncomputable def Nh:=ZJ.c
def wR:=fun s n hs h0 h1=>ZJ.cs (amF acn aco FP FQ ZA ZB anp anq HV HZ anr ant s n hs h0 h1)
def anu:=fun s n hs h0 h1=>(wR s n hs h0 h1).1
def anv:=fun s n hs h0 h1=>(wR s n hs h0 h1).2
def JF:=mk Tryz.func84 (hlC kX.ok (hlC yc.ok hlN)) (afm (std 0) bq gF)
noncomputable def oU:=JF.c
def uQ:=fun c b p hc hb h1 h2=>JF.cs (agk qP qQ Jz JA c b p hc hb h1 h2)
def ZK:=fun c b p hc hb h1 h2=>(uQ c b p hc hb h1 h2).1
def ZL:=fun c b p hc hb h1 h2=>(uQ c b p hc hb h1 h2).2
def Rv:=mk Tryz.func82 (hlC QY.ok (hlC kX.ok (hlC JF.ok (hlC Rt.ok hlN)))) (afn (std 0) ER bq oU ET)
noncomputable def EU:=Rv.c
def nS:=fun n b p hb h1 h2=>Rv.cs (agl agy agz qP qQ ZK ZL ahd ahe n b p hb h1 h2)
def ahh:=fun n b p hb h1 h2=>(nS n b p hb h1 h2).1
def ahi:=fun n b p hb h1 h2=>(nS n b p hb h1 h2).2
def Rw:=mk Tryz.func83 (hlC kX.ok (hlC yc.ok hlN)) (afo (std 0) bq gF)
noncomputable def EW:=Rw.c
def qd:=fun c b p ok hc hb h1 h2=>Rw.cs (agj qP qQ Jz JA c b p ok hc hb h1 h2)
def ahj:=fun c b p ok hc hb h1 h2=>(qd c b p ok hc hb h1 h2).1
def ahk:=fun c b p ok hc hb h1 h2=>(qd c b p ok hc hb h1 h2).2
def Rx:=mk Tryz.func44 (hlC qR.ok (hlC JE.ok (hlC FL.ok (hlC kX.ok (hlC JF.ok (hlC Rv.ok (hlC Rw.ok hlN))))))) (afp (std 0) bP oQ jc bq oU EU EW)
noncomputable def EY:=Rx.c
def uR:=fun n b p hb h1 h2=>Rx.cs (agm xV xW Zn Zo Rl Rm qP qQ ZK ZL ahh ahi ahj ahk n b p hb h1 h2)
def ahl:=fun n b p hb h1 h2=>(uR n b p hb h1 h2).1
def ahm:=fun n b p hb h1 h2=>(uR n b p hb h1 h2).2
def Ry:=mk Tryz.func15 (hlC Jo.ok (hlC Rx.ok hlN)) (afq (std 0) EX EY)
noncomputable def E8:=Ry.c
def mW:=fun c hc hl=>Ry.cs (agn agu agv ahl ahm c hc hl)
def ahn:=fun c hc hl=>(mW c hc hl).1
def aho:=fun c hc hl=>(mW c hc hl).2
def Tt:=mk Tryz.func93 (hlC kI.ok hlN) (akI (std 0) aW)
noncomputable def wm:=Tt.c
def rH:=fun o=>Tt.cs (ams kJ kL o)
def acs:=fun o=>(rH o).1
def acu:=fun o=>(rH o).2
def NU:=mk Tryz.func127 (hlC kI.ok hlN) (akJ (std 0) aW)
noncomputable def wu:=NU.c
def acv:=fun a=>(NU.cs (ab3 kJ kL a)).1
def acw:=fun a=>(NU.cs (ab3 kJ kL a)).2
def NV:=mk Tryz.func128 (hlC kI.ok hlN) (akK (std 0) aW)
noncomputable def wo:=NV.c
def acy:=fun a=>(NV.cs (ab2 kJ kL a)).1
def acz:=fun a=>(NV.cs (ab2 kJ kL a)).2
def ZM:=mk Tryz.func160 (hlC kI.ok hlN) (akL (std 0) aW)
noncomputable def MN:=ZM.c
def kN:=fun o=>ZM.cs (amt kJ kL o)
def anw:=fun o=>(kN o).1
def anx:=fun o=>(kN o).2
def abw:=mk Tryz.func129 (hlC ZM.ok (hlC kI.ok hlN)) (aqg (std 0) MN aW)
noncomputable def FZ:=abw.c
def kP:=fun b x n h0 h1 h2=>abw.cs (aqp anw anx kJ kL b x n h0 h1 h2)
def anz:=fun b x n h0 h1 h2=>(kP b x n h0 h1 h2).1
def anA:=fun b x n h0 h1 h2=>(kP b x n h0 h1 h2).2
def ahp:=mk Tryz.func85 (hlC abw.ok (hlC Tt.ok (hlC Bg.ok (hlC kI.ok (hlC NV.ok (hlC NU.ok hlN)))))) (aqh (std 0) FZ wm gW aW wo wu)
noncomputable def Yk:=ahp.c
def lF:=fun b i h0 h1 h2 h3=>ahp.cs (aqr anz anA acs acu NS NT kJ kL acy acz acv acw b i h0 h1 h2 h3)
def aqD:=fun b i h0 h1 h2 h3=>(lF b i h0 h1 h2 h3).1
def aqE:=fun b i h0 h1 h2 h3=>(lF b i h0 h1 h2 h3).2
def ZN:=mk Tryz.func99 hlN (aqi (std 0))
noncomputable def F4:=ZN.c
def anB:=fun b=>(ZN.cs (amv b)).1
def anC:=fun b=>(ZN.cs (amv b)).2
def ahq:=mk Tryz.func86 (hlC ZN.ok (hlC abw.ok (hlC Bg.ok (hlC kI.ok hlN)))) (aqj (std 0) F4 FZ gW aW)
noncomputable def Yj:=ahq.c
def kQ:=fun b h2=>ahq.cs (aqs anB anC anz anA NS NT kJ kL b h2)
def aqF:=fun b h2=>(kQ b h2).1
def aqG:=fun b h2=>(kQ b h2).2
def NW:=mk Tryz.func47 (hlC ahq.ok (hlC ahp.ok (hlC kI.ok hlN))) (akM (std 0) Yj Yk aW)
noncomputable def mJ:=NW.c
def Bh:=fun b h2=>NW.cs (amw aqF aqG aqD aqE kJ kL b h2)
def ZO:=fun b h2=>(Bh b h2).1
def ZP:=fun b h2=>(Bh b h2).2
def Tv:=mk Tryz.func17 (hlC NW.ok hlN) (akN (std 0) mJ)
noncomputable def wz:=Tv.c
def uS:=fun b hb=>Tv.cs (amV ZO ZP b hb)
def acA:=fun b hb=>(uS b hb).1
def acB:=fun b hb=>(uS b hb).2
def Tw:=mk Tryz.func45 hlN (akO (std 0))
noncomputable def MO:=Tw.c
def anD:=fun a b h0 h1 h2 h3=>(Tw.cs (ach a b h0 h1 h2 h3)).1
def anE:=fun a b h0 h1 h2 h3=>(Tw.cs (ach a b h0 h1 h2 h3)).2
def abx:=mk Tryz.func46 hlN (aqk (std 0))
noncomputable def Yl:=abx.c
def aqH:=fun a b ha hb=>(abx.cs (amU a b ha hb)).1
def aqI:=fun a b ha hb=>(abx.cs (amU a b ha hb)).2
def ZQ:=mk Tryz.func16 (hlC abx.ok (hlC Tv.ok (hlC Tw.ok hlN))) (akP (std 0) Yl wz MO)
noncomputable def Nv:=ZQ.c
def wS:=fun l hl hlen=>ZQ.cs (amW aqH aqI acA acB anD anE l hl hlen)
def anF:=fun l hl hlen=>(wS l hl hlen).1
def anG:=fun l hl hlen=>(wS l hl hlen).2
def Tx:=mk Tryz.func89 hlN (akQ (std 0))
noncomputable def MQ:=Tx.c
def anH:=fun a b ha=>(Tx.cs (acf a b ha)).1
def anI:=fun a b ha=>(Tx.cs (acf a b ha)).2
def ZR:=mk Tryz.func51 (hlC Tx.ok hlN) (akR (std 0) MQ)
noncomputable def Nr:=ZR.c
def wT:=fun a b ha=>ZR.cs (amM anH anI a b ha)
def anJ:=fun a b ha=>(wT a b ha).1
def anK:=fun a b ha=>(wT a b ha).2
def Tz:=mk Tryz.func131 (hlC kI.ok (hlC NV.ok (hlC Tn.ok (hlC zi.ok (hlC NU.ok hlN))))) (akS (std 0) aW wo vX dU wu)
noncomputable def wB:=Tz.c
def jH:=fun a n ha=>Tz.cs (al4 kJ kL acy acz aci acj FP FQ acv acw a n ha)
def acC:=fun a n ha=>(jH a n ha).1
def acD:=fun a n ha=>(jH a n ha).2
def ZT:=mk Tryz.func163 (hlC Bf.ok hlN) (akT (std 0) fJ)
noncomputable def MR:=ZT.c
def lG:=fun a b ha=>ZT.cs (al0 HV HZ a b ha)
def anL:=fun a b ha=>(lG a b ha).1
def anM:=fun a b ha=>(lG a b ha).2
def ZU:=mk Tryz.func162 (hlC ZT.ok hlN) (akU (std 0) MR)
noncomputable def MS:=ZU.c
def kR:=fun a b hb=>ZU.cs (al1 anL anM a b hb)
def anN:=fun a b hb=>(kR a b hb).1
def anO:=fun a b hb=>(kR a b hb).2
def ZV:=mk Tryz.func161 (hlC ZU.ok hlN) (akV (std 0) MS)
noncomputable def MU:=ZV.c
def dw:=fun a b ha hb=>ZV.cs (al2 anN anO a b ha hb)
def anP:=fun a b ha hb=>(dw a b ha hb).1
def anQ:=fun a b ha hb=>(dw a b ha hb).2
end Go.TX.F
namespace Go.TX.F
open Go Go.AE Go.TX Go.TX.Seat Go.Proofs
set_option maxRecDepth 100000
def TA:=mk Tryz.func132 (hlC ZV.ok hlN) (akW (std 0) MU)
noncomputable def wC:=TA.c
def mX:=fun a b ha hb=>TA.cs (al3 anP anQ a b ha hb)
def acE:=fun a b ha hb=>(mX a b ha hb).1
def acF:=fun a b ha hb=>(mX a b ha hb).2
def ZW:=mk Tryz.func168 hlN (akX (std 0))
noncomputable def MV:=ZW.c
def dP:=fun a=>ZW.cs (alZ a)
def anR:=fun a=>(dP a).1
def anS:=fun a=>(dP a).2
def TB:=mk Tryz.func134 (hlC Tz.ok (hlC TA.ok (hlC ZW.ok hlN))) (akY (std 0) wB wC MV)
noncomputable def wE:=TB.c
def nU:=fun t a ht ha=>TB.cs (al6 acC acD acE acF anR anS t a ht ha)
def acG:=fun t a ht ha=>(nU t a ht ha).1
def acH:=fun t a ht ha=>(nU t a ht ha).2
def TD:=mk Tryz.func135 (hlC kI.ok hlN) (akZ (std 0) aW)
noncomputable def wD:=TD.c
def uT:=fun a=>TD.cs (alU kJ kL a)
def acI:=fun a=>(uT a).1
def acJ:=fun a=>(uT a).2
def TF:=mk Tryz.func98 (hlC TD.ok (hlC TB.ok hlN)) (ak0 (std 0) wD wE)
noncomputable def wF:=TF.c
def qg:=fun kd k t fl ht=>TF.cs (amB acI acJ acG acH kd k t fl ht)
def acK:=fun kd k t fl ht=>(qg kd k t fl ht).1
def acL:=fun kd k t fl ht=>(qg kd k t fl ht).2
def TG:=mk Tryz.func90 (hlC TF.ok hlN) (ak1 (std 0) wF)
noncomputable def wH:=TG.c
def nW:=fun t fl ht hl=>TG.cs (amC acK acL t fl ht hl)
def acM:=fun t fl ht hl=>(nW t fl ht hl).1
def acN:=fun t fl ht hl=>(nW t fl ht hl).2
def TH:=mk Tryz.func91 (hlC NR.ok hlN) (ak2 (std 0) mH)
noncomputable def wG:=TH.c
def lH:=fun a ha=>TH.cs (alX ZE ZF a ha)
def acO:=fun a ha=>(lH a ha).1
def acP:=fun a ha=>(lH a ha).2
def ZX:=mk Tryz.func52 (hlC TH.ok (hlC TG.ok hlN)) (ak3 (std 0) wG wH)
noncomputable def Ns:=ZX.c
def wU:=ZX.cs (amE acO acP acM acN)
def anT:=(wU).1
def anU:=(wU).2
def ZY:=mk Tryz.func92 (hlC Tz.ok (hlC TA.ok hlN)) (ak4 (std 0) wB wC)
noncomputable def Ni:=ZY.c
def zl:=fun a ha=>ZY.cs (al5 acC acD acE acF a ha)
def anV:=fun a ha=>(zl a ha).1
def anW:=fun a ha=>(zl a ha).2
def Z0:=mk Tryz.func94 (hlC kI.ok hlN) (ak5 (std 0) aW)
noncomputable def Ng:=Z0.c
def nX:=fun o=>Z0.cs (amu kJ kL o)
def anX:=fun o=>(nX o).1
def anY:=fun o=>(nX o).2
def Z4:=mk Tryz.func95 hlN (ak6 (std 0))
noncomputable def Nk:=Z4.c
def dM:=fun a h0 h1=>Z4.cs (amD a h0 h1)
def anZ:=fun a h0 h1=>(dM a h0 h1).1
def an0:=fun a h0 h1=>(dM a h0 h1).2
def NY:=mk Tryz.func96 (hlC kI.ok hlN) (ak7 (std 0) aW)
noncomputable def mM:=NY.c
def rJ:=fun a=>NY.cs (alT kJ kL a)
def Z5:=fun a=>(rJ a).1
def Z6:=fun a=>(rJ a).2
def H6:=mk Tryz.func176 hlN (ak8 (std 0))
noncomputable def mK:=H6.c
def Z7:=fun a=>(H6.cs (ab6 a)).1
def Z8:=fun a=>(H6.cs (ab6 a)).2
def TI:=mk Tryz.func178 (hlC Hz.ok hlN) (ak9 (std 0) jl)
noncomputable def nM:=TI.c
def zm:=fun a b ha=>TI.cs (alY Tj Tk a b ha)
def acQ:=fun a b ha=>(zm a b ha).1
def acR:=fun a b ha=>(zm a b ha).2
def Z9:=mk Tryz.func194 (hlC TI.ok hlN) (ala (std 0) nM)
noncomputable def MW:=Z9.c
def dD:=fun a b d hd h1 h2 h3=>Z9.cs (al8 acQ acR a b d hd h1 h2 h3)
def an1:=fun a b d hd h1 h2 h3=>(dD a b d hd h1 h2 h3).1
def an2:=fun a b d hd h1 h2 h3=>(dD a b d hd h1 h2 h3).2
def JG:=mk Tryz.func203 hlN (afr (std 0))
noncomputable def EZ:=JG.c
def ahr:=fun a b n d hl h1 h2 h3 h4=>(JG.cs (Yu a b n d hl h1 h2 h3 h4)).1
def ahs:=fun a b n d hl h1 h2 h3 h4=>(JG.cs (Yu a b n d hl h1 h2 h3 h4)).2
def aac:=mk Tryz.func201 (hlC JG.ok hlN) (alb (std 0) EZ)
noncomputable def yU:=aac.c
def eY:=fun a m b d hl h1 h2 h3 h4=>aac.cs (al7 ahr ahs a m b d hl h1 h2 h3 h4)
def an3:=fun a m b d hl h1 h2 h3 h4=>(eY a m b d hl h1 h2 h3 h4).1
def an4:=fun a m b d hl h1 h2 h3 h4=>(eY a m b d hl h1 h2 h3 h4).2
noncomputable def cK:Nat→Ct aB mG
 | 0=>never mG
 | k+1=>cn (Ej (std 0) nM.pre nM.fn yU.pre yU.fn (cK k).pre (cK k).fn)
theorem kK:∀k:Nat,cu E 195 (bW (cK k))∧∀(a m b:Int) (d:List aj),zY a m b d→b-a<k→(cK k).pre (a,m,b,d,())=true∧Mrg d ((cK k).fn (a,m,b,d,())).1 a b
 | 0=>⟨jG (enters_of Tryz.func195 (by kernel_rfl) rfl),fun a m b d h1 h2=>(by have g1:=h1.h2;have g2:=h1.h3;omega)⟩
 | k+1=>by
  have ih:=kK k
  have t:Fn E 195 (Ej (std 0) nM.pre nM.fn yU.pre yU.fn (cK k).pre (cK k).fn) (cK (k+1)):=mk Tryz.func195 (hlC TI.ok (hlC aac.ok (hlC ih.1 hlN))) (afs (std 0) nM yU (cK k))
  exact⟨t.ok,fun a m b d h1 h2=>t.cs (afF acQ acR an3 an4 (k:Int) (fun a m b d h1 h2=>(ih.2 a m b d h1 h2).1) (fun a m b d h1 h2=>(ih.2 a m b d h1 h2).2) a m b d h1 (by omega))⟩
noncomputable def oV:Ct aB mG:=cK 1000000000
theorem aht:cu E 195 (bW oV):=(kK 1000000000).1
theorem acS {a m b:Int} {d:List aj} (h:zY a m b d):b-a< ((1000000000:Nat):Int):=by have g0:=h.sh.1;have g1:=h.h1;have g2:=h.h4;omega
def ahu:=fun a m b d h=>((kK 1000000000).2 a m b d h (acS h)).1
def ahv:=fun a m b d h=>((kK 1000000000).2 a m b d h (acS h)).2
def aad:=mk Tryz.func183 (hlC Z9.ok (hlC aht hlN)) (alc (std 0) MW oV)
noncomputable def MX:=aad.c
def eZ:=fun n d hd hn=>aad.cs (ama an1 an2 ahu ahv n d hd hn)
def an5:=fun n d hd hn=>(eZ n d hd hn).1
def an6:=fun n d hd hn=>(eZ n d hd hn).2
def aae:=mk Tryz.func177 (hlC aad.ok hlN) (ald (std 0) MX)
noncomputable def MZ:=aae.c
def bT:=fun d hd=>aae.cs (amb an5 an6 d hd)
def an7:=fun d hd=>(bT d hd).1
def an8:=fun d hd=>(bT d hd).2
def TJ:=mk Tryz.func172 (hlC Hz.ok (hlC zi.ok (hlC H6.ok (hlC NQ.ok (hlC aae.ok hlN))))) (ale (std 0) jl dU mK vY MZ)
noncomputable def wI:=TJ.c
def FR:=fun l hl hc=>TJ.cs (amc Tj Tk FP FQ Z7 Z8 acp acr an7 an8 l hl hc)
def acT:=fun l hl hc=>(FR l hl hc).1
def acU:=fun l hl hc=>(FR l hl hc).2
def aaf:=mk Tryz.func179 hlN (alf (std 0))
noncomputable def M0:=aaf.c
def dQ:=fun n h1 h2=>aaf.cs (amd n h1 h2)
def an9:=fun n h1 h2=>(dQ n h1 h2).1
def aoa:=fun n h1 h2=>(dQ n h1 h2).2
def aag:=mk Tryz.func173 (hlC aaf.ok hlN) (alg (std 0) M0)
noncomputable def M4:=aag.c
def dI:=fun a b ha hb=>aag.cs (ame an9 aoa a b ha hb)
def aob:=fun a b ha hb=>(dI a b ha hb).1
def aoc:=fun a b ha hb=>(dI a b ha hb).2
def aah:=mk Tryz.func164 (hlC zi.ok (hlC TJ.ok (hlC aag.ok hlN))) (alh (std 0) dU wI M4)
noncomputable def Na:=aah.c
def wV:=fun a b ha hb=>aah.cs (amg FP FQ acT acU aob aoc a b ha hb)
def aod:=fun a b ha hb=>(wV a b ha hb).1
def aoe:=fun a b ha hb=>(wV a b ha hb).2
def TK:=mk Tryz.func180 hlN (ali (std 0))
noncomputable def M5:=TK.c
def aof:=fun n h1 h2=>(TK.cs (ab8 n h1 h2)).1
def aog:=fun n h1 h2=>(TK.cs (ab8 n h1 h2)).2
def aai:=mk Tryz.func174 (hlC TK.ok hlN) (alj (std 0) M5)
noncomputable def M7:=aai.c
def jq:=fun a b ha hb=>aai.cs (amf aof aog a b ha hb)
def aoh:=fun a b ha hb=>(jq a b ha hb).1
def aoi:=fun a b ha hb=>(jq a b ha hb).2
def aaj:=mk Tryz.func184 (hlC Zu.ok hlN) (alk (std 0) xQ)
noncomputable def M6:=aaj.c
def fK:=fun a b d hd h1 h2=>aaj.cs (aml am4 am5 a b d hd h1 h2)
def aoj:=fun a b d hd h1 h2=>(fK a b d hd h1 h2).1
def aol:=fun a b d hd h1 h2=>(fK a b d hd h1 h2).2
end Go.TX.F
namespace Go.TX.F
open Go Go.AE Go.TX Go.TX.Seat Go.Proofs
set_option maxRecDepth 100000
noncomputable def GH:Ct aB LP:=never LP
theorem aom:cu E 185 (bW GH):=jG (enters_of Tryz.func185 (by kernel_rfl) rfl)
noncomputable def GI:Ct aB LQ:=never LQ
theorem aon:cu E 186 (bW GI):=jG (enters_of Tryz.func186 (by kernel_rfl) rfl)
noncomputable def GJ:Ct aB LU:=never LU
theorem aoo:cu E 187 (bW GJ):=jG (enters_of Tryz.func187 (by kernel_rfl) rfl)
noncomputable def GK:Ct aB LW:=never LW
theorem aop:cu E 188 (bW GK):=jG (enters_of Tryz.func188 (by kernel_rfl) rfl)
noncomputable def GL:Ct aB LY:=never LY
theorem aoq:cu E 189 (bW GL):=jG (enters_of Tryz.func189 (by kernel_rfl) rfl)
noncomputable def GN:Ct aB LZ:=never LZ
theorem aor:cu E 190 (bW GN):=jG (enters_of Tryz.func190 (by kernel_rfl) rfl)
noncomputable def GQ:Ct aB L6:=never L6
theorem aos:cu E 191 (bW GQ):=jG (enters_of Tryz.func191 (by kernel_rfl) rfl)
noncomputable def gY:Ct aB vW:=never vW
theorem kY:cu E 181 (bW gY):=jG (enters_of Tryz.func181 (by kernel_rfl) rfl)
def aak:=mk Tryz.func181 (hlC Zu.ok (hlC aaj.ok (hlC aom (hlC aon (hlC aoo (hlC aop (hlC aoq (hlC aor (hlC aos (hlC kY hlN)))))))))) (alm (std 0) xQ M6 GH GI GJ GK GL GN GQ gY)
noncomputable def yV:=aak.c
def iw:=fun a b k d hd h1 h2=>aak.cs (amm aoj aol _ _ _ _ _ _ _ _ _ _ _ _ _ _ _ _ a b k d hd h1 h2)
def aot:=fun a b k d hd h1 h2=>(iw a b k d hd h1 h2).1
def aou:=fun a b k d hd h1 h2=>(iw a b k d hd h1 h2).2
noncomputable def E5:Ct aB Sn:={pre:=fun x=>decide ((0:Int)≤x.1)&&decide ((x.1:Int)≤18446744073709551615),fn:=fun x=>((Lib.bitLen (x.1:Int).toNat:Int),())}
theorem aov (n:Int) (h1:0≤n) (h2:n≤18446744073709551615):E5.pre (n,())=true:=by
 show(decide _&&decide _)=true;simp only [Bool.and_eq_true,decide_eq_true_eq];exact⟨h1,h2⟩
theorem aow:cu E 182 (bW E5):=
 Y7 (enters_of Tryz.func182 (by kernel_rfl) rfl) rfl fun x w h=>by
  have h':(decide ((0:Int)≤x)&&decide (x≤18446744073709551615))=true:=h
  simp only [Bool.and_eq_true,decide_eq_true_eq]at h'
  exact bits_Len x w h'.1 h'.2
def aal:=mk Tryz.func175 (hlC aak.ok (hlC aow hlN)) (aln (std 0) yV E5)
noncomputable def M8:=aal.c
def jK:=fun a ha=>aal.cs (amn aot aou aov a ha)
def aox:=fun a ha=>(jK a ha).1
def aoy:=fun a ha=>(jK a ha).2
def TL:=mk Tryz.func166 (hlC zi.ok (hlC H6.ok (hlC TJ.ok (hlC aai.ok (hlC aal.ok hlN))))) (alo (std 0) dU mK wI M7 M8)
noncomputable def wJ:=TL.c
def wW:=fun a b ha hb=>TL.cs (amh FP FQ Z7 Z8 acT acU aoh aoi aox aoy a b ha hb)
def acV:=fun a b ha hb=>(wW a b ha hb).1
def acW:=fun a b ha hb=>(wW a b ha hb).2
def aam:=mk Tryz.func165 (hlC zi.ok (hlC NY.ok (hlC Bg.ok (hlC TL.ok hlN)))) (alp (std 0) dU mM gW wJ)
noncomputable def Nb:=aam.c
def rM:=fun a n ha=>aam.cs (ami FP FQ Z5 Z6 NS NT acV acW a n ha)
def aoz:=fun a n ha=>(rM a n ha).1
def aoA:=fun a n ha=>(rM a n ha).2
def aan:=mk Tryz.func167 (hlC Bg.ok (hlC H6.ok hlN)) (alq (std 0) gW mK)
noncomputable def M9:=aan.c
def zn:=fun op a b=>aan.cs (alS NS NT Z7 Z8 op a b)
def aoB:=fun op a b=>(zn op a b).1
def aoC:=fun op a b=>(zn op a b).2
def aao:=mk Tryz.func133 (hlC Bf.ok (hlC NY.ok (hlC aan.ok (hlC aah.ok (hlC TL.ok (hlC aam.ok (hlC Tq.ok hlN))))))) (alr (std 0) fJ mM M9 Na wJ Nb vZ)
noncomputable def Nc:=aao.c
def wX:=fun op x y hx hy=>aao.cs (amj HV HZ Z5 Z6 aoB aoC aod aoe acV acW aoz aoA acn aco op x y hx hy)
def aoD:=fun op x y hx hy=>(wX op x y hx hy).1
def aoE:=fun op x y hx hy=>(wX op x y hx hy).2
def aap:=mk Tryz.func97 (hlC NP.ok (hlC aao.ok (hlC TB.ok (hlC TD.ok hlN)))) (als (std 0) mI Nc wE wD)
noncomputable def Nj:=aap.c
def qh:=fun t op x y ht hx hy=>aap.cs (amk ZA ZB aoD aoE acG acH acI acJ t op x y ht hx hy)
def aoF:=fun t op x y ht hx hy=>(qh t op x y ht hx hy).1
def aoG:=fun t op x y ht hx hy=>(qh t op x y ht hx hy).2
def aaq:=mk Tryz.func53 (hlC ZN.ok (hlC NW.ok (hlC Z0.ok (hlC Tt.ok (hlC NY.ok (hlC ZJ.ok (hlC ZY.ok (hlC TH.ok (hlC aap.ok (hlC TF.ok (hlC TG.ok (hlC Z4.ok hlN)))))))))))) (alu (std 0) F4 mJ Ng wm mM Nh Ni wG Nj wF wH Nk)
noncomputable def Nt:=aaq.c
def wY:=fun t b ht hb=>aaq.cs (amG anB anC ZO ZP anX anY acs acu Z5 Z6 anu anv anV anW acO acP aoF aoG acK acL acM acN anZ an0 t b ht hb)
def aoH:=fun t b ht hb=>(wY t b ht hb).1
def aoI:=fun t b ht hb=>(wY t b ht hb).2
def aar:=mk Tryz.func137 (hlC Bf.ok hlN) (alv (std 0) fJ)
noncomputable def Nl:=aar.c
def mY:=fun a b ha=>aar.cs (amN HV HZ a b ha)
def aoJ:=fun a b ha=>(mY a b ha).1
def aoK:=fun a b ha=>(mY a b ha).2
def aas:=mk Tryz.func136 (hlC aar.ok hlN) (alx (std 0) Nl)
noncomputable def Nn:=aas.c
def aY:=fun a b ha=>aas.cs (amO aoJ aoK a b ha)
def aoL:=fun a b ha=>(aY a b ha).1
def aoM:=fun a b ha=>(aY a b ha).2
def TM:=mk Tryz.func102 (hlC aas.ok hlN) (aly (std 0) Nn)
noncomputable def wK:=TM.c
def ql:=fun a b ha=>TM.cs (amP aoL aoM a b ha)
def acX:=fun a b ha=>(ql a b ha).1
def acY:=fun a b ha=>(ql a b ha).2
def aat:=mk Tryz.func101 (hlC Bf.ok (hlC TM.ok hlN)) (alz (std 0) fJ wK)
noncomputable def Np:=aat.c
def qm:=fun a b ha=>aat.cs (amQ HV HZ acX acY a b ha)
def aoN:=fun a b ha=>(qm a b ha).1
def aoO:=fun a b ha=>(qm a b ha).2
def aau:=mk Tryz.func100 (hlC aat.ok hlN) (alA (std 0) Np)
noncomputable def Nq:=aau.c
def aU:=fun a b ha=>aau.cs (amR aoN aoO a b ha)
def aoP:=fun a b ha=>(aU a b ha).1
def aoQ:=fun a b ha=>(aU a b ha).2
def aav:=mk Tryz.func54 (hlC Bf.ok (hlC TM.ok (hlC aau.ok hlN))) (alB (std 0) fJ wK Nq)
noncomputable def Nu:=aav.c
def uU:=fun a b ha=>aav.cs (amS HV HZ acX acY aoP aoQ a b ha)
def aoR:=fun a b ha=>(uU a b ha).1
def aoS:=fun a b ha=>(uU a b ha).2
def ahw:=mk Tryz.func19 (hlC NW.ok (hlC ZR.ok (hlC ZX.ok (hlC aaq.ok (hlC aav.ok hlN))))) (aql (std 0) mJ Nr Ns Nt Nu)
noncomputable def Ym:=ahw.c
def uV:=fun b c hb hc=>ahw.cs (aqx ZO ZP anJ anK anT anU aoH aoI aoR aoS b c hb hc)
def aqJ:=fun b c hb hc=>(uV b c hb hc).1
def aqK:=fun b c hb hc=>(uV b c hb hc).2
def acZ:=mk Tryz.func4 (hlC ahw.ok (hlC Tv.ok (hlC ZQ.ok (hlC Ry.ok (hlC qR.ok hlN))))) (alC (std 0) Ym wz Nv E8 bP)
def nY:=fun c hc=>acZ.cs (amX aqJ aqK acA acB anF anG ahn aho xV xW c hc)
def aoT:=fun c hc=>(nY c hc).1
def aoU:=fun c hc=>(nY c hc).2
end Go.TX.F
namespace Go.Proofs.YtdmoejehiedihaaGreat
open Go.ChangeShapes Go.WideShapes Go.ChangeAt Go.RowKit
theorem aqL:ownKnob Tryz.prog.godebug=Option.none:=by kernel_rfl
theorem aoV:laidOutB Tryz.prog=true:=by kernel_rfl
theorem ahx:Tryz.prog.cellsOf 5=1:=by kernel_rfl
set_option maxRecDepth 100000 in
theorem lifted (os:Os) (started:os.Started) (H:Type) (enc:TypeId×Value→H):
  ReturnsInHanded {} Tryz.checked os 4 .any (Rows.fnChkBytesSpec.pre6 enc Tryz.prog Tryz.f4 Rows.fnChkBytesRow.domain false) (Rows.fnChkBytesSpec.post enc Tryz.prog Tryz.f4 false true false false):=by
 refine returnsInHanded_of_change (C:=Tryz.checked) aqL started (by kernel_rfl) Tryz.func4
  (ChangeSpec.witness6 (enc:=enc) (C:=Tryz.checked) false ⟨#[], #[.slice none 0 0],[]⟩ 8 (by kernel_rfl) (by kernel_rfl) (by kernel_rfl) (by kernel_rfl)) ?_
 intro W base args ds gs before hval0 hW _ _
 have hval:∀(j:Nat) t v,Tryz.f4.params[j]? =some t→args[j]? =some v→Value.okWide Tryz.prog W .any base t v:=hval0
 have hW':=hW
 obtain⟨p,q,hA0,hV,rfl,_,_⟩:=hW
 have hA:DataW.TrodAll enc Tryz.prog W 0 (fun _=>true) true Tryz.f4.params.toList args.toList ds p:=hA0
 rw [Tryz.params4]at hA hval
 obtain⟨v0,d0,rfl,rfl,h0⟩:=trodAll_one hA
 obtain⟨rfl,rfl⟩:=trodVars_none hV
 clear hA0 hval0
 simp only [List.append_nil]at hW'
 have hlt:∀x∈p,x.block<W.heap.size:=fun x hx=>by simpa using hW'.lt x hx
 obtain⟨xs,hr,hb⟩:=Go.TX.Y6 Tryz.underlying22 Tryz.underlying5 ahx (hval 0 22 v0 rfl rfl) h0 hlt
 have hp:=Go.TX.F.aoT xs hb
 have hq:=Go.TX.F.aoU xs hb
 refine(Go.TX.aqA Go.TX.F.acZ.ok hr (fun g d h=>by cases h) hp).mono fun e W' ⟨he,hw⟩=> ?_
 have he:e= .returned (.bool true):=he.trans (congrArg (fun z:Bool×Unit=>Ending.returned (.bool z.1)) hq)
 refine⟨_,he,[d0],[],p,[],p,[],hW',trodAll_mk1 (shut_bool Tryz.underlying4 true),?_,rfl,hw.frame _,fun h=>by cases h⟩
 exact trodAll_mk1 (Below.trod aoV (by kernel_rfl) (of_decide_eq_true (by kernel_rfl)) h0 hw hlt)
theorem y1:Tryz.pinned.checked.prog.funcNamed Rows.fnChkBytesRow.func=some 4:=by kernel_rfl
theorem aS {a b:Bool} (h:a=true) (k:b=true):(a&&b)=true:=by rw [h,k];rfl
set_option maxHeartbeats 4000000 in
theorem y2:joinedFacts Tryz.pinned.checked.prog 4 Tryz.f4 Rows.fnChkBytesSpec Rows.fnChkBytesRow=true:=by
 unfold joinedFacts
 repeat' with_reducible apply aS
 all_goals (as_aux_lemma=>kernel_rfl)
theorem y3:Func.isWrapper Tryz.prog Tryz.f4 Rows.fnChkBytesRow.wrapper Rows.fnChkBytesRow.mainSum:=(by unfold Func.isWrapper;first | (rw [if_pos (by decide+kernel)];kernel_rfl) | (rw [if_neg (by decide+kernel)];exact⟨rfl,rfl⟩))
theorem x_holds:Rows.FnChkBytesSaid:=
 OpenClaim.holds_of_wide 4 Tryz.f4 rfl rfl rfl rfl rfl rfl rfl ⟨rfl,rfl,rfl,rfl,rfl⟩ rfl rfl rfl rfl rfl y1 Tryz.func4 y2
  (of_decide_eq_true (by kernel_rfl)) y3
  (fun os started H enc _=>lifted os started H enc)
end Go.Proofs.YtdmoejehiedihaaGreat
